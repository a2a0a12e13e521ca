/- Contracts of Go functions, written by a program of ours over the print of the kit: each says that the call returns what the Lean function beside it computes. Conditions: as each theorem states them. -/
import Derived.Test.YtcdnfkoahajhhaaPkFnExactPutItem
import Derived.Test.YtcdnfkoahajhhaaPFnExactPutItemx0
namespace Go.Proofs.Ytcdnfkoahajhhaa.PFnExactPutItem
open Go.RowKit Go.Proofs.YtcdnfkoahajhhaaW.PrintWords Go.Proofs.YtcdnfkoahajhhaaW.PrintLast Go.Proofs.YtcdnfkoahajhhaaW.PrintMore
attribute [local go_sem] max2_int min2_int max_two min_two max_three min_three max_four min_four   -- for this text's walks alone
set_option linter.unusedVariables false
set_option linter.unusedSimpArgs false

/-! ### spec_PutItem: function 23 -/
mutual
def spec_PutItem.l0 : Nat → Bool → Int → List (S38) → ByteArray → Bool → ByteArray → List (S38) → Option ((List (S38)))
 | 0, _, _, _, _, _, _, _ => none
 | k + 1, x6, x7, x150000, x151000, x151001, x151002, x153000 => if x7 < (x150000.length : Int) then (if x6 = true then (spec_PutItem.j1 k x6 x7 false x150000 x151000 x151001 x151002 x153000) else (if 0 ≤ x7 then (spec_PutItem.j1 k x6 x7 (Op.bytesLess x151000.toList (((rd_T38 x150000 x7).f0).toList)) x150000 x151000 x151001 x151002 x153000) else (none))) else (if x6 = true then (some x153000) else (if x153000.length < 3518437208883 then (some (x153000 ++ [(⟨x151000, x151001, x151002⟩ : S38)])) else (none)))
def spec_PutItem.j1 : Nat → Bool → Int → Bool → List (S38) → ByteArray → Bool → ByteArray → List (S38) → Option ((List (S38)))
 | 0, _, _, _, _, _, _, _, _ => none
 | k + 1, x6, x7, x28, x150000, x151000, x151001, x151002, x153000 => if x28 = true then (if x153000.length < 3518437208883 then ((some (x153000 ++ [(⟨x151000, x151001, x151002⟩ : S38)] : List (S38))).bind fun y157 => (if 0 ≤ x7 then (if x7 < (x150000.length : Int) then (if ((rd_T38 x150000 x7).f0).toList = x151000.toList then (spec_PutItem.l0 k true (wrap64 (x7 + 1)) x150000 x151000 x151001 x151002 y157) else (if y157.length < 3518437208883 then (spec_PutItem.l0 k true (wrap64 (x7 + 1)) x150000 x151000 x151001 x151002 (y157 ++ [(⟨(rd_T38 x150000 x7).f0, (rd_T38 x150000 x7).f1, (rd_T38 x150000 x7).f2⟩ : S38)])) else (none))) else (none)) else (none))) else (none)) else (if 0 ≤ x7 then (if x7 < (x150000.length : Int) then (if ((rd_T38 x150000 x7).f0).toList = x151000.toList then (spec_PutItem.l0 k x6 (wrap64 (x7 + 1)) x150000 x151000 x151001 x151002 x153000) else (if x153000.length < 3518437208883 then (spec_PutItem.l0 k x6 (wrap64 (x7 + 1)) x150000 x151000 x151001 x151002 (x153000 ++ [(⟨(rd_T38 x150000 x7).f0, (rd_T38 x150000 x7).f1, (rd_T38 x150000 x7).f2⟩ : S38)])) else (none))) else (none)) else (none))
end
def spec_PutItem.f (k : Nat) (l0_0 : List (S38)) (a1_0 : ByteArray) (a1_1 : Bool) (a1_2 : ByteArray) : Option ((List (S38))) := spec_PutItem.l0 k false 0 l0_0 a1_0 a1_1 a1_2 ([] : List (S38))
theorem spec_PutItem.mono_l : ∀ k, (∀ y0 y1 y2 y3 y4 y5 y6, LeO (spec_PutItem.l0 k y0 y1 y2 y3 y4 y5 y6) (spec_PutItem.l0 (k + 1) y0 y1 y2 y3 y4 y5 y6)) ∧ (∀ y0 y1 y2 y3 y4 y5 y6 y7, LeO (spec_PutItem.j1 k y0 y1 y2 y3 y4 y5 y6 y7) (spec_PutItem.j1 (k + 1) y0 y1 y2 y3 y4 y5 y6 y7))
 | 0 => ⟨fun _ _ _ _ _ _ _ r h => by simp [spec_PutItem.l0] at h, fun _ _ _ _ _ _ _ _ r h => by simp [spec_PutItem.j1] at h⟩
 | k + 1 => by
  obtain ⟨ih0, ih1⟩ := spec_PutItem.mono_l k
  refine ⟨?_, ?_⟩
  ·intro y0 y1 y2 y3 y4 y5 y6
   unfold spec_PutItem.l0
   repeat' first
   | (with_reducible exact ih0 _ _ _ _ _ _ _)
   | (with_reducible exact ih1 _ _ _ _ _ _ _ _)
   | (with_reducible exact LeO.refl _)
   | (with_reducible exact LeO.none _)
   | (with_reducible refine LeO.ite ?_ ?_)
   | (with_reducible refine LeO.bind ?_ (fun _ => ?_))
   | exact ih0 _ _ _ _ _ _ _
   | exact ih1 _ _ _ _ _ _ _ _
   | exact LeO.none _
   | refine LeO.ite ?_ ?_
   | refine LeO.bind ?_ (fun _ => ?_)
  ·intro y0 y1 y2 y3 y4 y5 y6 y7
   unfold spec_PutItem.j1
   repeat' first
   | (with_reducible exact ih0 _ _ _ _ _ _ _)
   | (with_reducible exact ih1 _ _ _ _ _ _ _ _)
   | (with_reducible exact LeO.refl _)
   | (with_reducible exact LeO.none _)
   | (with_reducible refine LeO.ite ?_ ?_)
   | (with_reducible refine LeO.bind ?_ (fun _ => ?_))
   | exact ih0 _ _ _ _ _ _ _
   | exact ih1 _ _ _ _ _ _ _ _
   | exact LeO.none _
   | refine LeO.ite ?_ ?_
   | refine LeO.bind ?_ (fun _ => ?_)
theorem spec_PutItem.mono : ∀ a0 a1 a2 a3 k, LeO (spec_PutItem.f k a0 a1 a2 a3) (spec_PutItem.f (k + 1) a0 a1 a2 a3) := by
 intro a0 a1 a2 a3 k
 obtain ⟨ih0, ih1⟩ := spec_PutItem.mono_l k
 unfold spec_PutItem.f
 repeat' first
   | (with_reducible exact ih0 _ _ _ _ _ _ _)
   | (with_reducible exact ih1 _ _ _ _ _ _ _ _)
   | (with_reducible exact LeO.refl _)
   | (with_reducible exact LeO.none _)
   | (with_reducible refine LeO.ite ?_ ?_)
   | (with_reducible refine LeO.bind ?_ (fun _ => ?_))
   | exact ih0 _ _ _ _ _ _ _
   | exact ih1 _ _ _ _ _ _ _ _
   | exact LeO.none _
   | refine LeO.ite ?_ ?_
   | refine LeO.bind ?_ (fun _ => ?_)
def spec_PutItem.T6 : Bool × List (List Nat × List Nat) := (true, [([], []), ([0], [0]), ([1], [1]), ([2], [2]), ([3, 2], [2, 3]), ([2], [2]), ([4, 5, 2], [2, 4, 5]), ([6, 2], [2, 6]), ([7, 2], [2, 7]), ([2], [2]), ([9, 2], [2, 9]), ([8, 10, 2], [2, 8, 10]), ([2, 11], [2, 11])])
def spec_PutItem.B6 : List Nat := [0, 1, 3, 7, 15, 7, 63, 127, 255, 7, 519, 2047, 4095]
theorem spec_PutItem.tab6 : rtab .any (opsOf Try.f23 6) = spec_PutItem.T6 := by kernel_rfl
theorem spec_PutItem.bits6 : waitsOk spec_PutItem.T6.2 spec_PutItem.B6 = true := by kernel_rfl
def spec_PutItem.T9 : Bool × List (List Nat × List Nat) := (true, [([], []), ([0], [0]), ([], []), ([1, 2], [1, 2]), ([3], [3]), ([4], [4]), ([], []), ([6], [6]), ([5, 7], [5, 7])])
def spec_PutItem.B9 : List Nat := [0, 1, 0, 7, 15, 31, 0, 64, 255]
theorem spec_PutItem.tab9 : rtab .any (opsOf Try.f23 9) = spec_PutItem.T9 := by kernel_rfl
theorem spec_PutItem.bits9 : waitsOk spec_PutItem.T9.2 spec_PutItem.B9 = true := by kernel_rfl
def spec_PutItem.T10 : Bool × List (List Nat × List Nat) := (true, [([], []), ([0], [0]), ([], []), ([2], [2]), ([], []), ([3, 4], [3, 4]), ([5], [5]), ([6], [6]), ([1, 7], [1, 7]), ([0, 1, 2, 3, 4, 5, 6, 7, 8], []), ([9, 8, 8, 0, 1, 2, 3, 4, 5, 6, 7, 8], [8, 9])])
def spec_PutItem.B10 : List Nat := [0, 1, 0, 4, 0, 28, 60, 124, 255, 511, 1023]
theorem spec_PutItem.tab10 : rtab .any (opsOf Try.f23 10) = spec_PutItem.T10 := by kernel_rfl
theorem spec_PutItem.bits10 : waitsOk spec_PutItem.T10.2 spec_PutItem.B10 = true := by kernel_rfl
set_option maxHeartbeats 8000000 in
set_option maxRecDepth 100000 in
theorem spec_PutItem.calls (k : Nat) (A0_0 : Option Addr) (c0_0 : Nat) (l0_0 : List (S38)) (a1_0 : ByteArray) (a1_1 : Bool) (a1_2 : ByteArray) (r : List (S38)) (w : World) (hr0_0 : Kd.C k38 w A0_0 l0_0.length l0_0) (hc0_0 : l0_0.length ≤ c0_0) (h : spec_PutItem.f k l0_0 a1_0 a1_1 a1_2 = some r) :
  Calls Try.prog 23 #[.agg #[.slice A0_0 l0_0.length c0_0], .agg #[.string a1_0, .bool a1_1, .string a1_2]] w fun e w' => ∃ v0_ : Value, e = .returned (.agg #[v0_]) ∧ Kd.R k38 38 w' w.heap.size (fun _ => True) v0_ r ∧ Below w.heap.size w w' := by
 have hu28 := Try.underlying28
 have hu38 := Try.underlying38
 have HR0_0 := Aside0.mk hr0_0
 have HC0_0 := Aside0.mk hc0_0
 clear hr0_0 hc0_0
 have HB := Aside0.mk (Below.refl w.heap.size w)
 have H : (spec_PutItem.l0 k false 0 l0_0 a1_0 a1_1 a1_2 ([] : List (S38))) = some r := h
 clear h
 have H' := Aside0.mk H
 clear H
 go_enter Try.func23, Try.ntmps23
 go_wp2_with (first | ((with_reducible refine gate_dst (N := 2) rfl ?_); refine box_event ?hg (N := 2) ?hd (cs := #[.slice A0_0 l0_0.length c0_0]) (t := 28) ?hr ?_; (case hd => rfl); (case hg => rfl); (case hr => first | (go_simp; done) | (go_simp; rfl)); intro gb149 hg w3 hbox hb; have n0_ := Aside0.mk (below_step tq_0 hb); have n1_ := Aside0.mk (hbox); have n2_ := Aside0.mk (gb_ hg tq_0); have n3_ := Aside0.mk (gb_ hg tq_0); clear HB; have HB := n0_; have BK149 := n1_; have GW149 := n2_; have GE149 := n3_; clear n0_ n1_ n2_ n3_; clear hb hbox hg) | ((with_reducible refine gate_dst (N := 3) rfl ?_); refine box_event ?hg (N := 3) ?hd (cs := #[.string a1_0, .bool a1_1, .string a1_2]) (t := 38) ?hr ?_; (case hd => rfl); (case hg => rfl); (case hr => first | (go_simp; done) | (go_simp; rfl)); intro gb150 hg w4 hbox hb; have n0_ := Aside0.mk (blk_below tq_24 hb); have n1_ := Aside0.mk (below_step tq_68 hb); have n2_ := Aside0.mk (hbox); have n3_ := Aside0.mk (gb_ hg tq_68); have n4_ := Aside0.mk (gb_ hg tq_68); have n5_ := Aside0.mk (ltne_ hg (blk_lt tq_24)); have n6_ := Aside0.mk (gtne_ hg (blk_lt tq_24)); clear BK149 HB; have BK149 := n0_; have HB := n1_; have BK150 := n2_; have GW150 := n3_; have GE150 := n4_; have NB149_150 := n5_; have NB150_149 := n6_; clear n0_ n1_ n2_ n3_ n4_ n5_ n6_; clear hb hbox hg) | ((with_reducible refine gate_dst (N := 4) rfl ?_); refine box_event ?hg (N := 4) ?hd (cs := #[.slice none 0 0]) (t := 28) ?hr ?_; (case hd => rfl); (case hg => rfl); (case hr => first | (go_simp; done) | (go_simp; rfl)); intro gb151 hg w5 hbox hb; have n0_ := Aside0.mk (blk_below tq_24 hb); have n1_ := Aside0.mk (blk_below tq_23 hb); have n2_ := Aside0.mk (below_step tq_61 hb); have n3_ := Aside0.mk (hbox); have n4_ := Aside0.mk (gb_ hg tq_61); have n5_ := Aside0.mk (gb_ hg tq_61); have n6_ := Aside0.mk (ltne_ hg (blk_lt tq_24)); have n7_ := Aside0.mk (gtne_ hg (blk_lt tq_24)); have n8_ := Aside0.mk (ltne_ hg (blk_lt tq_23)); have n9_ := Aside0.mk (gtne_ hg (blk_lt tq_23)); clear BK149 BK150 HB; have BK149 := n0_; have BK150 := n1_; have HB := n2_; have BK151 := n3_; have GW151 := n4_; have GE151 := n5_; have NB149_151 := n6_; have NB151_149 := n7_; have NB150_151 := n8_; have NB151_150 := n9_; clear n0_ n1_ n2_ n3_ n4_ n5_ n6_ n7_ n8_ n9_; clear hb hbox hg) | ((with_reducible refine gate_dst (N := 5) rfl ?_); refine box_event ?hg (N := 5) ?hd (cs := #[.slice none 0 0]) (t := 28) ?hr ?_; (case hd => rfl); (case hg => rfl); (case hr => first | (go_simp; done) | (go_simp; rfl)); intro gb152 hg w6 hbox hb; have n0_ := Aside0.mk (blk_below tq_24 hb); have n1_ := Aside0.mk (blk_below tq_23 hb); have n2_ := Aside0.mk (blk_below tq_38 hb); have n3_ := Aside0.mk (below_step tq_54 hb); have n4_ := Aside0.mk (hbox); have n5_ := Aside0.mk (gb_ hg tq_54); have n6_ := Aside0.mk (gb_ hg tq_54); have n7_ := Aside0.mk (ltne_ hg (blk_lt tq_24)); have n8_ := Aside0.mk (gtne_ hg (blk_lt tq_24)); have n9_ := Aside0.mk (ltne_ hg (blk_lt tq_23)); have n10_ := Aside0.mk (gtne_ hg (blk_lt tq_23)); have n11_ := Aside0.mk (ltne_ hg (blk_lt tq_38)); have n12_ := Aside0.mk (gtne_ hg (blk_lt tq_38)); clear BK149 BK150 BK151 HB; have BK149 := n0_; have BK150 := n1_; have BK151 := n2_; have HB := n3_; have BK152 := n4_; have GW152 := n5_; have GE152 := n6_; have NB149_152 := n7_; have NB152_149 := n8_; have NB150_152 := n9_; have NB152_150 := n10_; have NB151_152 := n11_; have NB152_151 := n12_; clear n0_ n1_ n2_ n3_ n4_ n5_ n6_ n7_ n8_ n9_ n10_ n11_ n12_; clear hb hbox hg; have hnb7 := NB152_149.out; have hnc7 := NB149_152.out; have hnb8 := NB152_150.out; have hnc8 := NB150_152.out; have hnb9 := NB152_151.out; have hnc9 := NB151_152.out; have hcz10_0 := bc_ BK152.out 0; have hfz10_0 := blk_frozen BK152.out 0))
 go_loopg [6, 7] k (fun kq v6 v7 w' => ∃ (x6_1 : Bool) (x7_1 : Int) (x153000_1 : List (S38)) (u153000 : Value), v6 = .bool x6_1 ∧ v7 = .int .i64 x7_1 ∧ Aside0 (spec_PutItem.l0 kq x6_1 x7_1 l0_0 a1_0 a1_1 a1_2 x153000_1 = some r) ∧ Aside0 (kq ≤ k) ∧ Aside0 (Kd.R k38 38 w' w.heap.size (fun k_ => k_ ≠ gb150) u153000 x153000_1) ∧ Aside0 (w'.heap[gb149]? = some (.cells #[(.slice A0_0 l0_0.length c0_0)] 28 (0, 0))) ∧ Aside0 (w'.heap[gb150]? = some (.cells #[.string a1_0, .bool a1_1, .string a1_2] 38 (0, 0))) ∧ Aside0 (w'.heap[gb151]? = some (.cells #[(.slice none 0 0)] 28 (0, 0))) ∧ Aside0 (w'.heap[gb152]? = some (.cells #[u153000] 28 (0, 0))) ∧ Aside0 (Below w.heap.size w w'))
 case atStart => exact ⟨(false), (0), (([] : List (S38))), (.slice none 0 0), tq_26, tq_26, H', ⟨Nat.le_refl _⟩, ⟨by first | exact Kd.R_nil _ _ _ _ _ | exact Kd.N_nil _ _ _ _ _ | exact Kd.V_nil _ _ _ _ _ | exact Kd.Q_nil _ _ _ _ _ | exact Kd.S_nil _ _ _ _ _⟩, ⟨by (with_reducible repeat (first | refine blk_drewN ?_ _ | refine blk_drew ?_ | refine blk_alloc ?_ _)); refine blk_far ?_ NB149_152.out _; (with_reducible repeat (first | refine blk_drewN ?_ _ | refine blk_drew ?_ | refine blk_alloc ?_ _)); exact BK149.out⟩, ⟨by (with_reducible repeat (first | refine blk_drewN ?_ _ | refine blk_drew ?_ | refine blk_alloc ?_ _)); refine blk_far ?_ NB150_152.out _; (with_reducible repeat (first | refine blk_drewN ?_ _ | refine blk_drew ?_ | refine blk_alloc ?_ _)); exact BK150.out⟩, ⟨by (with_reducible repeat (first | refine blk_drewN ?_ _ | refine blk_drew ?_ | refine blk_alloc ?_ _)); refine blk_far ?_ NB151_152.out _; (with_reducible repeat (first | refine blk_drewN ?_ _ | refine blk_drew ?_ | refine blk_alloc ?_ _)); exact BK151.out⟩, ⟨by (with_reducible repeat (first | refine blk_drewN ?_ _ | refine blk_drew ?_ | refine blk_alloc ?_ _)); refine blk_put (cs := #[.slice none 0 0]) ?_ 0 _ rfl; (with_reducible repeat (first | refine blk_drewN ?_ _ | refine blk_drew ?_ | refine blk_alloc ?_ _)); exact BK152.out⟩, ⟨by repeat (first | (with_reducible first | exact HB.out | apply below_alloc | apply pw_below_drewN | apply below_drew1 | refine below_set ?_ GE149.out | refine below_set ?_ GE150.out | refine below_set ?_ GE151.out | refine below_set ?_ GE152.out) | exact HB.out)⟩⟩
 case round =>
  clear H'
  try clear c2
  try clear p2
  try clear c7
  try clear c8
  try clear c9
  try clear hcz10_0
  try clear hfz10_0
  obtain ⟨x6_1, x7_1, x153000_1, u153000, rfl, rfl, HA, HK1, HO_153000, BK149, BK150, BK151, BK152, HB⟩ := hrel
  cases gk with
  | zero => exact absurd HA.out (by simp [spec_PutItem.l0])
  | succ k1 =>
   have H := HA.out
   clear HA
   simp only [spec_PutItem.l0] at H
   by_cases c11 : x7_1 < (l0_0.length : Int)
   ·rw [if_pos c11] at H
    have c11b0 : decide (x7_1 < (l0_0.length : Int)) = true := decide_eq_true c11
    clear c11
    have HC12 := Aside0.mk H
    clear H
    have hnb13 := NB149_150.out
    have hnc13 := NB150_149.out
    have hnb14 := NB149_151.out
    have hnc14 := NB151_149.out
    have hnb15 := NB149_152.out
    have hnc15 := NB152_149.out
    have hcz16_0 := bc_ BK149.out 0
    have hfz16_0 := blk_frozen BK149.out 0
    go_upto_region 6 with (fail)
    go_cut [28] (fun v28 wc => ∃ (kq : Nat) (x28_11 : Bool), v28 = .bool x28_11 ∧ Aside0 (spec_PutItem.j1 kq x6_1 x7_1 x28_11 l0_0 a1_0 a1_1 a1_2 x153000_1 = some r) ∧ Aside0 (kq ≤ k1) ∧ Aside0 (Kd.R k38 38 wc w.heap.size (fun k_ => k_ ≠ gb150) u153000 x153000_1) ∧ Aside0 (wc.heap[gb149]? = some (.cells #[(.slice A0_0 l0_0.length c0_0)] 28 (0, 0))) ∧ Aside0 (wc.heap[gb150]? = some (.cells #[.string a1_0, .bool a1_1, .string a1_2] 38 (0, 0))) ∧ Aside0 (wc.heap[gb151]? = some (.cells #[(.slice none 0 0)] 28 (0, 0))) ∧ Aside0 (wc.heap[gb152]? = some (.cells #[u153000] 28 (0, 0))) ∧ Aside0 (Below w.heap.size w wc))
    case first =>
     have H := HC12.out
     clear HC12
     by_cases c17 : x6_1 = true
     ·subst c17
      have H1 : (spec_PutItem.j1 k1 true x7_1 false l0_0 a1_0 a1_1 a1_2 x153000_1) = some r := by rw [if_pos rfl] at H; exact H
      clear H
      have H := H1
      clear H1
      have H' := Aside0.mk H
      clear H
      try go_wp2
      have n0_ := Aside0.mk (Kd.R_drew HO_153000.out)
      have n1_ := Aside0.mk (blk_drew BK149.out)
      have n2_ := Aside0.mk (blk_drew BK150.out)
      have n3_ := Aside0.mk (blk_drew BK151.out)
      have n4_ := Aside0.mk (blk_drew BK152.out)
      have n5_ := Aside0.mk (below_drew1 HB.out)
      clear HO_153000 BK149 BK150 BK151 BK152 HB
      have HO_153000 := n0_
      have BK149 := n1_
      have BK150 := n2_
      have BK151 := n3_
      have BK152 := n4_
      have HB := n5_
      clear n0_ n1_ n2_ n3_ n4_ n5_
      refine start_ (n := 13) (S := fun w' => True) (ds := []) bq_34 (by kernel_rfl) rfl rfl trivial (fun hHeld => ?_); refine with_tabW spec_PutItem.tab6 spec_PutItem.bits6 (fun HT_ HW_ => ?_)
      generalize wr.drew = w18 at HO_153000 BK149 BK150 BK151 BK152 HB hHeld ⊢
      refine yq_ (i := 0) (N := some 16) bq_35 (any_of HT_.out (by kernel_rfl)) ?_
      refine yq_ (i := 1) (N := some 17) bq_36 (any_of HT_.out (by kernel_rfl)) ?_
      refine yq_ (i := 2) (N := some 18) bq_37 (any_of HT_.out (by kernel_rfl)) ?_
      refine uq_ (i := 3) (N := some 19) bq_38 (any_of HT_.out (by kernel_rfl)) ?_
      refine uq_ (i := 4) (N := some 20) #[true, true, true, true, true, false, false, false, false, false, false, false, false] (any_of HT_.out (by kernel_rfl)) ?_
      refine uq_ (i := 5) (N := some 21) #[true, true, true, true, true, true, false, false, false, false, false, false, false] (any_of HT_.out (by kernel_rfl)) ?_
      refine uq_ (i := 6) (N := some 22) #[true, true, true, true, true, true, true, false, false, false, false, false, false] (any_of HT_.out (by kernel_rfl)) ?_
      refine uq_ (i := 7) (N := some 23) #[true, true, true, true, true, true, true, true, false, false, false, false, false] (any_of HT_.out (by kernel_rfl)) ?_
      refine uq_ (i := 8) (N := some 24) #[true, true, true, true, true, true, true, true, true, false, false, false, false] (any_of HT_.out (by kernel_rfl)) ?_
      refine uq_ (i := 9) (N := some 25) bq_39 (any_of HT_.out (by kernel_rfl)) ?_
      refine uq_ (i := 10) (N := some 26) bq_40 (any_of HT_.out (by kernel_rfl)) ?_
      refine uq_ (i := 11) (N := some 27) bq_41 (any_of HT_.out (by kernel_rfl)) ?_
      refine yq_ (i := 12) (N := some 28) bq_42 (any_of HT_.out (by kernel_rfl)) ?_
      refine done_ (done_of HT_.out (by kernel_rfl)) ?_
      try go_wp2
      go_meet
      case rel => exact ⟨_, (false), tq_26, H', ⟨by have := HK1.out; first | omega | exact Nat.le_refl _⟩, ⟨by (with_reducible repeat (first | apply Kd.R_alloc | apply Kd.R_drewN | apply Kd.R_drew)); exact HO_153000.out⟩, ⟨by (with_reducible repeat (first | refine blk_drewN ?_ _ | refine blk_drew ?_ | refine blk_alloc ?_ _)); exact BK149.out⟩, ⟨by (with_reducible repeat (first | refine blk_drewN ?_ _ | refine blk_drew ?_ | refine blk_alloc ?_ _)); exact BK150.out⟩, ⟨by (with_reducible repeat (first | refine blk_drewN ?_ _ | refine blk_drew ?_ | refine blk_alloc ?_ _)); exact BK151.out⟩, ⟨by (with_reducible repeat (first | refine blk_drewN ?_ _ | refine blk_drew ?_ | refine blk_alloc ?_ _)); exact BK152.out⟩, ⟨by repeat (first | (with_reducible first | exact HB.out | apply below_alloc | apply pw_below_drewN | apply below_drew1 | refine below_set ?_ GE149.out | refine below_set ?_ GE150.out | refine below_set ?_ GE151.out | refine below_set ?_ GE152.out) | exact HB.out)⟩⟩
     ·replace c17 := Bool.eq_false_iff.mpr c17
      subst c17
      have H1 : (if 0 ≤ x7_1 then (spec_PutItem.j1 k1 false x7_1 (Op.bytesLess a1_0.toList (((rd_T38 l0_0 x7_1).f0).toList)) l0_0 a1_0 a1_1 a1_2 x153000_1) else (none)) = some r := by rw [if_neg (show ¬ (false = true) by decide)] at H; exact H
      clear H
      have H := H1
      clear H1
      by_cases c19 : 0 ≤ x7_1
      ·rw [if_pos c19] at H
       have c19b0 : decide (0 ≤ x7_1) = true := decide_eq_true c19
       clear c19
       (first | rw [c19b0] | (simp only [i64_w, i32_w]; rw [c19b0]) | skip)
       have H' := Aside0.mk H
       clear H
       try go_wp2
       have n0_ := Aside0.mk (Kd.R_drew HO_153000.out)
       have n1_ := Aside0.mk (blk_drew BK149.out)
       have n2_ := Aside0.mk (blk_drew BK150.out)
       have n3_ := Aside0.mk (blk_drew BK151.out)
       have n4_ := Aside0.mk (blk_drew BK152.out)
       have n5_ := Aside0.mk (below_drew1 HB.out)
       clear HO_153000 BK149 BK150 BK151 BK152 HB
       have HO_153000 := n0_
       have BK149 := n1_
       have BK150 := n2_
       have BK151 := n3_
       have BK152 := n4_
       have HB := n5_
       clear n0_ n1_ n2_ n3_ n4_ n5_
       have p156 : 0 ≤ (x7_1 : Int) := of_decide_eq_true tq_11
       have q156 : x7_1 < (l0_0.length : Int) := of_decide_eq_true tq_11
       obtain ⟨ad156, e156, hx156_0, hx156_1, hx156_2⟩ := at_T38 HR0_0.out x7_1 p156 q156
       have hw156_2 := hx156_2
       have hw156_1 := hx156_1
       have hw156_0 := hx156_0
       cases e156
       replace hx156_0 := hx_ HB.out hx156_0
       replace hx156_1 := hx_ HB.out hx156_1
       replace hx156_2 := hx_ HB.out hx156_2
       replace p156 := eq_true p156
       replace q156 := eq_true q156
       refine start_ (n := 13) (S := fun w' => w'.cell? ⟨gb149, 0, none⟩ = some (.slice (some ad156) l0_0.length c0_0) ∧ w'.cell? ⟨gb150, 0, none⟩ = some (.string a1_0) ∧ w'.cell? ⟨gb150, 1, none⟩ = some (.bool a1_1) ∧ w'.cell? ⟨gb150, 2, none⟩ = some (.string a1_2) ∧ w'.cell? (ad156.add ((x7_1).toNat * 3)) = some (.string ((rd_T38 l0_0 x7_1).f0)) ∧ w'.cell? ⟨(ad156.add ((x7_1).toNat * 3)).block, (ad156.add ((x7_1).toNat * 3)).off + 1, none⟩ = some (.bool ((rd_T38 l0_0 x7_1).f1)) ∧ w'.cell? ⟨(ad156.add ((x7_1).toNat * 3)).block, (ad156.add ((x7_1).toNat * 3)).off + 2, none⟩ = some (.string ((rd_T38 l0_0 x7_1).f2))) (ds := []) bq_34 (by kernel_rfl) rfl rfl ⟨(blk_cell BK149.out 0).trans rfl, (blk_cell BK150.out 0).trans rfl, (blk_cell BK150.out 1).trans rfl, (blk_cell BK150.out 2).trans rfl, ((HB.out.cell (World.block_lt_of_cell? w _ hw156_0)).trans hw156_0), ((HB.out.cell (World.block_lt_of_cell? w _ hw156_1)).trans hw156_1), ((HB.out.cell (World.block_lt_of_cell? w _ hw156_2)).trans hw156_2)⟩ (fun hHeld => ?_); refine with_tabW spec_PutItem.tab6 spec_PutItem.bits6 (fun HT_ HW_ => ?_)
       generalize wr.drew = w20 at HO_153000 BK149 BK150 BK151 BK152 HB hx156_0 hx156_1 hx156_2 hHeld ⊢
       refine yq_ (i := 0) (N := some 16) bq_35 (any_of HT_.out (by kernel_rfl)) ?_
       refine yq_ (i := 1) (N := some 17) bq_36 (any_of HT_.out (by kernel_rfl)) ?_
       refine yq_ (i := 2) (N := some 18) bq_37 (any_of HT_.out (by kernel_rfl)) ?_
       refine yq_ (i := 3) (N := some 19) bq_38 (any_of HT_.out (by kernel_rfl)) ?_
       refine yq_ (i := 5) (N := some 21) #[true, true, true, true, false, true, false, false, false, false, false, false, false] (any_of HT_.out (by kernel_rfl)) ?_
       refine yq_ (i := 9) (N := some 25) #[true, true, true, true, false, true, false, false, false, true, false, false, false] (any_of HT_.out (by kernel_rfl)) ?_
       refine take_ (i := 4) (N := some 20) (v := ?_) (a' := ?_) #[true, true, true, true, true, true, false, false, false, true, false, false, false] rfl rfl (take_ofW HT_.out HW_.out (by kernel_rfl)) (fun _ _ _ h => h) (Or.inl ⟨by rfl, ?_⟩) hHeld ?_ ?_
       rotate_left
       ·rintro w' ⟨s0, s1, s2, s3, s4, s5, s6⟩
        go_simp
        with_reducible rfl
       rotate_left
       ·simp only [Act.put, List.setIfInBounds_toArray, List.set_cons_zero, List.set_cons_succ, i64_w, i32_w]
        rfl
       refine yq_ (i := 6) (N := some 22) #[true, true, true, true, true, true, true, false, false, true, false, false, false] (any_of HT_.out (by kernel_rfl)) ?_
       refine yq_ (i := 7) (N := some 23) #[true, true, true, true, true, true, true, true, false, true, false, false, false] (any_of HT_.out (by kernel_rfl)) ?_
       refine take_ (i := 8) (N := some 24) (v := ?_) (a' := ?_) bq_39 rfl rfl (take_ofW HT_.out HW_.out (by kernel_rfl)) (fun _ _ _ h => h) (Or.inl ⟨by rfl, ?_⟩) hHeld ?_ ?_
       rotate_left
       ·rintro w' ⟨s0, s1, s2, s3, s4, s5, s6⟩
        go_simp
        with_reducible rfl
       rotate_left
       ·simp only [Act.put, List.setIfInBounds_toArray, List.set_cons_zero, List.set_cons_succ, i64_w, i32_w]
        rfl
       refine take_ (i := 10) (N := some 26) (v := ?_) (a' := ?_) bq_40 rfl rfl (take_ofW HT_.out HW_.out (by kernel_rfl)) (fun _ _ _ h => h) (Or.inl ⟨by rfl, ?_⟩) hHeld ?_ ?_
       rotate_left
       ·rintro w' ⟨s0, s1, s2, s3, s4, s5, s6⟩
        go_simp
        with_reducible rfl
       rotate_left
       ·simp only [Act.put, List.setIfInBounds_toArray, List.set_cons_zero, List.set_cons_succ, i64_w, i32_w]
        rfl
       refine yq_ (i := 11) (N := some 27) bq_41 (any_of HT_.out (by kernel_rfl)) ?_
       refine yq_ (i := 12) (N := some 28) bq_42 (any_of HT_.out (by kernel_rfl)) ?_
       refine done_ (done_of HT_.out (by kernel_rfl)) ?_
       try go_wp2
       go_meet
       case rel => exact ⟨_, ((Op.bytesLess a1_0.toList (((rd_T38 l0_0 x7_1).f0).toList))), (by first | rfl | (simp; done) | exact congrArg Value.bool (bl_leq _ _) | exact congrArg Value.bool (bl_gtr _ _) | (simp only [Value.bool.injEq]; first | exact bl_leq _ _ | exact bl_gtr _ _) | (simp [*]; done)), H', ⟨by have := HK1.out; first | omega | exact Nat.le_refl _⟩, ⟨by (with_reducible repeat (first | apply Kd.R_alloc | apply Kd.R_drewN | apply Kd.R_drew)); exact HO_153000.out⟩, ⟨by (with_reducible repeat (first | refine blk_drewN ?_ _ | refine blk_drew ?_ | refine blk_alloc ?_ _)); exact BK149.out⟩, ⟨by (with_reducible repeat (first | refine blk_drewN ?_ _ | refine blk_drew ?_ | refine blk_alloc ?_ _)); exact BK150.out⟩, ⟨by (with_reducible repeat (first | refine blk_drewN ?_ _ | refine blk_drew ?_ | refine blk_alloc ?_ _)); exact BK151.out⟩, ⟨by (with_reducible repeat (first | refine blk_drewN ?_ _ | refine blk_drew ?_ | refine blk_alloc ?_ _)); exact BK152.out⟩, ⟨by repeat (first | (with_reducible first | exact HB.out | apply below_alloc | apply pw_below_drewN | apply below_drew1 | refine below_set ?_ GE149.out | refine below_set ?_ GE150.out | refine below_set ?_ GE151.out | refine below_set ?_ GE152.out) | exact HB.out)⟩⟩
      ·rw [if_neg c19] at H
       exact absurd H (by simp)
    case rest =>
     clear HC12
     try clear c1
     try clear p1
     try clear q1
     try clear hx1
     try clear c2
     try clear p2
     try clear c7
     try clear c8
     try clear c9
     try clear c11
     try clear c11b0
     try clear c13
     try clear c14
     try clear c15
     try clear p15
     try clear q15
     try clear hx15
     try clear c17
     try clear c19
     try clear c19b0
     try clear hcz10_0
     try clear hcz16_0
     try clear hfz10_0
     try clear hfz16_0
     try clear hx156_0
     try clear hx156_1
     try clear hx156_2
     try clear p156
     try clear p2
     try clear q156
     obtain ⟨kq, x28_11, rfl, HA, HJ11, HO_153000, BK149, BK150, BK151, BK152, HB⟩ := hcut
     cases kq with
     | zero => exact absurd HA.out (by simp [spec_PutItem.j1])
     | succ kj11 =>
      have H := HA.out
      clear HA
      simp only [spec_PutItem.j1] at H
      by_cases c21 : x28_11 = true
      ·subst c21
       have H1 : (if x153000_1.length < 3518437208883 then ((some (x153000_1 ++ [(⟨a1_0, a1_1, a1_2⟩ : S38)] : List (S38))).bind fun y157 => (if 0 ≤ x7_1 then (if x7_1 < (l0_0.length : Int) then (if ((rd_T38 l0_0 x7_1).f0).toList = a1_0.toList then (spec_PutItem.l0 kj11 true (wrap64 (x7_1 + 1)) l0_0 a1_0 a1_1 a1_2 y157) else (if y157.length < 3518437208883 then (spec_PutItem.l0 kj11 true (wrap64 (x7_1 + 1)) l0_0 a1_0 a1_1 a1_2 (y157 ++ [(⟨(rd_T38 l0_0 x7_1).f0, (rd_T38 l0_0 x7_1).f1, (rd_T38 l0_0 x7_1).f2⟩ : S38)])) else (none))) else (none)) else (none))) else (none)) = some r := by rw [if_pos rfl] at H; exact H
       clear H
       have H := H1
       clear H1
       by_cases c22 : x153000_1.length < 3518437208883
       ·rw [if_pos c22] at H
        have LMc22 := Aside0.mk c22
        clear c22
        obtain ⟨y157, hy157⟩ : ∃ y_ : List (S38), y_ = (x153000_1 ++ [(⟨a1_0, a1_1, a1_2⟩ : S38)]) := ⟨_, rfl⟩
        replace H : (if 0 ≤ x7_1 then (if x7_1 < (l0_0.length : Int) then (if ((rd_T38 l0_0 x7_1).f0).toList = a1_0.toList then (spec_PutItem.l0 kj11 true (wrap64 (x7_1 + 1)) l0_0 a1_0 a1_1 a1_2 y157) else (if y157.length < 3518437208883 then (spec_PutItem.l0 kj11 true (wrap64 (x7_1 + 1)) l0_0 a1_0 a1_1 a1_2 (y157 ++ [(⟨(rd_T38 l0_0 x7_1).f0, (rd_T38 l0_0 x7_1).f1, (rd_T38 l0_0 x7_1).f2⟩ : S38)])) else (none))) else (none)) else (none)) = some r := by first | (rw [hy157]; with_reducible exact H) | (have H2_ := (Option.bind_some _ _).symm.trans H; rw [hy157]; with_reducible exact H2_) | (have H2_ := (Option.bind_some _ _).symm.trans H; with_reducible exact H2_) | with_reducible exact H | (rw [hy157]; exact H) | exact H
        have Ny157 := Aside0.mk hy157
        clear hy157
        by_cases c23 : 0 ≤ x7_1
        ·rw [if_pos c23] at H
         have c23b0 : decide (0 ≤ x7_1) = true := decide_eq_true c23
         clear c23
         by_cases c24 : x7_1 < (l0_0.length : Int)
         ·rw [if_pos c24] at H
          have c24b0 : decide (x7_1 < (l0_0.length : Int)) = true := decide_eq_true c24
          clear c24
          by_cases c25 : ((rd_T38 l0_0 x7_1).f0).toList = a1_0.toList
          ·rw [if_pos c25] at H
           have c25b0 : (((rd_T38 l0_0 x7_1).f0).toList == a1_0.toList) = true := beq_iff_eq.mpr c25
           have c25b1 : (((rd_T38 l0_0 x7_1).f0).toList != a1_0.toList) = false := bne_eq_false_iff_eq.mpr c25
           clear c25
           have H' := Aside0.mk H
           clear H
           have hnb26 := NB152_149.out
           have hnc26 := NB149_152.out
           have hnb27 := NB152_150.out
           have hnc27 := NB150_152.out
           have hnb28 := NB152_151.out
           have hnc28 := NB151_152.out
           have hcz29_0 := bc_ BK152.out 0
           have hfz29_0 := blk_frozen BK152.out 0
           have hnb30 := NB150_149.out
           have hnc30 := NB149_150.out
           have hnb31 := NB150_151.out
           have hnc31 := NB151_150.out
           have hcz32_0 := bc_ BK150.out 0
           have hcz32_1 := bc_ BK150.out 1
           have hcz32_2 := bc_ BK150.out 2
           have hfz32_0 := blk_frozen BK150.out 0
           have hfz32_1 := blk_frozen BK150.out 1
           have hfz32_2 := blk_frozen BK150.out 2
           try go_wp2_with (first | ((with_reducible refine gate_builtin (b := .append) (xs := #[.tmp 30, .tmp 32]) rfl ?_); at_builtin; refine Kd.R_append k38 (w0 := w) w.heap.size rfl (.tmp 30) (.tmp 32) 26 38 (.agg #[(.string ⟨#[]⟩), (.bool false), (.string ⟨#[]⟩)]) 40 rfl Try.underlying26 info38 rfl (by decide) (by omega) u153000 x153000_1 (⟨a1_0, a1_1, a1_2⟩ : S38) [.string a1_0, .bool a1_1, .string a1_2] (fun k_ => k_ ≠ gb150) (fun _ => False) rfl rfl ?aP (fun _ hk => hk.elim) ?aF ?aO ?aB ?aS ?aL ?_; (case aP => exact k38_mkM _ _ _ (⟨a1_0, a1_1, a1_2⟩ : S38)); (case aB => exact tq_20); (case aF => exact tq_55); (case aO => exact tq_71); (case aS => exact (below_size tq_20)); (case aL => have := LMc22.out; omega); intro v158 w33 ho hb hg hat; rw [← Ny157.out] at ho; have n0_ := Aside0.mk (blk_grown (g := gb149) (o := .cells #[.slice A0_0 l0_0.length c0_0] 28 (0, 0)) tq_24 hg (Kd.R_ne HO_153000.out BK149.out (by decide))); have n1_ := Aside0.mk (blk_grown (g := gb150) (o := .cells #[.string a1_0, .bool a1_1, .string a1_2] 38 (0, 0)) tq_23 hg (Kd.R_away HO_153000.out (fun _ hk => hk))); have n2_ := Aside0.mk (blk_grown (g := gb151) (o := .cells #[.slice none 0 0] 28 (0, 0)) tq_38 hg (Kd.R_ne HO_153000.out BK151.out (by decide))); have n3_ := Aside0.mk (blk_grown (g := gb152) (o := .cells #[u153000] 28 (0, 0)) tq_53 hg (Kd.R_ne HO_153000.out BK152.out (by decide))); have n4_ := Aside0.mk (hb); have n5_ := Aside0.mk (ho); clear BK149 BK150 BK151 BK152 HB HO_153000; have BK149 := n0_; have BK150 := n1_; have BK151 := n2_; have BK152 := n3_; have HB := n4_; have HO159 := n5_; clear n0_ n1_ n2_ n3_ n4_ n5_; clear ho hb hg hat; obtain ⟨Ao34, co34, eo34⟩ := Kd.R_slice HO159.out; subst eo34; have hcz35_0 := bc_ BK152.out 0; have hfz35_0 := blk_frozen BK152.out 0))
           have n0_ : Aside0 (Kd.R k38 38 (w33.setCell ⟨gb152, 0, none⟩ (.slice Ao34 y157.length co34)) w.heap.size (fun k_ => k_ ≠ gb150) (.slice Ao34 y157.length co34) y157) := ⟨by (with_reducible repeat (first | apply Kd.R_alloc | apply Kd.R_drewN | apply Kd.R_drew)); exact Kd.R_mono (Kd.R_far (p := ⟨gb152, 0, none⟩) (Kd.R_types HO159.out BK152.out (by decide)) (fun _ hk => hk.2) (.slice Ao34 y157.length co34)) (fun _ hk => hk.1)⟩
           have n1_ : Aside0 ((w33.setCell ⟨gb152, 0, none⟩ (.slice Ao34 y157.length co34)).heap[gb149]? = some (.cells #[.slice A0_0 l0_0.length c0_0] 28 (0, 0))) := ⟨by (with_reducible repeat (first | refine blk_drewN ?_ _ | refine blk_drew ?_ | refine blk_alloc ?_ _)); refine blk_far ?_ NB149_152.out _; (with_reducible repeat (first | refine blk_drewN ?_ _ | refine blk_drew ?_ | refine blk_alloc ?_ _)); exact BK149.out⟩
           have n2_ : Aside0 ((w33.setCell ⟨gb152, 0, none⟩ (.slice Ao34 y157.length co34)).heap[gb150]? = some (.cells #[.string a1_0, .bool a1_1, .string a1_2] 38 (0, 0))) := ⟨by (with_reducible repeat (first | refine blk_drewN ?_ _ | refine blk_drew ?_ | refine blk_alloc ?_ _)); refine blk_far ?_ NB150_152.out _; (with_reducible repeat (first | refine blk_drewN ?_ _ | refine blk_drew ?_ | refine blk_alloc ?_ _)); exact BK150.out⟩
           have n3_ : Aside0 ((w33.setCell ⟨gb152, 0, none⟩ (.slice Ao34 y157.length co34)).heap[gb151]? = some (.cells #[.slice none 0 0] 28 (0, 0))) := ⟨by (with_reducible repeat (first | refine blk_drewN ?_ _ | refine blk_drew ?_ | refine blk_alloc ?_ _)); refine blk_far ?_ NB151_152.out _; (with_reducible repeat (first | refine blk_drewN ?_ _ | refine blk_drew ?_ | refine blk_alloc ?_ _)); exact BK151.out⟩
           have n4_ : Aside0 ((w33.setCell ⟨gb152, 0, none⟩ (.slice Ao34 y157.length co34)).heap[gb152]? = some (.cells #[.slice Ao34 y157.length co34] 28 (0, 0))) := ⟨by (with_reducible repeat (first | refine blk_drewN ?_ _ | refine blk_drew ?_ | refine blk_alloc ?_ _)); refine blk_put (cs := #[u153000]) ?_ 0 _ rfl; (with_reducible repeat (first | refine blk_drewN ?_ _ | refine blk_drew ?_ | refine blk_alloc ?_ _)); exact BK152.out⟩
           have n5_ : Aside0 (Below w.heap.size w (w33.setCell ⟨gb152, 0, none⟩ (.slice Ao34 y157.length co34))) := ⟨by repeat (first | (with_reducible first | exact HB.out | apply below_alloc | apply pw_below_drewN | apply below_drew1 | refine below_set ?_ GE149.out | refine below_set ?_ GE150.out | refine below_set ?_ GE151.out | refine below_set ?_ GE152.out) | exact HB.out)⟩
           (try clear HO159)
           (try clear BK149)
           (try clear BK150)
           (try clear BK151)
           (try clear BK152)
           (try clear HB)
           generalize (w33.setCell ⟨gb152, 0, none⟩ (.slice Ao34 y157.length co34)) = w36 at n0_ n1_ n2_ n3_ n4_ n5_ ⊢
           have HO159 := n0_
           have BK149 := n1_
           have BK150 := n2_
           have BK151 := n3_
           have BK152 := n4_
           have HB := n5_
           clear n0_ n1_ n2_ n3_ n4_ n5_
           have n0_ := Aside0.mk (Kd.R_drew HO159.out)
           have n1_ := Aside0.mk (blk_drew BK149.out)
           have n2_ := Aside0.mk (blk_drew BK150.out)
           have n3_ := Aside0.mk (blk_drew BK151.out)
           have n4_ := Aside0.mk (blk_drew BK152.out)
           have n5_ := Aside0.mk (below_drew1 HB.out)
           clear HO159 BK149 BK150 BK151 BK152 HB
           have HO159 := n0_
           have BK149 := n1_
           have BK150 := n2_
           have BK151 := n3_
           have BK152 := n4_
           have HB := n5_
           clear n0_ n1_ n2_ n3_ n4_ n5_
           have p160 : 0 ≤ (x7_1 : Int) := of_decide_eq_true tq_11
           have q160 : x7_1 < (l0_0.length : Int) := of_decide_eq_true tq_11
           obtain ⟨ad160, e160, hx160_0, hx160_1, hx160_2⟩ := at_T38 HR0_0.out x7_1 p160 q160
           have hw160_2 := hx160_2
           have hw160_1 := hx160_1
           have hw160_0 := hx160_0
           cases e160
           replace hx160_0 := hx_ HB.out hx160_0
           replace hx160_1 := hx_ HB.out hx160_1
           replace hx160_2 := hx_ HB.out hx160_2
           replace p160 := eq_true p160
           replace q160 := eq_true q160
           refine start_ (n := 9) (S := fun w' => w'.cell? ⟨gb149, 0, none⟩ = some (.slice (some ad160) l0_0.length c0_0) ∧ w'.cell? ⟨gb150, 0, none⟩ = some (.string a1_0) ∧ w'.cell? ⟨gb150, 1, none⟩ = some (.bool a1_1) ∧ w'.cell? ⟨gb150, 2, none⟩ = some (.string a1_2) ∧ w'.cell? (ad160.add ((x7_1).toNat * 3)) = some (.string ((rd_T38 l0_0 x7_1).f0)) ∧ w'.cell? ⟨(ad160.add ((x7_1).toNat * 3)).block, (ad160.add ((x7_1).toNat * 3)).off + 1, none⟩ = some (.bool ((rd_T38 l0_0 x7_1).f1)) ∧ w'.cell? ⟨(ad160.add ((x7_1).toNat * 3)).block, (ad160.add ((x7_1).toNat * 3)).off + 2, none⟩ = some (.string ((rd_T38 l0_0 x7_1).f2))) (ds := []) bq_11 (by kernel_rfl) rfl rfl ⟨(blk_cell BK149.out 0).trans rfl, (blk_cell BK150.out 0).trans rfl, (blk_cell BK150.out 1).trans rfl, (blk_cell BK150.out 2).trans rfl, ((HB.out.cell (World.block_lt_of_cell? w _ hw160_0)).trans hw160_0), ((HB.out.cell (World.block_lt_of_cell? w _ hw160_1)).trans hw160_1), ((HB.out.cell (World.block_lt_of_cell? w _ hw160_2)).trans hw160_2)⟩ (fun hHeld => ?_); refine with_tabW spec_PutItem.tab9 spec_PutItem.bits9 (fun HT_ HW_ => ?_)
           generalize w36.drew = w37 at HO159 BK149 BK150 BK151 BK152 HB hx160_0 hx160_1 hx160_2 hHeld ⊢
           refine yq_ (i := 0) (N := some 35) bq_12 (any_of HT_.out (by kernel_rfl)) ?_
           refine yq_ (i := 2) (N := some 37) bq_13 (any_of HT_.out (by kernel_rfl)) ?_
           refine yq_ (i := 6) (N := some 41) bq_14 (any_of HT_.out (by kernel_rfl)) ?_
           refine take_ (i := 1) (N := some 36) (v := ?_) (a' := ?_) bq_15 rfl rfl (take_ofW HT_.out HW_.out (by kernel_rfl)) (fun _ _ _ h => h) (Or.inl ⟨by rfl, ?_⟩) hHeld ?_ ?_
           rotate_left
           ·rintro w' ⟨s0, s1, s2, s3, s4, s5, s6⟩
            go_simp
            with_reducible rfl
           rotate_left
           ·simp only [Act.put, List.setIfInBounds_toArray, List.set_cons_zero, List.set_cons_succ, i64_w, i32_w]
            rfl
           refine yq_ (i := 3) (N := some 38) bq_16 (any_of HT_.out (by kernel_rfl)) ?_
           refine yq_ (i := 4) (N := some 39) bq_17 (any_of HT_.out (by kernel_rfl)) ?_
           refine take_ (i := 5) (N := some 40) (v := ?_) (a' := ?_) bq_18 rfl rfl (take_ofW HT_.out HW_.out (by kernel_rfl)) (fun _ _ _ h => h) (Or.inl ⟨by rfl, ?_⟩) hHeld ?_ ?_
           rotate_left
           ·rintro w' ⟨s0, s1, s2, s3, s4, s5, s6⟩
            go_simp
            with_reducible rfl
           rotate_left
           ·simp only [Act.put, List.setIfInBounds_toArray, List.set_cons_zero, List.set_cons_succ, i64_w, i32_w]
            rfl
           refine take_ (i := 7) (N := some 42) (v := ?_) (a' := ?_) bq_19 rfl rfl (take_ofW HT_.out HW_.out (by kernel_rfl)) (fun _ _ _ h => h) (Or.inl ⟨by rfl, ?_⟩) hHeld ?_ ?_
           rotate_left
           ·rintro w' ⟨s0, s1, s2, s3, s4, s5, s6⟩
            go_simp
            with_reducible rfl
           rotate_left
           ·simp only [Act.put, List.setIfInBounds_toArray, List.set_cons_zero, List.set_cons_succ, i64_w, i32_w]
            rfl
           refine yq_ (i := 8) (N := some 43) bq_20 (any_of HT_.out (by kernel_rfl)) ?_
           refine done_ (done_of HT_.out (by kernel_rfl)) ?_
           try go_wp2
           go_roundg kj11
           case measure => have := HK1.out; have := HJ11.out; omega
           case rel => exact ⟨(true), (wrap64 (x7_1 + 1)), (y157), (.slice Ao34 y157.length co34), tq_26, tq_26, H', ⟨by have := HK1.out; have := HJ11.out; omega⟩, ⟨by (with_reducible repeat (first | apply Kd.R_alloc | apply Kd.R_drewN | apply Kd.R_drew)); exact HO159.out⟩, ⟨by (with_reducible repeat (first | refine blk_drewN ?_ _ | refine blk_drew ?_ | refine blk_alloc ?_ _)); exact BK149.out⟩, ⟨by (with_reducible repeat (first | refine blk_drewN ?_ _ | refine blk_drew ?_ | refine blk_alloc ?_ _)); exact BK150.out⟩, ⟨by (with_reducible repeat (first | refine blk_drewN ?_ _ | refine blk_drew ?_ | refine blk_alloc ?_ _)); exact BK151.out⟩, ⟨by (with_reducible repeat (first | refine blk_drewN ?_ _ | refine blk_drew ?_ | refine blk_alloc ?_ _)); exact BK152.out⟩, ⟨by repeat (first | (with_reducible first | exact HB.out | apply below_alloc | apply pw_below_drewN | apply below_drew1 | refine below_set ?_ GE149.out | refine below_set ?_ GE150.out | refine below_set ?_ GE151.out | refine below_set ?_ GE152.out) | exact HB.out)⟩⟩
          ·rw [if_neg c25] at H
           have c25b0 : (((rd_T38 l0_0 x7_1).f0).toList == a1_0.toList) = false := beq_eq_false_iff_ne.mpr c25
           have c25b1 : (((rd_T38 l0_0 x7_1).f0).toList != a1_0.toList) = true := bne_iff_ne.mpr c25
           by_cases c38 : y157.length < 3518437208883
           ·rw [if_pos c38] at H
            have LMc38 := Aside0.mk c38
            clear c38
            obtain ⟨y162, hy162⟩ : ∃ y_ : List (S38), y_ = (y157 ++ [(⟨(rd_T38 l0_0 x7_1).f0, (rd_T38 l0_0 x7_1).f1, (rd_T38 l0_0 x7_1).f2⟩ : S38)]) := ⟨_, rfl⟩
            replace H : (spec_PutItem.l0 kj11 true (wrap64 (x7_1 + 1)) l0_0 a1_0 a1_1 a1_2 y162) = some r := by first | (rw [hy162]; with_reducible exact H) | (have H2_ := (Option.bind_some _ _).symm.trans H; rw [hy162]; with_reducible exact H2_) | (have H2_ := (Option.bind_some _ _).symm.trans H; with_reducible exact H2_) | with_reducible exact H | (rw [hy162]; exact H) | exact H
            have Ny162 := Aside0.mk hy162
            clear hy162
            have H' := Aside0.mk H
            clear H
            have hnb39 := NB152_149.out
            have hnc39 := NB149_152.out
            have hnb40 := NB152_150.out
            have hnc40 := NB150_152.out
            have hnb41 := NB152_151.out
            have hnc41 := NB151_152.out
            have hcz42_0 := bc_ BK152.out 0
            have hfz42_0 := blk_frozen BK152.out 0
            have hnb43 := NB150_149.out
            have hnc43 := NB149_150.out
            have hnb44 := NB150_151.out
            have hnc44 := NB151_150.out
            have hcz45_0 := bc_ BK150.out 0
            have hcz45_1 := bc_ BK150.out 1
            have hcz45_2 := bc_ BK150.out 2
            have hfz45_0 := blk_frozen BK150.out 0
            have hfz45_1 := blk_frozen BK150.out 1
            have hfz45_2 := blk_frozen BK150.out 2
            try go_wp2_with (first | ((with_reducible refine gate_builtin (b := .append) (xs := #[.tmp 30, .tmp 32]) rfl ?_); at_builtin; refine Kd.R_append k38 (w0 := w) w.heap.size rfl (.tmp 30) (.tmp 32) 26 38 (.agg #[(.string ⟨#[]⟩), (.bool false), (.string ⟨#[]⟩)]) 40 rfl Try.underlying26 info38 rfl (by decide) (by omega) u153000 x153000_1 (⟨a1_0, a1_1, a1_2⟩ : S38) [.string a1_0, .bool a1_1, .string a1_2] (fun k_ => k_ ≠ gb150) (fun _ => False) rfl rfl ?aP (fun _ hk => hk.elim) ?aF ?aO ?aB ?aS ?aL ?_; (case aP => exact k38_mkM _ _ _ (⟨a1_0, a1_1, a1_2⟩ : S38)); (case aB => exact tq_20); (case aF => exact tq_55); (case aO => exact tq_71); (case aS => exact (below_size tq_20)); (case aL => have := LMc22.out; omega); intro v158 w46 ho hb hg hat; rw [← Ny157.out] at ho; have n0_ := Aside0.mk (blk_grown (g := gb149) (o := .cells #[.slice A0_0 l0_0.length c0_0] 28 (0, 0)) tq_24 hg (Kd.R_ne HO_153000.out BK149.out (by decide))); have n1_ := Aside0.mk (blk_grown (g := gb150) (o := .cells #[.string a1_0, .bool a1_1, .string a1_2] 38 (0, 0)) tq_23 hg (Kd.R_away HO_153000.out (fun _ hk => hk))); have n2_ := Aside0.mk (blk_grown (g := gb151) (o := .cells #[.slice none 0 0] 28 (0, 0)) tq_38 hg (Kd.R_ne HO_153000.out BK151.out (by decide))); have n3_ := Aside0.mk (blk_grown (g := gb152) (o := .cells #[u153000] 28 (0, 0)) tq_53 hg (Kd.R_ne HO_153000.out BK152.out (by decide))); have n4_ := Aside0.mk (hb); have n5_ := Aside0.mk (ho); clear BK149 BK150 BK151 BK152 HB HO_153000; have BK149 := n0_; have BK150 := n1_; have BK151 := n2_; have BK152 := n3_; have HB := n4_; have HO159 := n5_; clear n0_ n1_ n2_ n3_ n4_ n5_; clear ho hb hg hat; obtain ⟨Ao47, co47, eo47⟩ := Kd.R_slice HO159.out; subst eo47; have hcz48_0 := bc_ BK152.out 0; have hfz48_0 := blk_frozen BK152.out 0))
            have n0_ : Aside0 (Kd.R k38 38 (w46.setCell ⟨gb152, 0, none⟩ (.slice Ao47 y157.length co47)) w.heap.size (fun k_ => k_ ≠ gb150) (.slice Ao47 y157.length co47) y157) := ⟨by (with_reducible repeat (first | apply Kd.R_alloc | apply Kd.R_drewN | apply Kd.R_drew)); exact Kd.R_mono (Kd.R_far (p := ⟨gb152, 0, none⟩) (Kd.R_types HO159.out BK152.out (by decide)) (fun _ hk => hk.2) (.slice Ao47 y157.length co47)) (fun _ hk => hk.1)⟩
            have n1_ : Aside0 ((w46.setCell ⟨gb152, 0, none⟩ (.slice Ao47 y157.length co47)).heap[gb149]? = some (.cells #[.slice A0_0 l0_0.length c0_0] 28 (0, 0))) := ⟨by (with_reducible repeat (first | refine blk_drewN ?_ _ | refine blk_drew ?_ | refine blk_alloc ?_ _)); refine blk_far ?_ NB149_152.out _; (with_reducible repeat (first | refine blk_drewN ?_ _ | refine blk_drew ?_ | refine blk_alloc ?_ _)); exact BK149.out⟩
            have n2_ : Aside0 ((w46.setCell ⟨gb152, 0, none⟩ (.slice Ao47 y157.length co47)).heap[gb150]? = some (.cells #[.string a1_0, .bool a1_1, .string a1_2] 38 (0, 0))) := ⟨by (with_reducible repeat (first | refine blk_drewN ?_ _ | refine blk_drew ?_ | refine blk_alloc ?_ _)); refine blk_far ?_ NB150_152.out _; (with_reducible repeat (first | refine blk_drewN ?_ _ | refine blk_drew ?_ | refine blk_alloc ?_ _)); exact BK150.out⟩
            have n3_ : Aside0 ((w46.setCell ⟨gb152, 0, none⟩ (.slice Ao47 y157.length co47)).heap[gb151]? = some (.cells #[.slice none 0 0] 28 (0, 0))) := ⟨by (with_reducible repeat (first | refine blk_drewN ?_ _ | refine blk_drew ?_ | refine blk_alloc ?_ _)); refine blk_far ?_ NB151_152.out _; (with_reducible repeat (first | refine blk_drewN ?_ _ | refine blk_drew ?_ | refine blk_alloc ?_ _)); exact BK151.out⟩
            have n4_ : Aside0 ((w46.setCell ⟨gb152, 0, none⟩ (.slice Ao47 y157.length co47)).heap[gb152]? = some (.cells #[.slice Ao47 y157.length co47] 28 (0, 0))) := ⟨by (with_reducible repeat (first | refine blk_drewN ?_ _ | refine blk_drew ?_ | refine blk_alloc ?_ _)); refine blk_put (cs := #[u153000]) ?_ 0 _ rfl; (with_reducible repeat (first | refine blk_drewN ?_ _ | refine blk_drew ?_ | refine blk_alloc ?_ _)); exact BK152.out⟩
            have n5_ : Aside0 (Below w.heap.size w (w46.setCell ⟨gb152, 0, none⟩ (.slice Ao47 y157.length co47))) := ⟨by repeat (first | (with_reducible first | exact HB.out | apply below_alloc | apply pw_below_drewN | apply below_drew1 | refine below_set ?_ GE149.out | refine below_set ?_ GE150.out | refine below_set ?_ GE151.out | refine below_set ?_ GE152.out) | exact HB.out)⟩
            (try clear HO159)
            (try clear BK149)
            (try clear BK150)
            (try clear BK151)
            (try clear BK152)
            (try clear HB)
            generalize (w46.setCell ⟨gb152, 0, none⟩ (.slice Ao47 y157.length co47)) = w49 at n0_ n1_ n2_ n3_ n4_ n5_ ⊢
            have HO159 := n0_
            have BK149 := n1_
            have BK150 := n2_
            have BK151 := n3_
            have BK152 := n4_
            have HB := n5_
            clear n0_ n1_ n2_ n3_ n4_ n5_
            have n0_ := Aside0.mk (Kd.R_drew HO159.out)
            have n1_ := Aside0.mk (blk_drew BK149.out)
            have n2_ := Aside0.mk (blk_drew BK150.out)
            have n3_ := Aside0.mk (blk_drew BK151.out)
            have n4_ := Aside0.mk (blk_drew BK152.out)
            have n5_ := Aside0.mk (below_drew1 HB.out)
            clear HO159 BK149 BK150 BK151 BK152 HB
            have HO159 := n0_
            have BK149 := n1_
            have BK150 := n2_
            have BK151 := n3_
            have BK152 := n4_
            have HB := n5_
            clear n0_ n1_ n2_ n3_ n4_ n5_
            have p160 : 0 ≤ (x7_1 : Int) := of_decide_eq_true tq_11
            have q160 : x7_1 < (l0_0.length : Int) := of_decide_eq_true tq_11
            obtain ⟨ad160, e160, hx160_0, hx160_1, hx160_2⟩ := at_T38 HR0_0.out x7_1 p160 q160
            have hw160_2 := hx160_2
            have hw160_1 := hx160_1
            have hw160_0 := hx160_0
            cases e160
            replace hx160_0 := hx_ HB.out hx160_0
            replace hx160_1 := hx_ HB.out hx160_1
            replace hx160_2 := hx_ HB.out hx160_2
            replace p160 := eq_true p160
            replace q160 := eq_true q160
            refine start_ (n := 9) (S := fun w' => w'.cell? ⟨gb149, 0, none⟩ = some (.slice (some ad160) l0_0.length c0_0) ∧ w'.cell? ⟨gb150, 0, none⟩ = some (.string a1_0) ∧ w'.cell? ⟨gb150, 1, none⟩ = some (.bool a1_1) ∧ w'.cell? ⟨gb150, 2, none⟩ = some (.string a1_2) ∧ w'.cell? (ad160.add ((x7_1).toNat * 3)) = some (.string ((rd_T38 l0_0 x7_1).f0)) ∧ w'.cell? ⟨(ad160.add ((x7_1).toNat * 3)).block, (ad160.add ((x7_1).toNat * 3)).off + 1, none⟩ = some (.bool ((rd_T38 l0_0 x7_1).f1)) ∧ w'.cell? ⟨(ad160.add ((x7_1).toNat * 3)).block, (ad160.add ((x7_1).toNat * 3)).off + 2, none⟩ = some (.string ((rd_T38 l0_0 x7_1).f2))) (ds := []) bq_11 (by kernel_rfl) rfl rfl ⟨(blk_cell BK149.out 0).trans rfl, (blk_cell BK150.out 0).trans rfl, (blk_cell BK150.out 1).trans rfl, (blk_cell BK150.out 2).trans rfl, ((HB.out.cell (World.block_lt_of_cell? w _ hw160_0)).trans hw160_0), ((HB.out.cell (World.block_lt_of_cell? w _ hw160_1)).trans hw160_1), ((HB.out.cell (World.block_lt_of_cell? w _ hw160_2)).trans hw160_2)⟩ (fun hHeld => ?_); refine with_tabW spec_PutItem.tab9 spec_PutItem.bits9 (fun HT_ HW_ => ?_)
            generalize w49.drew = w50 at HO159 BK149 BK150 BK151 BK152 HB hx160_0 hx160_1 hx160_2 hHeld ⊢
            refine yq_ (i := 0) (N := some 35) bq_12 (any_of HT_.out (by kernel_rfl)) ?_
            refine yq_ (i := 2) (N := some 37) bq_13 (any_of HT_.out (by kernel_rfl)) ?_
            refine yq_ (i := 6) (N := some 41) bq_14 (any_of HT_.out (by kernel_rfl)) ?_
            refine take_ (i := 1) (N := some 36) (v := ?_) (a' := ?_) bq_15 rfl rfl (take_ofW HT_.out HW_.out (by kernel_rfl)) (fun _ _ _ h => h) (Or.inl ⟨by rfl, ?_⟩) hHeld ?_ ?_
            rotate_left
            ·rintro w' ⟨s0, s1, s2, s3, s4, s5, s6⟩
             go_simp
             with_reducible rfl
            rotate_left
            ·simp only [Act.put, List.setIfInBounds_toArray, List.set_cons_zero, List.set_cons_succ, i64_w, i32_w]
             rfl
            refine yq_ (i := 3) (N := some 38) bq_16 (any_of HT_.out (by kernel_rfl)) ?_
            refine yq_ (i := 4) (N := some 39) bq_17 (any_of HT_.out (by kernel_rfl)) ?_
            refine take_ (i := 5) (N := some 40) (v := ?_) (a' := ?_) bq_18 rfl rfl (take_ofW HT_.out HW_.out (by kernel_rfl)) (fun _ _ _ h => h) (Or.inl ⟨by rfl, ?_⟩) hHeld ?_ ?_
            rotate_left
            ·rintro w' ⟨s0, s1, s2, s3, s4, s5, s6⟩
             go_simp
             with_reducible rfl
            rotate_left
            ·simp only [Act.put, List.setIfInBounds_toArray, List.set_cons_zero, List.set_cons_succ, i64_w, i32_w]
             rfl
            refine take_ (i := 7) (N := some 42) (v := ?_) (a' := ?_) bq_19 rfl rfl (take_ofW HT_.out HW_.out (by kernel_rfl)) (fun _ _ _ h => h) (Or.inl ⟨by rfl, ?_⟩) hHeld ?_ ?_
            rotate_left
            ·rintro w' ⟨s0, s1, s2, s3, s4, s5, s6⟩
             go_simp
             with_reducible rfl
            rotate_left
            ·simp only [Act.put, List.setIfInBounds_toArray, List.set_cons_zero, List.set_cons_succ, i64_w, i32_w]
             rfl
            refine yq_ (i := 8) (N := some 43) bq_20 (any_of HT_.out (by kernel_rfl)) ?_
            refine done_ (done_of HT_.out (by kernel_rfl)) ?_
            try go_wp2
            have n0_ := Aside0.mk (Kd.R_drew HO159.out)
            have n1_ := Aside0.mk (blk_drew BK149.out)
            have n2_ := Aside0.mk (blk_drew BK150.out)
            have n3_ := Aside0.mk (blk_drew BK151.out)
            have n4_ := Aside0.mk (blk_drew BK152.out)
            have n5_ := Aside0.mk (below_drew1 HB.out)
            clear HO159 BK149 BK150 BK151 BK152 HB
            have HO159 := n0_
            have BK149 := n1_
            have BK150 := n2_
            have BK151 := n3_
            have BK152 := n4_
            have HB := n5_
            clear n0_ n1_ n2_ n3_ n4_ n5_
            have p161 : 0 ≤ (x7_1 : Int) := of_decide_eq_true tq_11
            have q161 : x7_1 < (l0_0.length : Int) := of_decide_eq_true tq_11
            obtain ⟨ad161, e161, hx161_0, hx161_1, hx161_2⟩ := at_T38 HR0_0.out x7_1 p161 q161
            have hw161_2 := hx161_2
            have hw161_1 := hx161_1
            have hw161_0 := hx161_0
            obtain rfl : ad160 = ad161 := (by injection e161)
            replace hx161_0 := hx_ HB.out hx161_0
            replace hx161_1 := hx_ HB.out hx161_1
            replace hx161_2 := hx_ HB.out hx161_2
            replace p161 := eq_true p161
            replace q161 := eq_true q161
            refine start_ (n := 11) (S := fun w' => w'.cell? ⟨gb152, 0, none⟩ = some (.slice Ao47 y157.length co47) ∧ w'.cell? ⟨gb149, 0, none⟩ = some (.slice (some ad160) l0_0.length c0_0) ∧ w'.cell? (ad160.add ((x7_1).toNat * 3)) = some (.string ((rd_T38 l0_0 x7_1).f0)) ∧ w'.cell? ⟨(ad160.add ((x7_1).toNat * 3)).block, (ad160.add ((x7_1).toNat * 3)).off + 1, none⟩ = some (.bool ((rd_T38 l0_0 x7_1).f1)) ∧ w'.cell? ⟨(ad160.add ((x7_1).toNat * 3)).block, (ad160.add ((x7_1).toNat * 3)).off + 2, none⟩ = some (.string ((rd_T38 l0_0 x7_1).f2))) (ds := [10]) bq_43 (by kernel_rfl) rfl rfl ⟨(blk_cell BK152.out 0).trans rfl, (blk_cell BK149.out 0).trans rfl, ((HB.out.cell (World.block_lt_of_cell? w _ hw161_0)).trans hw161_0), ((HB.out.cell (World.block_lt_of_cell? w _ hw161_1)).trans hw161_1), ((HB.out.cell (World.block_lt_of_cell? w _ hw161_2)).trans hw161_2)⟩ (fun hHeld => ?_); refine with_tabW spec_PutItem.tab10 spec_PutItem.bits10 (fun HT_ HW_ => ?_)
            generalize w50.drew = w51 at HO159 BK149 BK150 BK151 BK152 HB hx161_0 hx161_1 hx161_2 hHeld ⊢
            refine yq_ (i := 0) (N := some 44) bq_44 (any_of HT_.out (by kernel_rfl)) ?_
            refine yq_ (i := 2) (N := some 46) bq_45 (any_of HT_.out (by kernel_rfl)) ?_
            refine yq_ (i := 4) (N := some 48) bq_46 (any_of HT_.out (by kernel_rfl)) ?_
            refine take_ (i := 1) (N := some 45) (v := ?_) (a' := ?_) bq_47 rfl rfl (take_ofW HT_.out HW_.out (by kernel_rfl)) (fun _ _ _ h => h) (Or.inl ⟨by rfl, ?_⟩) hHeld ?_ ?_
            rotate_left
            ·rintro w' ⟨s0, s1, s2, s3, s4⟩
             go_simp
             with_reducible rfl
            rotate_left
            ·simp only [Act.put, List.setIfInBounds_toArray, List.set_cons_zero, List.set_cons_succ, i64_w, i32_w]
             rfl
            refine take_ (i := 3) (N := some 47) (v := ?_) (a' := ?_) bq_48 rfl rfl (take_ofW HT_.out HW_.out (by kernel_rfl)) (fun _ _ _ h => h) (Or.inl ⟨by rfl, ?_⟩) hHeld ?_ ?_
            rotate_left
            ·rintro w' ⟨s0, s1, s2, s3, s4⟩
             go_simp
             with_reducible rfl
            rotate_left
            ·simp only [Act.put, List.setIfInBounds_toArray, List.set_cons_zero, List.set_cons_succ, i64_w, i32_w]
             rfl
            refine yq_ (i := 5) (N := some 49) bq_49 (any_of HT_.out (by kernel_rfl)) ?_
            refine take_ (i := 6) (N := some 50) (v := ?_) (a' := ?_) bq_50 rfl rfl (take_ofW HT_.out HW_.out (by kernel_rfl)) (fun _ _ _ h => h) (Or.inl ⟨by rfl, ?_⟩) hHeld ?_ ?_
            rotate_left
            ·rintro w' ⟨s0, s1, s2, s3, s4⟩
             go_simp
             with_reducible rfl
            rotate_left
            ·simp only [Act.put, List.setIfInBounds_toArray, List.set_cons_zero, List.set_cons_succ, i64_w, i32_w]
             rfl
            refine one_ (i := 7) (N := some 51) bq_51 rfl rfl (one_of HT_.out (by kernel_rfl)) (by decide) (fun K hK => ?_)
            refine value_ (w1 := ?_) (v := ?_) (by rfl) rfl ?_ ?_
            rotate_left 2
            ·go_simp
             constructor
             ·rfl
             ·rfl
            refine hK.out _ _ ⟨(blk_cell (blk_alloc BK152.out _) 0).trans rfl, (blk_cell (blk_alloc BK149.out _) 0).trans rfl, (World.cell?_alloc_lt _ _ _ (World.block_lt_of_cell? _ _ (((HB.out.cell (World.block_lt_of_cell? w _ hw161_0)).trans hw161_0)))).trans (((HB.out.cell (World.block_lt_of_cell? w _ hw161_0)).trans hw161_0)), (World.cell?_alloc_lt _ _ _ (World.block_lt_of_cell? _ _ (((HB.out.cell (World.block_lt_of_cell? w _ hw161_1)).trans hw161_1)))).trans (((HB.out.cell (World.block_lt_of_cell? w _ hw161_1)).trans hw161_1)), (World.cell?_alloc_lt _ _ _ (World.block_lt_of_cell? _ _ (((HB.out.cell (World.block_lt_of_cell? w _ hw161_2)).trans hw161_2)))).trans (((HB.out.cell (World.block_lt_of_cell? w _ hw161_2)).trans hw161_2))⟩ (fun hHeld => ?_)
            clear hK K
            refine norm_ (a' := ?_) ?_ ?_
            rotate_left
            ·show Act.put _ (some 51) _ = _
             simp only [Act.put, List.setIfInBounds_toArray, List.set_cons_zero, List.set_cons_succ, i64_w, i32_w]
             rfl
            refine one_ (i := 8) (N := some 52) bq_52 rfl rfl (one_of HT_.out (by kernel_rfl)) (by decide) (fun K hK => ?_)
            refine Kd.R_append_step k38 (w0 := w) w.heap.size (by rfl) (.tmp 45) (.tmp 51) 26 38 (.agg #[(.string ⟨#[]⟩), (.bool false), (.string ⟨#[]⟩)]) 40 rfl Try.underlying26 info38 rfl (by decide) (by omega) (.slice Ao47 y157.length co47) y157 (⟨(rd_T38 l0_0 x7_1).f0, (rd_T38 l0_0 x7_1).f1, (rd_T38 l0_0 x7_1).f2⟩ : S38) [.string ((rd_T38 l0_0 x7_1).f0), .bool ((rd_T38 l0_0 x7_1).f1), .string ((rd_T38 l0_0 x7_1).f2)] (fun k_ => k_ ≠ gb150) (fun _ => False) rfl rfl ?aP (fun _ hk => hk.elim) ?aF ?aO ?aB ?aS ?aL ?_
            (case aP => exact k38_mkM _ _ _ (⟨(rd_T38 l0_0 x7_1).f0, (rd_T38 l0_0 x7_1).f1, (rd_T38 l0_0 x7_1).f2⟩ : S38))
            (case aB => exact tq_20)
            (case aF => exact tq_55)
            (case aO => exact (by (with_reducible repeat (first | apply Kd.R_alloc | apply Kd.R_drewN | apply Kd.R_drew)); exact HO159.out))
            (case aS => exact (below_size tq_20))
            (case aL => have := LMc38.out; omega)
            intro v163 w52 ho hb hg hat
            rw [← Ny162.out] at ho
            have n0_ := Aside0.mk (blk_grown (g := gb149) (o := .cells #[.slice (some ad160) l0_0.length c0_0] 28 (0, 0)) tq_24 hg (Kd.R_ne HO159.out BK149.out (by decide)))
            have n1_ := Aside0.mk (blk_grown (g := gb150) (o := .cells #[.string a1_0, .bool a1_1, .string a1_2] 38 (0, 0)) tq_23 hg (Kd.R_away HO159.out (fun _ hk => hk)))
            have n2_ := Aside0.mk (blk_grown (g := gb151) (o := .cells #[.slice none 0 0] 28 (0, 0)) tq_38 hg (Kd.R_ne HO159.out BK151.out (by decide)))
            have n3_ := Aside0.mk (blk_grown (g := gb152) (o := .cells #[.slice Ao47 y157.length co47] 28 (0, 0)) tq_53 hg (Kd.R_ne HO159.out BK152.out (by decide)))
            have n4_ := Aside0.mk (hb)
            have n5_ := Aside0.mk (ho)
            clear BK149 BK150 BK151 BK152 HB HO159
            have BK149 := n0_
            have BK150 := n1_
            have BK151 := n2_
            have BK152 := n3_
            have HB := n4_
            have HO164 := n5_
            clear n0_ n1_ n2_ n3_ n4_ n5_ ho hb hg hat
            obtain ⟨Ao53, co53, eo53⟩ := Kd.R_slice HO164.out
            (first | subst eo53 | (injection eo53 with f1_ f2_ f3_; have f4_ := f1_.symm; have f5_ := f3_.symm; clear f1_ f2_ f3_; subst f4_; subst f5_))
            refine hK.out _ _ ⟨(blk_cell BK152.out 0).trans rfl, (blk_cell BK149.out 0).trans rfl, ((HB.out.cell (World.block_lt_of_cell? w _ hw161_0)).trans hw161_0), ((HB.out.cell (World.block_lt_of_cell? w _ hw161_1)).trans hw161_1), ((HB.out.cell (World.block_lt_of_cell? w _ hw161_2)).trans hw161_2)⟩ (fun hHeld => ?_)
            clear hK K
            refine norm_ (a' := ?_) ?_ ?_
            rotate_left
            ·show Act.put _ (some 52) _ = _
             simp only [Act.put, List.setIfInBounds_toArray, List.set_cons_zero, List.set_cons_succ, i64_w, i32_w]
             rfl
            refine yq_ (i := 9) (N := some 53) bq_53 (any_of HT_.out (by kernel_rfl)) ?_
            refine last_ (i := 10) (N := none) bq_54 rfl rfl (one_of HT_.out (by kernel_rfl)) (by decide) (fun K hK => ?_)
            have hs54 : w52.cell? ⟨gb152, 0, none⟩ = some (.slice Ao47 y157.length co47) := (blk_cell BK152.out 0).trans rfl
            have hfs54 := blk_frozen BK152.out 0
            have hns54_0 := NB149_152.out
            have hns54_1 := NB150_152.out
            have hns54_2 := NB151_152.out
            have hms54_0 := NB152_149.out
            have hms54_1 := NB152_150.out
            have hms54_2 := NB152_151.out
            refine skip_ (w1 := ?_) (by rfl) rfl ?_ ?_
            rotate_left
            ·go_simp
             rfl
            refine hK.out _ _ ?_
            clear hK K
            refine done_ (done_of HT_.out (by kernel_rfl)) ?_
            try go_wp2
            go_roundg kj11
            case measure => have := HK1.out; have := HJ11.out; omega
            case rel => exact ⟨(true), (wrap64 (x7_1 + 1)), (y162), (.slice Ao53 y162.length co53), tq_26, tq_26, H', ⟨by have := HK1.out; have := HJ11.out; omega⟩, ⟨by (with_reducible repeat (first | apply Kd.R_alloc | apply Kd.R_drewN | apply Kd.R_drew)); exact Kd.R_mono (Kd.R_far (p := ⟨gb152, 0, none⟩) (Kd.R_types HO164.out BK152.out (by decide)) (fun _ hk => hk.2) (.slice Ao53 y162.length co53)) (fun _ hk => hk.1)⟩, ⟨by (with_reducible repeat (first | refine blk_drewN ?_ _ | refine blk_drew ?_ | refine blk_alloc ?_ _)); refine blk_far ?_ NB149_152.out _; (with_reducible repeat (first | refine blk_drewN ?_ _ | refine blk_drew ?_ | refine blk_alloc ?_ _)); exact BK149.out⟩, ⟨by (with_reducible repeat (first | refine blk_drewN ?_ _ | refine blk_drew ?_ | refine blk_alloc ?_ _)); refine blk_far ?_ NB150_152.out _; (with_reducible repeat (first | refine blk_drewN ?_ _ | refine blk_drew ?_ | refine blk_alloc ?_ _)); exact BK150.out⟩, ⟨by (with_reducible repeat (first | refine blk_drewN ?_ _ | refine blk_drew ?_ | refine blk_alloc ?_ _)); refine blk_far ?_ NB151_152.out _; (with_reducible repeat (first | refine blk_drewN ?_ _ | refine blk_drew ?_ | refine blk_alloc ?_ _)); exact BK151.out⟩, ⟨by (with_reducible repeat (first | refine blk_drewN ?_ _ | refine blk_drew ?_ | refine blk_alloc ?_ _)); refine blk_put (cs := #[.slice Ao47 y157.length co47]) ?_ 0 _ rfl; (with_reducible repeat (first | refine blk_drewN ?_ _ | refine blk_drew ?_ | refine blk_alloc ?_ _)); exact BK152.out⟩, ⟨by repeat (first | (with_reducible first | exact HB.out | apply below_alloc | apply pw_below_drewN | apply below_drew1 | refine below_set ?_ GE149.out | refine below_set ?_ GE150.out | refine below_set ?_ GE151.out | refine below_set ?_ GE152.out) | exact HB.out)⟩⟩
           ·rw [if_neg c38] at H
            exact absurd H (by simp)
         ·rw [if_neg c24] at H
          exact absurd H (by simp)
        ·rw [if_neg c23] at H
         exact absurd H (by simp)
       ·rw [if_neg c22] at H
        exact absurd H (by simp)
      ·replace c21 := Bool.eq_false_iff.mpr c21
       subst c21
       have H1 : (if 0 ≤ x7_1 then (if x7_1 < (l0_0.length : Int) then (if ((rd_T38 l0_0 x7_1).f0).toList = a1_0.toList then (spec_PutItem.l0 kj11 x6_1 (wrap64 (x7_1 + 1)) l0_0 a1_0 a1_1 a1_2 x153000_1) else (if x153000_1.length < 3518437208883 then (spec_PutItem.l0 kj11 x6_1 (wrap64 (x7_1 + 1)) l0_0 a1_0 a1_1 a1_2 (x153000_1 ++ [(⟨(rd_T38 l0_0 x7_1).f0, (rd_T38 l0_0 x7_1).f1, (rd_T38 l0_0 x7_1).f2⟩ : S38)])) else (none))) else (none)) else (none)) = some r := by rw [if_neg (show ¬ (false = true) by decide)] at H; exact H
       clear H
       have H := H1
       clear H1
       by_cases c55 : 0 ≤ x7_1
       ·rw [if_pos c55] at H
        have c55b0 : decide (0 ≤ x7_1) = true := decide_eq_true c55
        clear c55
        by_cases c56 : x7_1 < (l0_0.length : Int)
        ·rw [if_pos c56] at H
         have c56b0 : decide (x7_1 < (l0_0.length : Int)) = true := decide_eq_true c56
         clear c56
         by_cases c57 : ((rd_T38 l0_0 x7_1).f0).toList = a1_0.toList
         ·rw [if_pos c57] at H
          have c57b0 : (((rd_T38 l0_0 x7_1).f0).toList == a1_0.toList) = true := beq_iff_eq.mpr c57
          have c57b1 : (((rd_T38 l0_0 x7_1).f0).toList != a1_0.toList) = false := bne_eq_false_iff_eq.mpr c57
          clear c57
          have H' := Aside0.mk H
          clear H
          try go_wp2
          have n0_ := Aside0.mk (Kd.R_drew HO_153000.out)
          have n1_ := Aside0.mk (blk_drew BK149.out)
          have n2_ := Aside0.mk (blk_drew BK150.out)
          have n3_ := Aside0.mk (blk_drew BK151.out)
          have n4_ := Aside0.mk (blk_drew BK152.out)
          have n5_ := Aside0.mk (below_drew1 HB.out)
          clear HO_153000 BK149 BK150 BK151 BK152 HB
          have HO_153000 := n0_
          have BK149 := n1_
          have BK150 := n2_
          have BK151 := n3_
          have BK152 := n4_
          have HB := n5_
          clear n0_ n1_ n2_ n3_ n4_ n5_
          have p165 : 0 ≤ (x7_1 : Int) := of_decide_eq_true tq_11
          have q165 : x7_1 < (l0_0.length : Int) := of_decide_eq_true tq_11
          obtain ⟨ad165, e165, hx165_0, hx165_1, hx165_2⟩ := at_T38 HR0_0.out x7_1 p165 q165
          have hw165_2 := hx165_2
          have hw165_1 := hx165_1
          have hw165_0 := hx165_0
          cases e165
          replace hx165_0 := hx_ HB.out hx165_0
          replace hx165_1 := hx_ HB.out hx165_1
          replace hx165_2 := hx_ HB.out hx165_2
          replace p165 := eq_true p165
          replace q165 := eq_true q165
          refine start_ (n := 9) (S := fun w' => w'.cell? ⟨gb149, 0, none⟩ = some (.slice (some ad165) l0_0.length c0_0) ∧ w'.cell? ⟨gb150, 0, none⟩ = some (.string a1_0) ∧ w'.cell? ⟨gb150, 1, none⟩ = some (.bool a1_1) ∧ w'.cell? ⟨gb150, 2, none⟩ = some (.string a1_2) ∧ w'.cell? (ad165.add ((x7_1).toNat * 3)) = some (.string ((rd_T38 l0_0 x7_1).f0)) ∧ w'.cell? ⟨(ad165.add ((x7_1).toNat * 3)).block, (ad165.add ((x7_1).toNat * 3)).off + 1, none⟩ = some (.bool ((rd_T38 l0_0 x7_1).f1)) ∧ w'.cell? ⟨(ad165.add ((x7_1).toNat * 3)).block, (ad165.add ((x7_1).toNat * 3)).off + 2, none⟩ = some (.string ((rd_T38 l0_0 x7_1).f2))) (ds := []) bq_11 (by kernel_rfl) rfl rfl ⟨(blk_cell BK149.out 0).trans rfl, (blk_cell BK150.out 0).trans rfl, (blk_cell BK150.out 1).trans rfl, (blk_cell BK150.out 2).trans rfl, ((HB.out.cell (World.block_lt_of_cell? w _ hw165_0)).trans hw165_0), ((HB.out.cell (World.block_lt_of_cell? w _ hw165_1)).trans hw165_1), ((HB.out.cell (World.block_lt_of_cell? w _ hw165_2)).trans hw165_2)⟩ (fun hHeld => ?_); refine with_tabW spec_PutItem.tab9 spec_PutItem.bits9 (fun HT_ HW_ => ?_)
          generalize wc.drew = w58 at HO_153000 BK149 BK150 BK151 BK152 HB hx165_0 hx165_1 hx165_2 hHeld ⊢
          refine yq_ (i := 0) (N := some 35) bq_12 (any_of HT_.out (by kernel_rfl)) ?_
          refine yq_ (i := 2) (N := some 37) bq_13 (any_of HT_.out (by kernel_rfl)) ?_
          refine yq_ (i := 6) (N := some 41) bq_14 (any_of HT_.out (by kernel_rfl)) ?_
          refine take_ (i := 1) (N := some 36) (v := ?_) (a' := ?_) bq_15 rfl rfl (take_ofW HT_.out HW_.out (by kernel_rfl)) (fun _ _ _ h => h) (Or.inl ⟨by rfl, ?_⟩) hHeld ?_ ?_
          rotate_left
          ·rintro w' ⟨s0, s1, s2, s3, s4, s5, s6⟩
           go_simp
           with_reducible rfl
          rotate_left
          ·simp only [Act.put, List.setIfInBounds_toArray, List.set_cons_zero, List.set_cons_succ, i64_w, i32_w]
           rfl
          refine yq_ (i := 3) (N := some 38) bq_16 (any_of HT_.out (by kernel_rfl)) ?_
          refine yq_ (i := 4) (N := some 39) bq_17 (any_of HT_.out (by kernel_rfl)) ?_
          refine take_ (i := 5) (N := some 40) (v := ?_) (a' := ?_) bq_18 rfl rfl (take_ofW HT_.out HW_.out (by kernel_rfl)) (fun _ _ _ h => h) (Or.inl ⟨by rfl, ?_⟩) hHeld ?_ ?_
          rotate_left
          ·rintro w' ⟨s0, s1, s2, s3, s4, s5, s6⟩
           go_simp
           with_reducible rfl
          rotate_left
          ·simp only [Act.put, List.setIfInBounds_toArray, List.set_cons_zero, List.set_cons_succ, i64_w, i32_w]
           rfl
          refine take_ (i := 7) (N := some 42) (v := ?_) (a' := ?_) bq_19 rfl rfl (take_ofW HT_.out HW_.out (by kernel_rfl)) (fun _ _ _ h => h) (Or.inl ⟨by rfl, ?_⟩) hHeld ?_ ?_
          rotate_left
          ·rintro w' ⟨s0, s1, s2, s3, s4, s5, s6⟩
           go_simp
           with_reducible rfl
          rotate_left
          ·simp only [Act.put, List.setIfInBounds_toArray, List.set_cons_zero, List.set_cons_succ, i64_w, i32_w]
           rfl
          refine yq_ (i := 8) (N := some 43) bq_20 (any_of HT_.out (by kernel_rfl)) ?_
          refine done_ (done_of HT_.out (by kernel_rfl)) ?_
          try go_wp2
          go_roundg kj11
          case measure => have := HK1.out; have := HJ11.out; omega
          case rel => exact ⟨(x6_1), (wrap64 (x7_1 + 1)), (x153000_1), (u153000), tq_26, tq_26, H', ⟨by have := HK1.out; have := HJ11.out; omega⟩, ⟨by (with_reducible repeat (first | apply Kd.R_alloc | apply Kd.R_drewN | apply Kd.R_drew)); exact HO_153000.out⟩, ⟨by (with_reducible repeat (first | refine blk_drewN ?_ _ | refine blk_drew ?_ | refine blk_alloc ?_ _)); exact BK149.out⟩, ⟨by (with_reducible repeat (first | refine blk_drewN ?_ _ | refine blk_drew ?_ | refine blk_alloc ?_ _)); exact BK150.out⟩, ⟨by (with_reducible repeat (first | refine blk_drewN ?_ _ | refine blk_drew ?_ | refine blk_alloc ?_ _)); exact BK151.out⟩, ⟨by (with_reducible repeat (first | refine blk_drewN ?_ _ | refine blk_drew ?_ | refine blk_alloc ?_ _)); exact BK152.out⟩, ⟨by repeat (first | (with_reducible first | exact HB.out | apply below_alloc | apply pw_below_drewN | apply below_drew1 | refine below_set ?_ GE149.out | refine below_set ?_ GE150.out | refine below_set ?_ GE151.out | refine below_set ?_ GE152.out) | exact HB.out)⟩⟩
         ·rw [if_neg c57] at H
          have c57b0 : (((rd_T38 l0_0 x7_1).f0).toList == a1_0.toList) = false := beq_eq_false_iff_ne.mpr c57
          have c57b1 : (((rd_T38 l0_0 x7_1).f0).toList != a1_0.toList) = true := bne_iff_ne.mpr c57
          by_cases c59 : x153000_1.length < 3518437208883
          ·rw [if_pos c59] at H
           have LMc59 := Aside0.mk c59
           clear c59
           obtain ⟨y167, hy167⟩ : ∃ y_ : List (S38), y_ = (x153000_1 ++ [(⟨(rd_T38 l0_0 x7_1).f0, (rd_T38 l0_0 x7_1).f1, (rd_T38 l0_0 x7_1).f2⟩ : S38)]) := ⟨_, rfl⟩
           replace H : (spec_PutItem.l0 kj11 x6_1 (wrap64 (x7_1 + 1)) l0_0 a1_0 a1_1 a1_2 y167) = some r := by first | (rw [hy167]; with_reducible exact H) | (have H2_ := (Option.bind_some _ _).symm.trans H; rw [hy167]; with_reducible exact H2_) | (have H2_ := (Option.bind_some _ _).symm.trans H; with_reducible exact H2_) | with_reducible exact H | (rw [hy167]; exact H) | exact H
           have Ny167 := Aside0.mk hy167
           clear hy167
           have H' := Aside0.mk H
           clear H
           try go_wp2
           have n0_ := Aside0.mk (Kd.R_drew HO_153000.out)
           have n1_ := Aside0.mk (blk_drew BK149.out)
           have n2_ := Aside0.mk (blk_drew BK150.out)
           have n3_ := Aside0.mk (blk_drew BK151.out)
           have n4_ := Aside0.mk (blk_drew BK152.out)
           have n5_ := Aside0.mk (below_drew1 HB.out)
           clear HO_153000 BK149 BK150 BK151 BK152 HB
           have HO_153000 := n0_
           have BK149 := n1_
           have BK150 := n2_
           have BK151 := n3_
           have BK152 := n4_
           have HB := n5_
           clear n0_ n1_ n2_ n3_ n4_ n5_
           have p165 : 0 ≤ (x7_1 : Int) := of_decide_eq_true tq_11
           have q165 : x7_1 < (l0_0.length : Int) := of_decide_eq_true tq_11
           obtain ⟨ad165, e165, hx165_0, hx165_1, hx165_2⟩ := at_T38 HR0_0.out x7_1 p165 q165
           have hw165_2 := hx165_2
           have hw165_1 := hx165_1
           have hw165_0 := hx165_0
           cases e165
           replace hx165_0 := hx_ HB.out hx165_0
           replace hx165_1 := hx_ HB.out hx165_1
           replace hx165_2 := hx_ HB.out hx165_2
           replace p165 := eq_true p165
           replace q165 := eq_true q165
           refine start_ (n := 9) (S := fun w' => w'.cell? ⟨gb149, 0, none⟩ = some (.slice (some ad165) l0_0.length c0_0) ∧ w'.cell? ⟨gb150, 0, none⟩ = some (.string a1_0) ∧ w'.cell? ⟨gb150, 1, none⟩ = some (.bool a1_1) ∧ w'.cell? ⟨gb150, 2, none⟩ = some (.string a1_2) ∧ w'.cell? (ad165.add ((x7_1).toNat * 3)) = some (.string ((rd_T38 l0_0 x7_1).f0)) ∧ w'.cell? ⟨(ad165.add ((x7_1).toNat * 3)).block, (ad165.add ((x7_1).toNat * 3)).off + 1, none⟩ = some (.bool ((rd_T38 l0_0 x7_1).f1)) ∧ w'.cell? ⟨(ad165.add ((x7_1).toNat * 3)).block, (ad165.add ((x7_1).toNat * 3)).off + 2, none⟩ = some (.string ((rd_T38 l0_0 x7_1).f2))) (ds := []) bq_11 (by kernel_rfl) rfl rfl ⟨(blk_cell BK149.out 0).trans rfl, (blk_cell BK150.out 0).trans rfl, (blk_cell BK150.out 1).trans rfl, (blk_cell BK150.out 2).trans rfl, ((HB.out.cell (World.block_lt_of_cell? w _ hw165_0)).trans hw165_0), ((HB.out.cell (World.block_lt_of_cell? w _ hw165_1)).trans hw165_1), ((HB.out.cell (World.block_lt_of_cell? w _ hw165_2)).trans hw165_2)⟩ (fun hHeld => ?_); refine with_tabW spec_PutItem.tab9 spec_PutItem.bits9 (fun HT_ HW_ => ?_)
           generalize wc.drew = w60 at HO_153000 BK149 BK150 BK151 BK152 HB hx165_0 hx165_1 hx165_2 hHeld ⊢
           refine yq_ (i := 0) (N := some 35) bq_12 (any_of HT_.out (by kernel_rfl)) ?_
           refine yq_ (i := 2) (N := some 37) bq_13 (any_of HT_.out (by kernel_rfl)) ?_
           refine yq_ (i := 6) (N := some 41) bq_14 (any_of HT_.out (by kernel_rfl)) ?_
           refine take_ (i := 1) (N := some 36) (v := ?_) (a' := ?_) bq_15 rfl rfl (take_ofW HT_.out HW_.out (by kernel_rfl)) (fun _ _ _ h => h) (Or.inl ⟨by rfl, ?_⟩) hHeld ?_ ?_
           rotate_left
           ·rintro w' ⟨s0, s1, s2, s3, s4, s5, s6⟩
            go_simp
            with_reducible rfl
           rotate_left
           ·simp only [Act.put, List.setIfInBounds_toArray, List.set_cons_zero, List.set_cons_succ, i64_w, i32_w]
            rfl
           refine yq_ (i := 3) (N := some 38) bq_16 (any_of HT_.out (by kernel_rfl)) ?_
           refine yq_ (i := 4) (N := some 39) bq_17 (any_of HT_.out (by kernel_rfl)) ?_
           refine take_ (i := 5) (N := some 40) (v := ?_) (a' := ?_) bq_18 rfl rfl (take_ofW HT_.out HW_.out (by kernel_rfl)) (fun _ _ _ h => h) (Or.inl ⟨by rfl, ?_⟩) hHeld ?_ ?_
           rotate_left
           ·rintro w' ⟨s0, s1, s2, s3, s4, s5, s6⟩
            go_simp
            with_reducible rfl
           rotate_left
           ·simp only [Act.put, List.setIfInBounds_toArray, List.set_cons_zero, List.set_cons_succ, i64_w, i32_w]
            rfl
           refine take_ (i := 7) (N := some 42) (v := ?_) (a' := ?_) bq_19 rfl rfl (take_ofW HT_.out HW_.out (by kernel_rfl)) (fun _ _ _ h => h) (Or.inl ⟨by rfl, ?_⟩) hHeld ?_ ?_
           rotate_left
           ·rintro w' ⟨s0, s1, s2, s3, s4, s5, s6⟩
            go_simp
            with_reducible rfl
           rotate_left
           ·simp only [Act.put, List.setIfInBounds_toArray, List.set_cons_zero, List.set_cons_succ, i64_w, i32_w]
            rfl
           refine yq_ (i := 8) (N := some 43) bq_20 (any_of HT_.out (by kernel_rfl)) ?_
           refine done_ (done_of HT_.out (by kernel_rfl)) ?_
           try go_wp2
           have n0_ := Aside0.mk (Kd.R_drew HO_153000.out)
           have n1_ := Aside0.mk (blk_drew BK149.out)
           have n2_ := Aside0.mk (blk_drew BK150.out)
           have n3_ := Aside0.mk (blk_drew BK151.out)
           have n4_ := Aside0.mk (blk_drew BK152.out)
           have n5_ := Aside0.mk (below_drew1 HB.out)
           clear HO_153000 BK149 BK150 BK151 BK152 HB
           have HO_153000 := n0_
           have BK149 := n1_
           have BK150 := n2_
           have BK151 := n3_
           have BK152 := n4_
           have HB := n5_
           clear n0_ n1_ n2_ n3_ n4_ n5_
           have p166 : 0 ≤ (x7_1 : Int) := of_decide_eq_true tq_11
           have q166 : x7_1 < (l0_0.length : Int) := of_decide_eq_true tq_11
           obtain ⟨ad166, e166, hx166_0, hx166_1, hx166_2⟩ := at_T38 HR0_0.out x7_1 p166 q166
           have hw166_2 := hx166_2
           have hw166_1 := hx166_1
           have hw166_0 := hx166_0
           obtain rfl : ad165 = ad166 := (by injection e166)
           replace hx166_0 := hx_ HB.out hx166_0
           replace hx166_1 := hx_ HB.out hx166_1
           replace hx166_2 := hx_ HB.out hx166_2
           replace p166 := eq_true p166
           replace q166 := eq_true q166
           refine start_ (n := 11) (S := fun w' => w'.cell? ⟨gb152, 0, none⟩ = some (u153000) ∧ w'.cell? ⟨gb149, 0, none⟩ = some (.slice (some ad165) l0_0.length c0_0) ∧ w'.cell? (ad165.add ((x7_1).toNat * 3)) = some (.string ((rd_T38 l0_0 x7_1).f0)) ∧ w'.cell? ⟨(ad165.add ((x7_1).toNat * 3)).block, (ad165.add ((x7_1).toNat * 3)).off + 1, none⟩ = some (.bool ((rd_T38 l0_0 x7_1).f1)) ∧ w'.cell? ⟨(ad165.add ((x7_1).toNat * 3)).block, (ad165.add ((x7_1).toNat * 3)).off + 2, none⟩ = some (.string ((rd_T38 l0_0 x7_1).f2))) (ds := [10]) bq_43 (by kernel_rfl) rfl rfl ⟨(blk_cell BK152.out 0).trans rfl, (blk_cell BK149.out 0).trans rfl, ((HB.out.cell (World.block_lt_of_cell? w _ hw166_0)).trans hw166_0), ((HB.out.cell (World.block_lt_of_cell? w _ hw166_1)).trans hw166_1), ((HB.out.cell (World.block_lt_of_cell? w _ hw166_2)).trans hw166_2)⟩ (fun hHeld => ?_); refine with_tabW spec_PutItem.tab10 spec_PutItem.bits10 (fun HT_ HW_ => ?_)
           generalize w60.drew = w61 at HO_153000 BK149 BK150 BK151 BK152 HB hx166_0 hx166_1 hx166_2 hHeld ⊢
           refine yq_ (i := 0) (N := some 44) bq_44 (any_of HT_.out (by kernel_rfl)) ?_
           refine yq_ (i := 2) (N := some 46) bq_45 (any_of HT_.out (by kernel_rfl)) ?_
           refine yq_ (i := 4) (N := some 48) bq_46 (any_of HT_.out (by kernel_rfl)) ?_
           refine take_ (i := 1) (N := some 45) (v := ?_) (a' := ?_) bq_47 rfl rfl (take_ofW HT_.out HW_.out (by kernel_rfl)) (fun _ _ _ h => h) (Or.inl ⟨by rfl, ?_⟩) hHeld ?_ ?_
           rotate_left
           ·rintro w' ⟨s0, s1, s2, s3, s4⟩
            go_simp
            with_reducible rfl
           rotate_left
           ·simp only [Act.put, List.setIfInBounds_toArray, List.set_cons_zero, List.set_cons_succ, i64_w, i32_w]
            rfl
           refine take_ (i := 3) (N := some 47) (v := ?_) (a' := ?_) bq_48 rfl rfl (take_ofW HT_.out HW_.out (by kernel_rfl)) (fun _ _ _ h => h) (Or.inl ⟨by rfl, ?_⟩) hHeld ?_ ?_
           rotate_left
           ·rintro w' ⟨s0, s1, s2, s3, s4⟩
            go_simp
            with_reducible rfl
           rotate_left
           ·simp only [Act.put, List.setIfInBounds_toArray, List.set_cons_zero, List.set_cons_succ, i64_w, i32_w]
            rfl
           refine yq_ (i := 5) (N := some 49) bq_49 (any_of HT_.out (by kernel_rfl)) ?_
           refine take_ (i := 6) (N := some 50) (v := ?_) (a' := ?_) bq_50 rfl rfl (take_ofW HT_.out HW_.out (by kernel_rfl)) (fun _ _ _ h => h) (Or.inl ⟨by rfl, ?_⟩) hHeld ?_ ?_
           rotate_left
           ·rintro w' ⟨s0, s1, s2, s3, s4⟩
            go_simp
            with_reducible rfl
           rotate_left
           ·simp only [Act.put, List.setIfInBounds_toArray, List.set_cons_zero, List.set_cons_succ, i64_w, i32_w]
            rfl
           refine one_ (i := 7) (N := some 51) bq_51 rfl rfl (one_of HT_.out (by kernel_rfl)) (by decide) (fun K hK => ?_)
           refine value_ (w1 := ?_) (v := ?_) (by rfl) rfl ?_ ?_
           rotate_left 2
           ·go_simp
            constructor
            ·rfl
            ·rfl
           refine hK.out _ _ ⟨(blk_cell (blk_alloc BK152.out _) 0).trans rfl, (blk_cell (blk_alloc BK149.out _) 0).trans rfl, (World.cell?_alloc_lt _ _ _ (World.block_lt_of_cell? _ _ (((HB.out.cell (World.block_lt_of_cell? w _ hw166_0)).trans hw166_0)))).trans (((HB.out.cell (World.block_lt_of_cell? w _ hw166_0)).trans hw166_0)), (World.cell?_alloc_lt _ _ _ (World.block_lt_of_cell? _ _ (((HB.out.cell (World.block_lt_of_cell? w _ hw166_1)).trans hw166_1)))).trans (((HB.out.cell (World.block_lt_of_cell? w _ hw166_1)).trans hw166_1)), (World.cell?_alloc_lt _ _ _ (World.block_lt_of_cell? _ _ (((HB.out.cell (World.block_lt_of_cell? w _ hw166_2)).trans hw166_2)))).trans (((HB.out.cell (World.block_lt_of_cell? w _ hw166_2)).trans hw166_2))⟩ (fun hHeld => ?_)
           clear hK K
           refine norm_ (a' := ?_) ?_ ?_
           rotate_left
           ·show Act.put _ (some 51) _ = _
            simp only [Act.put, List.setIfInBounds_toArray, List.set_cons_zero, List.set_cons_succ, i64_w, i32_w]
            rfl
           refine one_ (i := 8) (N := some 52) bq_52 rfl rfl (one_of HT_.out (by kernel_rfl)) (by decide) (fun K hK => ?_)
           refine Kd.R_append_step k38 (w0 := w) w.heap.size (by rfl) (.tmp 45) (.tmp 51) 26 38 (.agg #[(.string ⟨#[]⟩), (.bool false), (.string ⟨#[]⟩)]) 40 rfl Try.underlying26 info38 rfl (by decide) (by omega) u153000 x153000_1 (⟨(rd_T38 l0_0 x7_1).f0, (rd_T38 l0_0 x7_1).f1, (rd_T38 l0_0 x7_1).f2⟩ : S38) [.string ((rd_T38 l0_0 x7_1).f0), .bool ((rd_T38 l0_0 x7_1).f1), .string ((rd_T38 l0_0 x7_1).f2)] (fun k_ => k_ ≠ gb150) (fun _ => False) rfl rfl ?aP (fun _ hk => hk.elim) ?aF ?aO ?aB ?aS ?aL ?_
           (case aP => exact k38_mkM _ _ _ (⟨(rd_T38 l0_0 x7_1).f0, (rd_T38 l0_0 x7_1).f1, (rd_T38 l0_0 x7_1).f2⟩ : S38))
           (case aB => exact tq_20)
           (case aF => exact tq_55)
           (case aO => exact tq_71)
           (case aS => exact (below_size tq_20))
           (case aL => have := LMc59.out; omega)
           intro v168 w62 ho hb hg hat
           rw [← Ny167.out] at ho
           have n0_ := Aside0.mk (blk_grown (g := gb149) (o := .cells #[.slice (some ad165) l0_0.length c0_0] 28 (0, 0)) tq_24 hg (Kd.R_ne HO_153000.out BK149.out (by decide)))
           have n1_ := Aside0.mk (blk_grown (g := gb150) (o := .cells #[.string a1_0, .bool a1_1, .string a1_2] 38 (0, 0)) tq_23 hg (Kd.R_away HO_153000.out (fun _ hk => hk)))
           have n2_ := Aside0.mk (blk_grown (g := gb151) (o := .cells #[.slice none 0 0] 28 (0, 0)) tq_38 hg (Kd.R_ne HO_153000.out BK151.out (by decide)))
           have n3_ := Aside0.mk (blk_grown (g := gb152) (o := .cells #[u153000] 28 (0, 0)) tq_53 hg (Kd.R_ne HO_153000.out BK152.out (by decide)))
           have n4_ := Aside0.mk (hb)
           have n5_ := Aside0.mk (ho)
           clear BK149 BK150 BK151 BK152 HB HO_153000
           have BK149 := n0_
           have BK150 := n1_
           have BK151 := n2_
           have BK152 := n3_
           have HB := n4_
           have HO169 := n5_
           clear n0_ n1_ n2_ n3_ n4_ n5_ ho hb hg hat
           obtain ⟨Ao63, co63, eo63⟩ := Kd.R_slice HO169.out
           (first | subst eo63 | (injection eo63 with f1_ f2_ f3_; have f4_ := f1_.symm; have f5_ := f3_.symm; clear f1_ f2_ f3_; subst f4_; subst f5_))
           refine hK.out _ _ ⟨(blk_cell BK152.out 0).trans rfl, (blk_cell BK149.out 0).trans rfl, ((HB.out.cell (World.block_lt_of_cell? w _ hw166_0)).trans hw166_0), ((HB.out.cell (World.block_lt_of_cell? w _ hw166_1)).trans hw166_1), ((HB.out.cell (World.block_lt_of_cell? w _ hw166_2)).trans hw166_2)⟩ (fun hHeld => ?_)
           clear hK K
           refine norm_ (a' := ?_) ?_ ?_
           rotate_left
           ·show Act.put _ (some 52) _ = _
            simp only [Act.put, List.setIfInBounds_toArray, List.set_cons_zero, List.set_cons_succ, i64_w, i32_w]
            rfl
           refine yq_ (i := 9) (N := some 53) bq_53 (any_of HT_.out (by kernel_rfl)) ?_
           refine last_ (i := 10) (N := none) bq_54 rfl rfl (one_of HT_.out (by kernel_rfl)) (by decide) (fun K hK => ?_)
           have hs64 : w62.cell? ⟨gb152, 0, none⟩ = some (u153000) := (blk_cell BK152.out 0).trans rfl
           have hfs64 := blk_frozen BK152.out 0
           have hns64_0 := NB149_152.out
           have hns64_1 := NB150_152.out
           have hns64_2 := NB151_152.out
           have hms64_0 := NB152_149.out
           have hms64_1 := NB152_150.out
           have hms64_2 := NB152_151.out
           refine skip_ (w1 := ?_) (by rfl) rfl ?_ ?_
           rotate_left
           ·go_simp
            rfl
           refine hK.out _ _ ?_
           clear hK K
           refine done_ (done_of HT_.out (by kernel_rfl)) ?_
           try go_wp2
           go_roundg kj11
           case measure => have := HK1.out; have := HJ11.out; omega
           case rel => exact ⟨(x6_1), (wrap64 (x7_1 + 1)), (y167), (.slice Ao63 y167.length co63), tq_26, tq_26, H', ⟨by have := HK1.out; have := HJ11.out; omega⟩, ⟨by (with_reducible repeat (first | apply Kd.R_alloc | apply Kd.R_drewN | apply Kd.R_drew)); exact Kd.R_mono (Kd.R_far (p := ⟨gb152, 0, none⟩) (Kd.R_types HO169.out BK152.out (by decide)) (fun _ hk => hk.2) (.slice Ao63 y167.length co63)) (fun _ hk => hk.1)⟩, ⟨by (with_reducible repeat (first | refine blk_drewN ?_ _ | refine blk_drew ?_ | refine blk_alloc ?_ _)); refine blk_far ?_ NB149_152.out _; (with_reducible repeat (first | refine blk_drewN ?_ _ | refine blk_drew ?_ | refine blk_alloc ?_ _)); exact BK149.out⟩, ⟨by (with_reducible repeat (first | refine blk_drewN ?_ _ | refine blk_drew ?_ | refine blk_alloc ?_ _)); refine blk_far ?_ NB150_152.out _; (with_reducible repeat (first | refine blk_drewN ?_ _ | refine blk_drew ?_ | refine blk_alloc ?_ _)); exact BK150.out⟩, ⟨by (with_reducible repeat (first | refine blk_drewN ?_ _ | refine blk_drew ?_ | refine blk_alloc ?_ _)); refine blk_far ?_ NB151_152.out _; (with_reducible repeat (first | refine blk_drewN ?_ _ | refine blk_drew ?_ | refine blk_alloc ?_ _)); exact BK151.out⟩, ⟨by (with_reducible repeat (first | refine blk_drewN ?_ _ | refine blk_drew ?_ | refine blk_alloc ?_ _)); refine blk_put (cs := #[u153000]) ?_ 0 _ rfl; (with_reducible repeat (first | refine blk_drewN ?_ _ | refine blk_drew ?_ | refine blk_alloc ?_ _)); exact BK152.out⟩, ⟨by repeat (first | (with_reducible first | exact HB.out | apply below_alloc | apply pw_below_drewN | apply below_drew1 | refine below_set ?_ GE149.out | refine below_set ?_ GE150.out | refine below_set ?_ GE151.out | refine below_set ?_ GE152.out) | exact HB.out)⟩⟩
          ·rw [if_neg c59] at H
           exact absurd H (by simp)
        ·rw [if_neg c56] at H
         exact absurd H (by simp)
       ·rw [if_neg c55] at H
        exact absurd H (by simp)
   ·rw [if_neg c11] at H
    have c11b0 : decide (x7_1 < (l0_0.length : Int)) = false := decide_eq_false c11
    clear c11
    by_cases c65 : x6_1 = true
    ·subst c65
     have H1 : (some x153000_1) = some r := by rw [if_pos rfl] at H; exact H
     clear H
     have H := H1
     clear H1
     obtain rfl := Option.some.inj H
     have hnb66 := NB149_150.out
     have hnc66 := NB150_149.out
     have hnb67 := NB149_151.out
     have hnc67 := NB151_149.out
     have hnb68 := NB149_152.out
     have hnc68 := NB152_149.out
     have hcz69_0 := bc_ BK149.out 0
     have hfz69_0 := blk_frozen BK149.out 0
     have hnb70 := NB152_150.out
     have hnc70 := NB150_152.out
     have hnb71 := NB152_151.out
     have hnc71 := NB151_152.out
     have hcz72_0 := bc_ BK152.out 0
     have hfz72_0 := blk_frozen BK152.out 0
     obtain ⟨Ao73, co73, eo73⟩ := Kd.R_slice HO_153000.out
     subst eo73
     have hnb74 := NB151_150.out
     have hnc74 := NB150_151.out
     have hcz75_0 := bc_ BK151.out 0
     have hfz75_0 := blk_frozen BK151.out 0
     go_wp2
     refine bodyPost_ret (results_cell_row rfl _ _ gb151 28 #[.slice Ao73 x153000_1.length co73] (0, 0) _ rfl (by (with_reducible repeat (first | refine blk_drewN ?_ _ | refine blk_drew ?_ | refine blk_alloc ?_ _)); refine blk_put (cs := #[.slice none 0 0]) ?_ 0 _ rfl; (with_reducible repeat (first | refine blk_drewN ?_ _ | refine blk_drew ?_ | refine blk_alloc ?_ _)); exact BK151.out) Try.underlying28 rfl (by kernel_rfl)) rfl ?_
     exact ⟨_, by first | rfl | (simp [errW_none, errW_some] <;> rfl) | (simp [*, errW_none, errW_some] <;> rfl), by (with_reducible repeat (first | apply Kd.R_alloc | apply Kd.R_drewN | apply Kd.R_drew)); exact Kd.R_mono (Kd.R_far (p := ⟨gb151, 0, none⟩) (Kd.R_types HO_153000.out BK151.out (by decide)) (fun _ hk => hk.2) (.slice Ao73 x153000_1.length co73)) (fun _ hk => trivial), by repeat (first | (with_reducible first | exact HB.out | apply below_alloc | apply pw_below_drewN | apply below_drew1 | refine below_set ?_ GE149.out | refine below_set ?_ GE150.out | refine below_set ?_ GE151.out | refine below_set ?_ GE152.out) | exact HB.out)⟩
    ·replace c65 := Bool.eq_false_iff.mpr c65
     subst c65
     have H1 : (if x153000_1.length < 3518437208883 then (some (x153000_1 ++ [(⟨a1_0, a1_1, a1_2⟩ : S38)])) else (none)) = some r := by rw [if_neg (show ¬ (false = true) by decide)] at H; exact H
     clear H
     have H := H1
     clear H1
     by_cases c76 : x153000_1.length < 3518437208883
     ·rw [if_pos c76] at H
      have LMc76 := Aside0.mk c76
      clear c76
      obtain ⟨y153, hy153⟩ : ∃ y_ : List (S38), y_ = (x153000_1 ++ [(⟨a1_0, a1_1, a1_2⟩ : S38)]) := ⟨_, rfl⟩
      replace H : (some y153) = some r := by first | (rw [hy153]; with_reducible exact H) | (have H2_ := (Option.bind_some _ _).symm.trans H; rw [hy153]; with_reducible exact H2_) | (have H2_ := (Option.bind_some _ _).symm.trans H; with_reducible exact H2_) | with_reducible exact H | (rw [hy153]; exact H) | exact H
      have Ny153 := Aside0.mk hy153
      clear hy153
      obtain rfl := Option.some.inj H
      have hnb77 := NB149_150.out
      have hnc77 := NB150_149.out
      have hnb78 := NB149_151.out
      have hnc78 := NB151_149.out
      have hnb79 := NB149_152.out
      have hnc79 := NB152_149.out
      have hcz80_0 := bc_ BK149.out 0
      have hfz80_0 := blk_frozen BK149.out 0
      have hnb81 := NB152_150.out
      have hnc81 := NB150_152.out
      have hnb82 := NB152_151.out
      have hnc82 := NB151_152.out
      have hcz83_0 := bc_ BK152.out 0
      have hfz83_0 := blk_frozen BK152.out 0
      have hnb84 := NB150_151.out
      have hnc84 := NB151_150.out
      have hcz85_0 := bc_ BK150.out 0
      have hcz85_1 := bc_ BK150.out 1
      have hcz85_2 := bc_ BK150.out 2
      have hfz85_0 := blk_frozen BK150.out 0
      have hfz85_1 := blk_frozen BK150.out 1
      have hfz85_2 := blk_frozen BK150.out 2
      go_wp2_with (first | ((with_reducible refine gate_builtin (b := .append) (xs := #[.tmp 57, .tmp 59]) rfl ?_); at_builtin; refine Kd.R_append k38 (w0 := w) w.heap.size rfl (.tmp 57) (.tmp 59) 26 38 (.agg #[(.string ⟨#[]⟩), (.bool false), (.string ⟨#[]⟩)]) 40 rfl Try.underlying26 info38 rfl (by decide) (by omega) u153000 x153000_1 (⟨a1_0, a1_1, a1_2⟩ : S38) [.string a1_0, .bool a1_1, .string a1_2] (fun k_ => k_ ≠ gb150) (fun _ => False) rfl rfl ?aP (fun _ hk => hk.elim) ?aF ?aO ?aB ?aS ?aL ?_; (case aP => exact k38_mkM _ _ _ (⟨a1_0, a1_1, a1_2⟩ : S38)); (case aB => exact tq_20); (case aF => exact tq_55); (case aO => exact tq_71); (case aS => exact (below_size tq_20)); (case aL => have := LMc76.out; omega); intro v154 w86 ho hb hg hat; rw [← Ny153.out] at ho; have n0_ := Aside0.mk (blk_grown (g := gb149) (o := .cells #[.slice A0_0 l0_0.length c0_0] 28 (0, 0)) tq_24 hg (Kd.R_ne HO_153000.out BK149.out (by decide))); have n1_ := Aside0.mk (blk_grown (g := gb150) (o := .cells #[.string a1_0, .bool a1_1, .string a1_2] 38 (0, 0)) tq_23 hg (Kd.R_away HO_153000.out (fun _ hk => hk))); have n2_ := Aside0.mk (blk_grown (g := gb151) (o := .cells #[.slice none 0 0] 28 (0, 0)) tq_38 hg (Kd.R_ne HO_153000.out BK151.out (by decide))); have n3_ := Aside0.mk (blk_grown (g := gb152) (o := .cells #[u153000] 28 (0, 0)) tq_53 hg (Kd.R_ne HO_153000.out BK152.out (by decide))); have n4_ := Aside0.mk (hb); have n5_ := Aside0.mk (ho); clear BK149 BK150 BK151 BK152 HB HO_153000; have BK149 := n0_; have BK150 := n1_; have BK151 := n2_; have BK152 := n3_; have HB := n4_; have HO155 := n5_; clear n0_ n1_ n2_ n3_ n4_ n5_; clear ho hb hg hat; obtain ⟨Ao87, co87, eo87⟩ := Kd.R_slice HO155.out; subst eo87; have hcz88_0 := bc_ BK152.out 0; have hfz88_0 := blk_frozen BK152.out 0; have hcz89_0 := bc_ BK151.out 0; have hfz89_0 := blk_frozen BK151.out 0))
      refine bodyPost_ret (results_cell_row rfl _ _ gb151 28 #[.slice Ao87 y153.length co87] (0, 0) _ rfl (by (with_reducible repeat (first | refine blk_drewN ?_ _ | refine blk_drew ?_ | refine blk_alloc ?_ _)); refine blk_put (cs := #[.slice none 0 0]) ?_ 0 _ rfl; (with_reducible repeat (first | refine blk_drewN ?_ _ | refine blk_drew ?_ | refine blk_alloc ?_ _)); refine blk_far ?_ NB151_152.out _; (with_reducible repeat (first | refine blk_drewN ?_ _ | refine blk_drew ?_ | refine blk_alloc ?_ _)); exact BK151.out) Try.underlying28 rfl (by kernel_rfl)) rfl ?_
      exact ⟨_, by first | rfl | (simp [errW_none, errW_some] <;> rfl) | (simp [*, errW_none, errW_some] <;> rfl), by (with_reducible repeat (first | apply Kd.R_alloc | apply Kd.R_drewN | apply Kd.R_drew)); exact Kd.R_mono (Kd.R_far (p := ⟨gb151, 0, none⟩) (Kd.R_far (p := ⟨gb152, 0, none⟩) (Kd.R_types (Kd.R_types HO155.out BK152.out (by decide)) BK151.out (by decide)) (fun _ hk => hk.1.2) (.slice Ao87 y153.length co87)) (fun _ hk => hk.2) (.slice Ao87 y153.length co87)) (fun _ hk => trivial), by repeat (first | (with_reducible first | exact HB.out | apply below_alloc | apply pw_below_drewN | apply below_drew1 | refine below_set ?_ GE149.out | refine below_set ?_ GE150.out | refine below_set ?_ GE151.out | refine below_set ?_ GE152.out) | exact HB.out)⟩
     ·rw [if_neg c76] at H
      exact absurd H (by simp)

end Go.Proofs.Ytcdnfkoahajhhaa.PFnExactPutItem
