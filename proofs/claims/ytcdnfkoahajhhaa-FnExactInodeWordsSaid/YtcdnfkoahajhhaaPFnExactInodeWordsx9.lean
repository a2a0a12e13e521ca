/- Contracts of Go functions, written by a program of ours over the print of the kit: each says that the call returns what the Lean function beside it computes. Conditions: as each theorem states them. -/
import Derived.Test.YtcdnfkoahajhhaaPkFnExactInodeWords
import Derived.Test.YtcdnfkoahajhhaaPFnExactInodeWordsx0
import Derived.Test.YtcdnfkoahajhhaaPFnExactInodeWordsx7
import Derived.Test.YtcdnfkoahajhhaaPFnExactInodeWordsx8
namespace Go.Proofs.Ytcdnfkoahajhhaa.PFnExactInodeWords
open Go.RowKit Go.Proofs.YtcdnfkoahajhhaaW.PrintWords Go.Proofs.YtcdnfkoahajhhaaW.PrintLast Go.Proofs.YtcdnfkoahajhhaaW.PrintMore
attribute [local go_sem] max2_int min2_int max_two min_two max_three min_three max_four min_four   -- for this text's walks alone
set_option linter.unusedVariables false
set_option linter.unusedSimpArgs false

/-! ### impl_isFile: function 195 -/
def impl_isFile.l0 : Nat → List (S170) → Int → Int → Int → Int → Int → ByteArray → List (S170) → List (S59) → Option (Bool)
 | 0, _, _, _, _, _, _, _, _, _ => none
 | k + 1, x6, x7, x8, x246000, x246001, x246002, x246003, x246004, x246005 => if x8 < x7 then (if 0 ≤ x8 then (if x8 < (x6.length : Int) then ((impl_RecWord.f k ((rd_T170 x6 x8).f0) ((rd_T170 x6 x8).f1) ((rd_T170 x6 x8).f2)).bind fun t250 => (if t250.toList = ([] : List UInt8) then (some false) else (if x8 ≤ (x246004.length : Int) then ((slices_ContainsFunc_Rec_g227.f (x246004.take (x8 : Int).toNat) ((rd_T170 x6 x8).f0) ((rd_T170 x6 x8).f1) ((rd_T170 x6 x8).f2)).bind fun t255 => (if t255 = true then (some false) else (impl_isFile.l0 k x6 x7 (wrap64 (x8 + 1)) x246000 x246001 x246002 x246003 x246004 x246005))) else (none)))) else (none)) else (none)) else ((impl_within.f x246001 0 128).bind fun t246 => (if t246 = true then (if (x246003.size : Int) = 8 then ((impl_PagesFor.f x246001).bind fun t247 => (if (x246004.length : Int) = t247 then (some ((x246005.length : Int) == 0)) else (some false))) else (some false)) else (some false)))
def impl_isFile.f (k : Nat) (a0_0 : Int) (a0_1 : Int) (a0_2 : Int) (a0_3 : ByteArray) (l0_4 : List (S170)) (l0_5 : List (S59)) : Option (Bool) := impl_isFile.l0 k l0_4 (l0_4.length : Int) 0 a0_0 a0_1 a0_2 a0_3 l0_4 l0_5
theorem impl_isFile.mono_l : ∀ k, (∀ y0 y1 y2 y3 y4 y5 y6 y7 y8, LeO (impl_isFile.l0 k y0 y1 y2 y3 y4 y5 y6 y7 y8) (impl_isFile.l0 (k + 1) y0 y1 y2 y3 y4 y5 y6 y7 y8))
 | 0 => fun _ _ _ _ _ _ _ _ _ r h => by simp [impl_isFile.l0] at h
 | k + 1 => by
  have ih0 := impl_isFile.mono_l k
  ·intro y0 y1 y2 y3 y4 y5 y6 y7 y8
   unfold impl_isFile.l0
   repeat' first
   | (with_reducible exact ih0 ..)
   | (with_reducible exact impl_RecWord.mono ..)
   | (with_reducible exact LeO.refl _)
   | (with_reducible exact LeO.none _)
   | (with_reducible refine LeO.ite ?_ ?_)
   | (with_reducible refine LeO.bind ?_ (fun _ => ?_))
   | exact ih0 ..
   | exact impl_RecWord.mono ..
   | exact LeO.none _
   | refine LeO.ite ?_ ?_
   | refine LeO.bind ?_ (fun _ => ?_)
theorem impl_isFile.mono : ∀ a0 a1 a2 a3 a4 a5 k, LeO (impl_isFile.f k a0 a1 a2 a3 a4 a5) (impl_isFile.f (k + 1) a0 a1 a2 a3 a4 a5) := by
 intro a0 a1 a2 a3 a4 a5 k
 have ih0 := impl_isFile.mono_l k
 unfold impl_isFile.f
 repeat' first
   | (with_reducible exact ih0 ..)
   | (with_reducible exact impl_RecWord.mono ..)
   | (with_reducible exact LeO.refl _)
   | (with_reducible exact LeO.none _)
   | (with_reducible refine LeO.ite ?_ ?_)
   | (with_reducible refine LeO.bind ?_ (fun _ => ?_))
   | exact ih0 ..
   | exact impl_RecWord.mono ..
   | exact LeO.none _
   | refine LeO.ite ?_ ?_
   | refine LeO.bind ?_ (fun _ => ?_)
set_option maxHeartbeats 8000000 in
set_option maxRecDepth 100000 in
theorem impl_isFile.calls (k : Nat) (a0_0 : Int) (a0_1 : Int) (a0_2 : Int) (a0_3 : ByteArray) (A0_4 : Option Addr) (c0_4 : Nat) (l0_4 : List (S170)) (A0_5 : Option Addr) (c0_5 : Nat) (l0_5 : List (S59)) (r : Bool) (w : World) (hr0_4 : Kd.C k170 w A0_4 l0_4.length l0_4) (hc0_4 : l0_4.length ≤ c0_4) (hr0_5 : Kd.C k59 w A0_5 l0_5.length l0_5) (hc0_5 : l0_5.length ≤ c0_5) (h : impl_isFile.f k a0_0 a0_1 a0_2 a0_3 l0_4 l0_5 = some r) :
  Calls Try.prog 195 #[.agg #[.int .i64 a0_0, .int .i64 a0_1, .int .i64 a0_2, .string a0_3, .slice A0_4 l0_4.length c0_4, .slice A0_5 l0_5.length c0_5]] w fun e w' => e = .returned (.bool r) ∧ Below w.heap.size w w' := by
 have hu49 := Try.underlying49
 have hu170 := Try.underlying170
 have HR0_4 := Aside0.mk hr0_4
 have HC0_4 := Aside0.mk hc0_4
 clear hr0_4 hc0_4
 have HR0_5 := Aside0.mk hr0_5
 have HC0_5 := Aside0.mk hc0_5
 clear hr0_5 hc0_5
 have HB := Aside0.mk (Below.refl w.heap.size w)
 have H : (impl_isFile.l0 k l0_4 (l0_4.length : Int) 0 a0_0 a0_1 a0_2 a0_3 l0_4 l0_5) = some r := h
 clear h
 have H' := Aside0.mk H
 clear H
 go_enter Try.func195, Try.ntmps195
 go_wp2_with (first | ((with_reducible refine gate_dst (N := 1) rfl ?_); (try (refine gate_guard (by rfl) ?_; dsimp only)); refine box_event ?hg (N := 1) ?hd (cs := #[.int .i64 a0_0, .int .i64 a0_1, .int .i64 a0_2, .string a0_3, .slice A0_4 l0_4.length c0_4, .slice A0_5 l0_5.length c0_5]) (t := 49) ?hr ?_; (case hd => rfl); (case hg => rfl); (case hr => first | (go_simp; done) | (go_simp; rfl)); intro gb245 hg w2 hbox hb; have z_ := p_ (below_step tq_0 hb) <| p_ (hbox) <| p_ (gb_ hg tq_0) <| a_ (gb_ hg tq_0); clear HB; obtain ⟨HB, BK245, GW245, GE245⟩ := z_; clear hb hbox hg; have hcz3_0 := bc_ BK245.out 0; have hcz3_1 := bc_ BK245.out 1; have hcz3_2 := bc_ BK245.out 2; have hcz3_3 := bc_ BK245.out 3; have hcz3_4 := bc_ BK245.out 4; have hcz3_5 := bc_ BK245.out 5; have hfz3_0 := blk_frozen BK245.out 0; have hfz3_1 := blk_frozen BK245.out 1; have hfz3_2 := blk_frozen BK245.out 2; have hfz3_3 := blk_frozen BK245.out 3; have hfz3_4 := blk_frozen BK245.out 4; have hfz3_5 := blk_frozen BK245.out 5))
 repeat (go_quiet (first | ((with_reducible refine gate_dst (N := 1) rfl ?_); (try (refine gate_guard (by rfl) ?_; dsimp only)); refine box_event ?hg (N := 1) ?hd (cs := #[.int .i64 a0_0, .int .i64 a0_1, .int .i64 a0_2, .string a0_3, .slice A0_4 l0_4.length c0_4, .slice A0_5 l0_5.length c0_5]) (t := 49) ?hr ?_; (case hd => rfl); (case hg => rfl); (case hr => first | (go_simp; done) | (go_simp; rfl)); intro gb245 hg w2 hbox hb; have z_ := p_ (below_step tq_0 hb) <| p_ (hbox) <| p_ (gb_ hg tq_0) <| a_ (gb_ hg tq_0); clear HB; obtain ⟨HB, BK245, GW245, GE245⟩ := z_; clear hb hbox hg; have hcz3_0 := bc_ BK245.out 0; have hcz3_1 := bc_ BK245.out 1; have hcz3_2 := bc_ BK245.out 2; have hcz3_3 := bc_ BK245.out 3; have hcz3_4 := bc_ BK245.out 4; have hcz3_5 := bc_ BK245.out 5; have hfz3_0 := blk_frozen BK245.out 0; have hfz3_1 := blk_frozen BK245.out 1; have hfz3_2 := blk_frozen BK245.out 2; have hfz3_3 := blk_frozen BK245.out 3; have hfz3_4 := blk_frozen BK245.out 4; have hfz3_5 := blk_frozen BK245.out 5)); try go_wp2_with (first | ((with_reducible refine gate_dst (N := 1) rfl ?_); (try (refine gate_guard (by rfl) ?_; dsimp only)); refine box_event ?hg (N := 1) ?hd (cs := #[.int .i64 a0_0, .int .i64 a0_1, .int .i64 a0_2, .string a0_3, .slice A0_4 l0_4.length c0_4, .slice A0_5 l0_5.length c0_5]) (t := 49) ?hr ?_; (case hd => rfl); (case hg => rfl); (case hr => first | (go_simp; done) | (go_simp; rfl)); intro gb245 hg w2 hbox hb; have z_ := p_ (below_step tq_0 hb) <| p_ (hbox) <| p_ (gb_ hg tq_0) <| a_ (gb_ hg tq_0); clear HB; obtain ⟨HB, BK245, GW245, GE245⟩ := z_; clear hb hbox hg; have hcz3_0 := bc_ BK245.out 0; have hcz3_1 := bc_ BK245.out 1; have hcz3_2 := bc_ BK245.out 2; have hcz3_3 := bc_ BK245.out 3; have hcz3_4 := bc_ BK245.out 4; have hcz3_5 := bc_ BK245.out 5; have hfz3_0 := blk_frozen BK245.out 0; have hfz3_1 := blk_frozen BK245.out 1; have hfz3_2 := blk_frozen BK245.out 2; have hfz3_3 := blk_frozen BK245.out 3; have hfz3_4 := blk_frozen BK245.out 4; have hfz3_5 := blk_frozen BK245.out 5)))
 go_loopg [8] k (fun kq v8 w' => ∃ (x8_1 : Int), v8 = .int .i64 x8_1 ∧ Aside0 (impl_isFile.l0 kq l0_4 (l0_4.length : Int) x8_1 a0_0 a0_1 a0_2 a0_3 l0_4 l0_5 = some r) ∧ Aside0 (kq ≤ k) ∧ Aside0 (w'.heap[gb245]? = some (.cells #[.int .i64 a0_0, .int .i64 a0_1, .int .i64 a0_2, .string a0_3, (.slice A0_4 l0_4.length c0_4), (.slice A0_5 l0_5.length c0_5)] 49 (0, 0))) ∧ Aside0 (Below w.heap.size w w'))
 case atStart => exact ⟨(0), tq_8, H', ⟨Nat.le_refl _⟩, ⟨tq_11⟩, ⟨tq_7⟩⟩
 case round =>
  clear H'
  try clear c1
  try clear p2
  try clear hcz3_0 hcz3_1 hcz3_2 hcz3_3 hcz3_4 hcz3_5 hfz3_0 hfz3_1 hfz3_2 hfz3_3 hfz3_4 hfz3_5
  obtain ⟨x8_1, rfl, HA, HK1, BK245, HB⟩ := hrel
  cases gk with
  | zero => exact absurd HA.out (by simp [impl_isFile.l0])
  | succ k1 =>
   have H := HA.out
   clear HA
   simp only [impl_isFile.l0] at H
   by_cases c4 : x8_1 < (l0_4.length : Int)
   ·rw [if_pos c4] at H
    have c4b0 : decide (x8_1 < (l0_4.length : Int)) = true := decide_eq_true c4
    clear c4
    by_cases c5 : 0 ≤ x8_1
    ·rw [if_pos c5] at H
     have c5b0 : decide (0 ≤ x8_1) = true := decide_eq_true c5
     clear c5
     by_cases c6 : x8_1 < (l0_4.length : Int)
     ·rw [if_pos c6] at H
      have c6b0 : decide (x8_1 < (l0_4.length : Int)) = true := decide_eq_true c6
      clear c6
      replace H := Option.bind_eq_some_iff.mp H
      obtain ⟨t250, A70, H⟩ := H
      replace H : (if t250.toList = ([] : List UInt8) then (some false) else (if x8_1 ≤ (l0_4.length : Int) then ((slices_ContainsFunc_Rec_g227.f (l0_4.take (x8_1 : Int).toNat) ((rd_T170 l0_4 x8_1).f0) ((rd_T170 l0_4 x8_1).f1) ((rd_T170 l0_4 x8_1).f2)).bind fun t255 => (if t255 = true then (some false) else (impl_isFile.l0 k1 l0_4 (l0_4.length : Int) (wrap64 (x8_1 + 1)) a0_0 a0_1 a0_2 a0_3 l0_4 l0_5))) else (none))) = some r := H
      have A7 := Aside0.mk A70
      clear A70
      by_cases c8 : t250.toList = ([] : List UInt8)
      ·rw [if_pos c8] at H
       have c8b0 : (t250.toList == ([] : List UInt8)) = true := beq_iff_eq.mpr c8
       have c8b1 : (t250.toList != ([] : List UInt8)) = false := bne_eq_false_iff_eq.mpr c8
       clear c8
       obtain rfl := Option.some.inj H
       have p248 : 0 ≤ (x8_1 : Int) := of_decide_eq_true tq_3
       have q248 : x8_1 < (l0_4.length : Int) := of_decide_eq_true tq_3
       obtain ⟨ad248, e248, hx248_0, hx248_1, hx248_2⟩ := at_T170 HR0_4.out x8_1 p248 q248
       cases e248
       replace hx248_0 := hx_ HB.out hx248_0
       replace hx248_1 := hx_ HB.out hx248_1
       replace hx248_2 := hx_ HB.out hx248_2
       replace p248 := eq_true p248
       replace q248 := eq_true q248
       go_wp2_with (first | ((with_reducible refine gate_dst (N := 4) rfl ?_); (try (refine gate_guard (by rfl) ?_; dsimp only)); refine box_event ?hg (N := 4) ?hd (cs := #[.int .i64 0, .int .i64 0, .string (⟨#[]⟩ : ByteArray)]) (t := 170) ?hr ?_; (case hd => rfl); (case hg => rfl); (case hr => first | (go_simp; done) | (go_simp; rfl)); intro gb249 hg w9 hbox hb; have z_ := p_ (blk_below tq_11 hb) <| p_ (below_step tq_7 hb) <| p_ (hbox) <| p_ (gb_ hg tq_7) <| p_ (gb_ hg tq_7) <| p_ (ltne_ hg (blk_lt tq_11)) <| a_ (gtne_ hg (blk_lt tq_11)); clear BK245 HB; obtain ⟨BK245, HB, BK249, GW249, GE249, NB245_249, NB249_245⟩ := z_; clear hb hbox hg; have hnb10 := NB249_245.out; have hnc10 := NB245_249.out; have hcz11_0 := bc_ BK249.out 0; have hcz11_1 := bc_ BK249.out 1; have hcz11_2 := bc_ BK249.out 2; have hfz11_0 := blk_frozen BK249.out 0; have hfz11_1 := blk_frozen BK249.out 1; have hfz11_2 := blk_frozen BK249.out 2) | (go_at_call 199; (with_reducible refine (impl_RecWord.calls k1 ((rd_T170 l0_4 x8_1).f0) ((rd_T170 l0_4 x8_1).f1) ((rd_T170 l0_4 x8_1).f2) t250 _ A7.out).mono ?_); rintro e w12 ⟨rfl, hb⟩; have z_ := p_ (blk_below (g := gb245) (o := .cells #[.int .i64 a0_0, .int .i64 a0_1, .int .i64 a0_2, .string a0_3, .slice (some ad248) l0_4.length c0_4, .slice A0_5 l0_5.length c0_5] 49 (0, 0)) tq_10 hb) <| p_ (blk_below (g := gb249) (o := .cells #[.int .i64 ((rd_T170 l0_4 x8_1).f0), .int .i64 ((rd_T170 l0_4 x8_1).f1), .string ((rd_T170 l0_4 x8_1).f2)] 170 (0, 0)) tq_4 hb) <| a_ (below_step tq_12 hb); clear BK245 BK249 HB; obtain ⟨BK245, BK249, HB⟩ := z_; (try clear hb); (try clear hb2); (try clear hk); (try clear hi)))
       repeat (go_quiet (first | ((with_reducible refine gate_dst (N := 4) rfl ?_); (try (refine gate_guard (by rfl) ?_; dsimp only)); refine box_event ?hg (N := 4) ?hd (cs := #[.int .i64 0, .int .i64 0, .string (⟨#[]⟩ : ByteArray)]) (t := 170) ?hr ?_; (case hd => rfl); (case hg => rfl); (case hr => first | (go_simp; done) | (go_simp; rfl)); intro gb249 hg w9 hbox hb; have z_ := p_ (blk_below tq_11 hb) <| p_ (below_step tq_7 hb) <| p_ (hbox) <| p_ (gb_ hg tq_7) <| p_ (gb_ hg tq_7) <| p_ (ltne_ hg (blk_lt tq_11)) <| a_ (gtne_ hg (blk_lt tq_11)); clear BK245 HB; obtain ⟨BK245, HB, BK249, GW249, GE249, NB245_249, NB249_245⟩ := z_; clear hb hbox hg; have hnb10 := NB249_245.out; have hnc10 := NB245_249.out; have hcz11_0 := bc_ BK249.out 0; have hcz11_1 := bc_ BK249.out 1; have hcz11_2 := bc_ BK249.out 2; have hfz11_0 := blk_frozen BK249.out 0; have hfz11_1 := blk_frozen BK249.out 1; have hfz11_2 := blk_frozen BK249.out 2) | (go_at_call 199; (with_reducible refine (impl_RecWord.calls k1 ((rd_T170 l0_4 x8_1).f0) ((rd_T170 l0_4 x8_1).f1) ((rd_T170 l0_4 x8_1).f2) t250 _ A7.out).mono ?_); rintro e w12 ⟨rfl, hb⟩; have z_ := p_ (blk_below (g := gb245) (o := .cells #[.int .i64 a0_0, .int .i64 a0_1, .int .i64 a0_2, .string a0_3, .slice (some ad248) l0_4.length c0_4, .slice A0_5 l0_5.length c0_5] 49 (0, 0)) tq_10 hb) <| p_ (blk_below (g := gb249) (o := .cells #[.int .i64 ((rd_T170 l0_4 x8_1).f0), .int .i64 ((rd_T170 l0_4 x8_1).f1), .string ((rd_T170 l0_4 x8_1).f2)] 170 (0, 0)) tq_4 hb) <| a_ (below_step tq_12 hb); clear BK245 BK249 HB; obtain ⟨BK245, BK249, HB⟩ := z_; (try clear hb); (try clear hb2); (try clear hk); (try clear hi))); try go_wp2_with (first | ((with_reducible refine gate_dst (N := 4) rfl ?_); (try (refine gate_guard (by rfl) ?_; dsimp only)); refine box_event ?hg (N := 4) ?hd (cs := #[.int .i64 0, .int .i64 0, .string (⟨#[]⟩ : ByteArray)]) (t := 170) ?hr ?_; (case hd => rfl); (case hg => rfl); (case hr => first | (go_simp; done) | (go_simp; rfl)); intro gb249 hg w9 hbox hb; have z_ := p_ (blk_below tq_11 hb) <| p_ (below_step tq_7 hb) <| p_ (hbox) <| p_ (gb_ hg tq_7) <| p_ (gb_ hg tq_7) <| p_ (ltne_ hg (blk_lt tq_11)) <| a_ (gtne_ hg (blk_lt tq_11)); clear BK245 HB; obtain ⟨BK245, HB, BK249, GW249, GE249, NB245_249, NB249_245⟩ := z_; clear hb hbox hg; have hnb10 := NB249_245.out; have hnc10 := NB245_249.out; have hcz11_0 := bc_ BK249.out 0; have hcz11_1 := bc_ BK249.out 1; have hcz11_2 := bc_ BK249.out 2; have hfz11_0 := blk_frozen BK249.out 0; have hfz11_1 := blk_frozen BK249.out 1; have hfz11_2 := blk_frozen BK249.out 2) | (go_at_call 199; (with_reducible refine (impl_RecWord.calls k1 ((rd_T170 l0_4 x8_1).f0) ((rd_T170 l0_4 x8_1).f1) ((rd_T170 l0_4 x8_1).f2) t250 _ A7.out).mono ?_); rintro e w12 ⟨rfl, hb⟩; have z_ := p_ (blk_below (g := gb245) (o := .cells #[.int .i64 a0_0, .int .i64 a0_1, .int .i64 a0_2, .string a0_3, .slice (some ad248) l0_4.length c0_4, .slice A0_5 l0_5.length c0_5] 49 (0, 0)) tq_10 hb) <| p_ (blk_below (g := gb249) (o := .cells #[.int .i64 ((rd_T170 l0_4 x8_1).f0), .int .i64 ((rd_T170 l0_4 x8_1).f1), .string ((rd_T170 l0_4 x8_1).f2)] 170 (0, 0)) tq_4 hb) <| a_ (below_step tq_12 hb); clear BK245 BK249 HB; obtain ⟨BK245, BK249, HB⟩ := z_; (try clear hb); (try clear hb2); (try clear hk); (try clear hi))))
       go_ret
       exact ⟨tq_2, tq_12⟩
      ·rw [if_neg c8] at H
       have c8b0 : (t250.toList == ([] : List UInt8)) = false := beq_eq_false_iff_ne.mpr c8
       have c8b1 : (t250.toList != ([] : List UInt8)) = true := bne_iff_ne.mpr c8
       have c13b0 := eq_true (of_decide_eq_true tq_3 : 0 ≤ x8_1)
       by_cases c14 : x8_1 ≤ (l0_4.length : Int)
       ·rw [if_pos c14] at H
        have c14b0 := eq_true c14
        have c14b1 : decide (x8_1 ≤ (l0_4.length : Int)) = true := decide_eq_true c14
        clear c14
        obtain ⟨y251, hy251⟩ : ∃ y_ : List (S170), y_ = (l0_4.take (x8_1 : Int).toNat) := ⟨_, rfl⟩
        replace H : ((slices_ContainsFunc_Rec_g227.f y251 ((rd_T170 l0_4 x8_1).f0) ((rd_T170 l0_4 x8_1).f1) ((rd_T170 l0_4 x8_1).f2)).bind fun t255 => (if t255 = true then (some false) else (impl_isFile.l0 k1 l0_4 (l0_4.length : Int) (wrap64 (x8_1 + 1)) a0_0 a0_1 a0_2 a0_3 l0_4 l0_5))) = some r := by first | (rw [hy251]; with_reducible exact H) | (have H2_ := (Option.bind_some _ _).symm.trans H; rw [hy251]; with_reducible exact H2_) | (have H2_ := (Option.bind_some _ _).symm.trans H; with_reducible exact H2_) | with_reducible exact H | (rw [hy251]; exact H) | exact H
        have Ny251 := Aside0.mk hy251
        clear hy251
        replace H := Option.bind_eq_some_iff.mp H
        obtain ⟨t255, A150, H⟩ := H
        replace H : (if t255 = true then (some false) else (impl_isFile.l0 k1 l0_4 (l0_4.length : Int) (wrap64 (x8_1 + 1)) a0_0 a0_1 a0_2 a0_3 l0_4 l0_5)) = some r := H
        have A15 := Aside0.mk A150
        clear A150
        by_cases c16 : t255 = true
        ·subst c16
         have H1 : (some false) = some r := by rw [if_pos rfl] at H; exact H
         clear H
         have H := H1
         clear H1
         obtain rfl := Option.some.inj H
         have p248 : 0 ≤ (x8_1 : Int) := of_decide_eq_true tq_3
         have q248 : x8_1 < (l0_4.length : Int) := of_decide_eq_true tq_3
         obtain ⟨ad248, e248, hx248_0, hx248_1, hx248_2⟩ := at_T170 HR0_4.out x8_1 p248 q248
         cases e248
         replace hx248_0 := hx_ HB.out hx248_0
         replace hx248_1 := hx_ HB.out hx248_1
         replace hx248_2 := hx_ HB.out hx248_2
         replace p248 := eq_true p248
         replace q248 := eq_true q248
         go_wp2_with (first | ((with_reducible refine gate_dst (N := 4) rfl ?_); (try (refine gate_guard (by rfl) ?_; dsimp only)); refine box_event ?hg (N := 4) ?hd (cs := #[.int .i64 0, .int .i64 0, .string (⟨#[]⟩ : ByteArray)]) (t := 170) ?hr ?_; (case hd => rfl); (case hg => rfl); (case hr => first | (go_simp; done) | (go_simp; rfl)); intro gb249 hg w17 hbox hb; have z_ := p_ (blk_below tq_11 hb) <| p_ (below_step tq_7 hb) <| p_ (hbox) <| p_ (gb_ hg tq_7) <| p_ (gb_ hg tq_7) <| p_ (ltne_ hg (blk_lt tq_11)) <| a_ (gtne_ hg (blk_lt tq_11)); clear BK245 HB; obtain ⟨BK245, HB, BK249, GW249, GE249, NB245_249, NB249_245⟩ := z_; clear hb hbox hg; have hnb18 := NB249_245.out; have hnc18 := NB245_249.out; have hcz19_0 := bc_ BK249.out 0; have hcz19_1 := bc_ BK249.out 1; have hcz19_2 := bc_ BK249.out 2; have hfz19_0 := blk_frozen BK249.out 0; have hfz19_1 := blk_frozen BK249.out 1; have hfz19_2 := blk_frozen BK249.out 2) | (go_at_call 199; (with_reducible refine (impl_RecWord.calls k1 ((rd_T170 l0_4 x8_1).f0) ((rd_T170 l0_4 x8_1).f1) ((rd_T170 l0_4 x8_1).f2) t250 _ A7.out).mono ?_); rintro e w20 ⟨rfl, hb⟩; have z_ := p_ (blk_below (g := gb245) (o := .cells #[.int .i64 a0_0, .int .i64 a0_1, .int .i64 a0_2, .string a0_3, .slice (some ad248) l0_4.length c0_4, .slice A0_5 l0_5.length c0_5] 49 (0, 0)) tq_10 hb) <| p_ (blk_below (g := gb249) (o := .cells #[.int .i64 ((rd_T170 l0_4 x8_1).f0), .int .i64 ((rd_T170 l0_4 x8_1).f1), .string ((rd_T170 l0_4 x8_1).f2)] 170 (0, 0)) tq_4 hb) <| a_ (below_step tq_12 hb); clear BK245 BK249 HB; obtain ⟨BK245, BK249, HB⟩ := z_; (try clear hb); (try clear hb2); (try clear hk); (try clear hi); have hcz21_0 := bc_ BK245.out 0; have hcz21_1 := bc_ BK245.out 1; have hcz21_2 := bc_ BK245.out 2; have hcz21_3 := bc_ BK245.out 3; have hcz21_4 := bc_ BK245.out 4; have hcz21_5 := bc_ BK245.out 5; have hfz21_0 := blk_frozen BK245.out 0; have hfz21_1 := blk_frozen BK245.out 1; have hfz21_2 := blk_frozen BK245.out 2; have hfz21_3 := blk_frozen BK245.out 3; have hfz21_4 := blk_frozen BK245.out 4; have hfz21_5 := blk_frozen BK245.out 5; have q22 : (x8_1 : Int) ≤ ((l0_4.length : Int) : Int) := of_decide_eq_true tq_3; obtain ⟨i022, hi022, _, hsz22, _⟩ := info_parts info170; have hroom22 : l0_4.length ≤ c0_4 := HC0_4.out; have hC22 : Kd.C k170 _ (some ad248) l0_4.length l0_4 := HR0_4.out; have hcut22 := cut_to (P := Try.prog) 46 170 .i64 Try.underlying46 hi022 (some ad248) l0_4.length c0_4 x8_1 (of_decide_eq_true tq_3) q22 hroom22; have hr22 := Kd.C_take (m := (x8_1 : Int).toNat) hC22 (by omega); have hy22 : y251.length = (x8_1 : Int).toNat := tq_89; rw [← Ny251.out] at hr22; rw [← hy22] at hcut22; have HR254 := Aside0.mk hr22; have HC254 := Aside0.mk (show y251.length ≤ c0_4 from by omega); clear hr22 hC22 hroom22 hi022 hsz22; have KY22 := Aside0.mk hy22; clear hy22; replace q22 := eq_true q22) | (go_at_call 226; (with_reducible refine (slices_ContainsFunc_Rec_g227.calls _ _ y251 gb249 ((rd_T170 l0_4 x8_1).f0) ((rd_T170 l0_4 x8_1).f1) ((rd_T170 l0_4 x8_1).f2) true _ ?side1 ?side2 ?side3 A15.out).mono ?_); (case side1 => exact tq_46); (case side2 => exact HC254.out); (case side3 => (with_reducible repeat (first | refine blk_drewN ?_ _ | refine blk_drew ?_ | refine blk_alloc ?_ _)); exact BK249.out); rintro e w23 ⟨rfl, hb⟩; have z_ := p_ (blk_below tq_11 hb) <| p_ (blk_below tq_59 hb) <| a_ (below_step tq_12 hb); clear BK245 BK249 HB; obtain ⟨BK245, BK249, HB⟩ := z_; (try clear hb); (try clear hb2); (try clear hk); (try clear hi)))
         repeat (go_quiet (first | ((with_reducible refine gate_dst (N := 4) rfl ?_); (try (refine gate_guard (by rfl) ?_; dsimp only)); refine box_event ?hg (N := 4) ?hd (cs := #[.int .i64 0, .int .i64 0, .string (⟨#[]⟩ : ByteArray)]) (t := 170) ?hr ?_; (case hd => rfl); (case hg => rfl); (case hr => first | (go_simp; done) | (go_simp; rfl)); intro gb249 hg w17 hbox hb; have z_ := p_ (blk_below tq_11 hb) <| p_ (below_step tq_7 hb) <| p_ (hbox) <| p_ (gb_ hg tq_7) <| p_ (gb_ hg tq_7) <| p_ (ltne_ hg (blk_lt tq_11)) <| a_ (gtne_ hg (blk_lt tq_11)); clear BK245 HB; obtain ⟨BK245, HB, BK249, GW249, GE249, NB245_249, NB249_245⟩ := z_; clear hb hbox hg; have hnb18 := NB249_245.out; have hnc18 := NB245_249.out; have hcz19_0 := bc_ BK249.out 0; have hcz19_1 := bc_ BK249.out 1; have hcz19_2 := bc_ BK249.out 2; have hfz19_0 := blk_frozen BK249.out 0; have hfz19_1 := blk_frozen BK249.out 1; have hfz19_2 := blk_frozen BK249.out 2) | (go_at_call 199; (with_reducible refine (impl_RecWord.calls k1 ((rd_T170 l0_4 x8_1).f0) ((rd_T170 l0_4 x8_1).f1) ((rd_T170 l0_4 x8_1).f2) t250 _ A7.out).mono ?_); rintro e w20 ⟨rfl, hb⟩; have z_ := p_ (blk_below (g := gb245) (o := .cells #[.int .i64 a0_0, .int .i64 a0_1, .int .i64 a0_2, .string a0_3, .slice (some ad248) l0_4.length c0_4, .slice A0_5 l0_5.length c0_5] 49 (0, 0)) tq_10 hb) <| p_ (blk_below (g := gb249) (o := .cells #[.int .i64 ((rd_T170 l0_4 x8_1).f0), .int .i64 ((rd_T170 l0_4 x8_1).f1), .string ((rd_T170 l0_4 x8_1).f2)] 170 (0, 0)) tq_4 hb) <| a_ (below_step tq_12 hb); clear BK245 BK249 HB; obtain ⟨BK245, BK249, HB⟩ := z_; (try clear hb); (try clear hb2); (try clear hk); (try clear hi); have hcz21_0 := bc_ BK245.out 0; have hcz21_1 := bc_ BK245.out 1; have hcz21_2 := bc_ BK245.out 2; have hcz21_3 := bc_ BK245.out 3; have hcz21_4 := bc_ BK245.out 4; have hcz21_5 := bc_ BK245.out 5; have hfz21_0 := blk_frozen BK245.out 0; have hfz21_1 := blk_frozen BK245.out 1; have hfz21_2 := blk_frozen BK245.out 2; have hfz21_3 := blk_frozen BK245.out 3; have hfz21_4 := blk_frozen BK245.out 4; have hfz21_5 := blk_frozen BK245.out 5; have q22 : (x8_1 : Int) ≤ ((l0_4.length : Int) : Int) := of_decide_eq_true tq_3; obtain ⟨i022, hi022, _, hsz22, _⟩ := info_parts info170; have hroom22 : l0_4.length ≤ c0_4 := HC0_4.out; have hC22 : Kd.C k170 _ (some ad248) l0_4.length l0_4 := HR0_4.out; have hcut22 := cut_to (P := Try.prog) 46 170 .i64 Try.underlying46 hi022 (some ad248) l0_4.length c0_4 x8_1 (of_decide_eq_true tq_3) q22 hroom22; have hr22 := Kd.C_take (m := (x8_1 : Int).toNat) hC22 (by omega); have hy22 : y251.length = (x8_1 : Int).toNat := tq_89; rw [← Ny251.out] at hr22; rw [← hy22] at hcut22; have HR254 := Aside0.mk hr22; have HC254 := Aside0.mk (show y251.length ≤ c0_4 from by omega); clear hr22 hC22 hroom22 hi022 hsz22; have KY22 := Aside0.mk hy22; clear hy22; replace q22 := eq_true q22) | (go_at_call 226; (with_reducible refine (slices_ContainsFunc_Rec_g227.calls _ _ y251 gb249 ((rd_T170 l0_4 x8_1).f0) ((rd_T170 l0_4 x8_1).f1) ((rd_T170 l0_4 x8_1).f2) true _ ?side1 ?side2 ?side3 A15.out).mono ?_); (case side1 => exact tq_46); (case side2 => exact HC254.out); (case side3 => (with_reducible repeat (first | refine blk_drewN ?_ _ | refine blk_drew ?_ | refine blk_alloc ?_ _)); exact BK249.out); rintro e w23 ⟨rfl, hb⟩; have z_ := p_ (blk_below tq_11 hb) <| p_ (blk_below tq_59 hb) <| a_ (below_step tq_12 hb); clear BK245 BK249 HB; obtain ⟨BK245, BK249, HB⟩ := z_; (try clear hb); (try clear hb2); (try clear hk); (try clear hi))); try go_wp2_with (first | ((with_reducible refine gate_dst (N := 4) rfl ?_); (try (refine gate_guard (by rfl) ?_; dsimp only)); refine box_event ?hg (N := 4) ?hd (cs := #[.int .i64 0, .int .i64 0, .string (⟨#[]⟩ : ByteArray)]) (t := 170) ?hr ?_; (case hd => rfl); (case hg => rfl); (case hr => first | (go_simp; done) | (go_simp; rfl)); intro gb249 hg w17 hbox hb; have z_ := p_ (blk_below tq_11 hb) <| p_ (below_step tq_7 hb) <| p_ (hbox) <| p_ (gb_ hg tq_7) <| p_ (gb_ hg tq_7) <| p_ (ltne_ hg (blk_lt tq_11)) <| a_ (gtne_ hg (blk_lt tq_11)); clear BK245 HB; obtain ⟨BK245, HB, BK249, GW249, GE249, NB245_249, NB249_245⟩ := z_; clear hb hbox hg; have hnb18 := NB249_245.out; have hnc18 := NB245_249.out; have hcz19_0 := bc_ BK249.out 0; have hcz19_1 := bc_ BK249.out 1; have hcz19_2 := bc_ BK249.out 2; have hfz19_0 := blk_frozen BK249.out 0; have hfz19_1 := blk_frozen BK249.out 1; have hfz19_2 := blk_frozen BK249.out 2) | (go_at_call 199; (with_reducible refine (impl_RecWord.calls k1 ((rd_T170 l0_4 x8_1).f0) ((rd_T170 l0_4 x8_1).f1) ((rd_T170 l0_4 x8_1).f2) t250 _ A7.out).mono ?_); rintro e w20 ⟨rfl, hb⟩; have z_ := p_ (blk_below (g := gb245) (o := .cells #[.int .i64 a0_0, .int .i64 a0_1, .int .i64 a0_2, .string a0_3, .slice (some ad248) l0_4.length c0_4, .slice A0_5 l0_5.length c0_5] 49 (0, 0)) tq_10 hb) <| p_ (blk_below (g := gb249) (o := .cells #[.int .i64 ((rd_T170 l0_4 x8_1).f0), .int .i64 ((rd_T170 l0_4 x8_1).f1), .string ((rd_T170 l0_4 x8_1).f2)] 170 (0, 0)) tq_4 hb) <| a_ (below_step tq_12 hb); clear BK245 BK249 HB; obtain ⟨BK245, BK249, HB⟩ := z_; (try clear hb); (try clear hb2); (try clear hk); (try clear hi); have hcz21_0 := bc_ BK245.out 0; have hcz21_1 := bc_ BK245.out 1; have hcz21_2 := bc_ BK245.out 2; have hcz21_3 := bc_ BK245.out 3; have hcz21_4 := bc_ BK245.out 4; have hcz21_5 := bc_ BK245.out 5; have hfz21_0 := blk_frozen BK245.out 0; have hfz21_1 := blk_frozen BK245.out 1; have hfz21_2 := blk_frozen BK245.out 2; have hfz21_3 := blk_frozen BK245.out 3; have hfz21_4 := blk_frozen BK245.out 4; have hfz21_5 := blk_frozen BK245.out 5; have q22 : (x8_1 : Int) ≤ ((l0_4.length : Int) : Int) := of_decide_eq_true tq_3; obtain ⟨i022, hi022, _, hsz22, _⟩ := info_parts info170; have hroom22 : l0_4.length ≤ c0_4 := HC0_4.out; have hC22 : Kd.C k170 _ (some ad248) l0_4.length l0_4 := HR0_4.out; have hcut22 := cut_to (P := Try.prog) 46 170 .i64 Try.underlying46 hi022 (some ad248) l0_4.length c0_4 x8_1 (of_decide_eq_true tq_3) q22 hroom22; have hr22 := Kd.C_take (m := (x8_1 : Int).toNat) hC22 (by omega); have hy22 : y251.length = (x8_1 : Int).toNat := tq_89; rw [← Ny251.out] at hr22; rw [← hy22] at hcut22; have HR254 := Aside0.mk hr22; have HC254 := Aside0.mk (show y251.length ≤ c0_4 from by omega); clear hr22 hC22 hroom22 hi022 hsz22; have KY22 := Aside0.mk hy22; clear hy22; replace q22 := eq_true q22) | (go_at_call 226; (with_reducible refine (slices_ContainsFunc_Rec_g227.calls _ _ y251 gb249 ((rd_T170 l0_4 x8_1).f0) ((rd_T170 l0_4 x8_1).f1) ((rd_T170 l0_4 x8_1).f2) true _ ?side1 ?side2 ?side3 A15.out).mono ?_); (case side1 => exact tq_46); (case side2 => exact HC254.out); (case side3 => (with_reducible repeat (first | refine blk_drewN ?_ _ | refine blk_drew ?_ | refine blk_alloc ?_ _)); exact BK249.out); rintro e w23 ⟨rfl, hb⟩; have z_ := p_ (blk_below tq_11 hb) <| p_ (blk_below tq_59 hb) <| a_ (below_step tq_12 hb); clear BK245 BK249 HB; obtain ⟨BK245, BK249, HB⟩ := z_; (try clear hb); (try clear hb2); (try clear hk); (try clear hi))))
         go_ret
         exact ⟨tq_2, tq_12⟩
        ·replace c16 := Bool.eq_false_iff.mpr c16
         subst c16
         have H1 : (impl_isFile.l0 k1 l0_4 (l0_4.length : Int) (wrap64 (x8_1 + 1)) a0_0 a0_1 a0_2 a0_3 l0_4 l0_5) = some r := by rw [if_neg (show ¬ (false = true) by decide)] at H; exact H
         clear H
         have H := H1
         clear H1
         have H' := Aside0.mk H
         clear H
         have p248 : 0 ≤ (x8_1 : Int) := of_decide_eq_true tq_3
         have q248 : x8_1 < (l0_4.length : Int) := of_decide_eq_true tq_3
         obtain ⟨ad248, e248, hx248_0, hx248_1, hx248_2⟩ := at_T170 HR0_4.out x8_1 p248 q248
         cases e248
         replace hx248_0 := hx_ HB.out hx248_0
         replace hx248_1 := hx_ HB.out hx248_1
         replace hx248_2 := hx_ HB.out hx248_2
         replace p248 := eq_true p248
         replace q248 := eq_true q248
         go_wp2_with (first | ((with_reducible refine gate_dst (N := 4) rfl ?_); (try (refine gate_guard (by rfl) ?_; dsimp only)); refine box_event ?hg (N := 4) ?hd (cs := #[.int .i64 0, .int .i64 0, .string (⟨#[]⟩ : ByteArray)]) (t := 170) ?hr ?_; (case hd => rfl); (case hg => rfl); (case hr => first | (go_simp; done) | (go_simp; rfl)); intro gb249 hg w24 hbox hb; have z_ := p_ (blk_below tq_11 hb) <| p_ (below_step tq_7 hb) <| p_ (hbox) <| p_ (gb_ hg tq_7) <| p_ (gb_ hg tq_7) <| p_ (ltne_ hg (blk_lt tq_11)) <| a_ (gtne_ hg (blk_lt tq_11)); clear BK245 HB; obtain ⟨BK245, HB, BK249, GW249, GE249, NB245_249, NB249_245⟩ := z_; clear hb hbox hg; have hnb25 := NB249_245.out; have hnc25 := NB245_249.out; have hcz26_0 := bc_ BK249.out 0; have hcz26_1 := bc_ BK249.out 1; have hcz26_2 := bc_ BK249.out 2; have hfz26_0 := blk_frozen BK249.out 0; have hfz26_1 := blk_frozen BK249.out 1; have hfz26_2 := blk_frozen BK249.out 2) | (go_at_call 199; (with_reducible refine (impl_RecWord.calls k1 ((rd_T170 l0_4 x8_1).f0) ((rd_T170 l0_4 x8_1).f1) ((rd_T170 l0_4 x8_1).f2) t250 _ A7.out).mono ?_); rintro e w27 ⟨rfl, hb⟩; have z_ := p_ (blk_below (g := gb245) (o := .cells #[.int .i64 a0_0, .int .i64 a0_1, .int .i64 a0_2, .string a0_3, .slice (some ad248) l0_4.length c0_4, .slice A0_5 l0_5.length c0_5] 49 (0, 0)) tq_10 hb) <| p_ (blk_below (g := gb249) (o := .cells #[.int .i64 ((rd_T170 l0_4 x8_1).f0), .int .i64 ((rd_T170 l0_4 x8_1).f1), .string ((rd_T170 l0_4 x8_1).f2)] 170 (0, 0)) tq_4 hb) <| a_ (below_step tq_12 hb); clear BK245 BK249 HB; obtain ⟨BK245, BK249, HB⟩ := z_; (try clear hb); (try clear hb2); (try clear hk); (try clear hi); have hcz28_0 := bc_ BK245.out 0; have hcz28_1 := bc_ BK245.out 1; have hcz28_2 := bc_ BK245.out 2; have hcz28_3 := bc_ BK245.out 3; have hcz28_4 := bc_ BK245.out 4; have hcz28_5 := bc_ BK245.out 5; have hfz28_0 := blk_frozen BK245.out 0; have hfz28_1 := blk_frozen BK245.out 1; have hfz28_2 := blk_frozen BK245.out 2; have hfz28_3 := blk_frozen BK245.out 3; have hfz28_4 := blk_frozen BK245.out 4; have hfz28_5 := blk_frozen BK245.out 5; have q29 : (x8_1 : Int) ≤ ((l0_4.length : Int) : Int) := of_decide_eq_true tq_3; obtain ⟨i029, hi029, _, hsz29, _⟩ := info_parts info170; have hroom29 : l0_4.length ≤ c0_4 := HC0_4.out; have hC29 : Kd.C k170 _ (some ad248) l0_4.length l0_4 := HR0_4.out; have hcut29 := cut_to (P := Try.prog) 46 170 .i64 Try.underlying46 hi029 (some ad248) l0_4.length c0_4 x8_1 (of_decide_eq_true tq_3) q29 hroom29; have hr29 := Kd.C_take (m := (x8_1 : Int).toNat) hC29 (by omega); have hy29 : y251.length = (x8_1 : Int).toNat := tq_89; rw [← Ny251.out] at hr29; rw [← hy29] at hcut29; have HR254 := Aside0.mk hr29; have HC254 := Aside0.mk (show y251.length ≤ c0_4 from by omega); clear hr29 hC29 hroom29 hi029 hsz29; have KY29 := Aside0.mk hy29; clear hy29; replace q29 := eq_true q29) | (go_at_call 226; (with_reducible refine (slices_ContainsFunc_Rec_g227.calls _ _ y251 gb249 ((rd_T170 l0_4 x8_1).f0) ((rd_T170 l0_4 x8_1).f1) ((rd_T170 l0_4 x8_1).f2) false _ ?side1 ?side2 ?side3 A15.out).mono ?_); (case side1 => exact tq_46); (case side2 => exact HC254.out); (case side3 => (with_reducible repeat (first | refine blk_drewN ?_ _ | refine blk_drew ?_ | refine blk_alloc ?_ _)); exact BK249.out); rintro e w30 ⟨rfl, hb⟩; have z_ := p_ (blk_below tq_11 hb) <| p_ (blk_below tq_59 hb) <| a_ (below_step tq_12 hb); clear BK245 BK249 HB; obtain ⟨BK245, BK249, HB⟩ := z_; (try clear hb); (try clear hb2); (try clear hk); (try clear hi)))
         repeat (go_quiet (first | ((with_reducible refine gate_dst (N := 4) rfl ?_); (try (refine gate_guard (by rfl) ?_; dsimp only)); refine box_event ?hg (N := 4) ?hd (cs := #[.int .i64 0, .int .i64 0, .string (⟨#[]⟩ : ByteArray)]) (t := 170) ?hr ?_; (case hd => rfl); (case hg => rfl); (case hr => first | (go_simp; done) | (go_simp; rfl)); intro gb249 hg w24 hbox hb; have z_ := p_ (blk_below tq_11 hb) <| p_ (below_step tq_7 hb) <| p_ (hbox) <| p_ (gb_ hg tq_7) <| p_ (gb_ hg tq_7) <| p_ (ltne_ hg (blk_lt tq_11)) <| a_ (gtne_ hg (blk_lt tq_11)); clear BK245 HB; obtain ⟨BK245, HB, BK249, GW249, GE249, NB245_249, NB249_245⟩ := z_; clear hb hbox hg; have hnb25 := NB249_245.out; have hnc25 := NB245_249.out; have hcz26_0 := bc_ BK249.out 0; have hcz26_1 := bc_ BK249.out 1; have hcz26_2 := bc_ BK249.out 2; have hfz26_0 := blk_frozen BK249.out 0; have hfz26_1 := blk_frozen BK249.out 1; have hfz26_2 := blk_frozen BK249.out 2) | (go_at_call 199; (with_reducible refine (impl_RecWord.calls k1 ((rd_T170 l0_4 x8_1).f0) ((rd_T170 l0_4 x8_1).f1) ((rd_T170 l0_4 x8_1).f2) t250 _ A7.out).mono ?_); rintro e w27 ⟨rfl, hb⟩; have z_ := p_ (blk_below (g := gb245) (o := .cells #[.int .i64 a0_0, .int .i64 a0_1, .int .i64 a0_2, .string a0_3, .slice (some ad248) l0_4.length c0_4, .slice A0_5 l0_5.length c0_5] 49 (0, 0)) tq_10 hb) <| p_ (blk_below (g := gb249) (o := .cells #[.int .i64 ((rd_T170 l0_4 x8_1).f0), .int .i64 ((rd_T170 l0_4 x8_1).f1), .string ((rd_T170 l0_4 x8_1).f2)] 170 (0, 0)) tq_4 hb) <| a_ (below_step tq_12 hb); clear BK245 BK249 HB; obtain ⟨BK245, BK249, HB⟩ := z_; (try clear hb); (try clear hb2); (try clear hk); (try clear hi); have hcz28_0 := bc_ BK245.out 0; have hcz28_1 := bc_ BK245.out 1; have hcz28_2 := bc_ BK245.out 2; have hcz28_3 := bc_ BK245.out 3; have hcz28_4 := bc_ BK245.out 4; have hcz28_5 := bc_ BK245.out 5; have hfz28_0 := blk_frozen BK245.out 0; have hfz28_1 := blk_frozen BK245.out 1; have hfz28_2 := blk_frozen BK245.out 2; have hfz28_3 := blk_frozen BK245.out 3; have hfz28_4 := blk_frozen BK245.out 4; have hfz28_5 := blk_frozen BK245.out 5; have q29 : (x8_1 : Int) ≤ ((l0_4.length : Int) : Int) := of_decide_eq_true tq_3; obtain ⟨i029, hi029, _, hsz29, _⟩ := info_parts info170; have hroom29 : l0_4.length ≤ c0_4 := HC0_4.out; have hC29 : Kd.C k170 _ (some ad248) l0_4.length l0_4 := HR0_4.out; have hcut29 := cut_to (P := Try.prog) 46 170 .i64 Try.underlying46 hi029 (some ad248) l0_4.length c0_4 x8_1 (of_decide_eq_true tq_3) q29 hroom29; have hr29 := Kd.C_take (m := (x8_1 : Int).toNat) hC29 (by omega); have hy29 : y251.length = (x8_1 : Int).toNat := tq_89; rw [← Ny251.out] at hr29; rw [← hy29] at hcut29; have HR254 := Aside0.mk hr29; have HC254 := Aside0.mk (show y251.length ≤ c0_4 from by omega); clear hr29 hC29 hroom29 hi029 hsz29; have KY29 := Aside0.mk hy29; clear hy29; replace q29 := eq_true q29) | (go_at_call 226; (with_reducible refine (slices_ContainsFunc_Rec_g227.calls _ _ y251 gb249 ((rd_T170 l0_4 x8_1).f0) ((rd_T170 l0_4 x8_1).f1) ((rd_T170 l0_4 x8_1).f2) false _ ?side1 ?side2 ?side3 A15.out).mono ?_); (case side1 => exact tq_46); (case side2 => exact HC254.out); (case side3 => (with_reducible repeat (first | refine blk_drewN ?_ _ | refine blk_drew ?_ | refine blk_alloc ?_ _)); exact BK249.out); rintro e w30 ⟨rfl, hb⟩; have z_ := p_ (blk_below tq_11 hb) <| p_ (blk_below tq_59 hb) <| a_ (below_step tq_12 hb); clear BK245 BK249 HB; obtain ⟨BK245, BK249, HB⟩ := z_; (try clear hb); (try clear hb2); (try clear hk); (try clear hi))); try go_wp2_with (first | ((with_reducible refine gate_dst (N := 4) rfl ?_); (try (refine gate_guard (by rfl) ?_; dsimp only)); refine box_event ?hg (N := 4) ?hd (cs := #[.int .i64 0, .int .i64 0, .string (⟨#[]⟩ : ByteArray)]) (t := 170) ?hr ?_; (case hd => rfl); (case hg => rfl); (case hr => first | (go_simp; done) | (go_simp; rfl)); intro gb249 hg w24 hbox hb; have z_ := p_ (blk_below tq_11 hb) <| p_ (below_step tq_7 hb) <| p_ (hbox) <| p_ (gb_ hg tq_7) <| p_ (gb_ hg tq_7) <| p_ (ltne_ hg (blk_lt tq_11)) <| a_ (gtne_ hg (blk_lt tq_11)); clear BK245 HB; obtain ⟨BK245, HB, BK249, GW249, GE249, NB245_249, NB249_245⟩ := z_; clear hb hbox hg; have hnb25 := NB249_245.out; have hnc25 := NB245_249.out; have hcz26_0 := bc_ BK249.out 0; have hcz26_1 := bc_ BK249.out 1; have hcz26_2 := bc_ BK249.out 2; have hfz26_0 := blk_frozen BK249.out 0; have hfz26_1 := blk_frozen BK249.out 1; have hfz26_2 := blk_frozen BK249.out 2) | (go_at_call 199; (with_reducible refine (impl_RecWord.calls k1 ((rd_T170 l0_4 x8_1).f0) ((rd_T170 l0_4 x8_1).f1) ((rd_T170 l0_4 x8_1).f2) t250 _ A7.out).mono ?_); rintro e w27 ⟨rfl, hb⟩; have z_ := p_ (blk_below (g := gb245) (o := .cells #[.int .i64 a0_0, .int .i64 a0_1, .int .i64 a0_2, .string a0_3, .slice (some ad248) l0_4.length c0_4, .slice A0_5 l0_5.length c0_5] 49 (0, 0)) tq_10 hb) <| p_ (blk_below (g := gb249) (o := .cells #[.int .i64 ((rd_T170 l0_4 x8_1).f0), .int .i64 ((rd_T170 l0_4 x8_1).f1), .string ((rd_T170 l0_4 x8_1).f2)] 170 (0, 0)) tq_4 hb) <| a_ (below_step tq_12 hb); clear BK245 BK249 HB; obtain ⟨BK245, BK249, HB⟩ := z_; (try clear hb); (try clear hb2); (try clear hk); (try clear hi); have hcz28_0 := bc_ BK245.out 0; have hcz28_1 := bc_ BK245.out 1; have hcz28_2 := bc_ BK245.out 2; have hcz28_3 := bc_ BK245.out 3; have hcz28_4 := bc_ BK245.out 4; have hcz28_5 := bc_ BK245.out 5; have hfz28_0 := blk_frozen BK245.out 0; have hfz28_1 := blk_frozen BK245.out 1; have hfz28_2 := blk_frozen BK245.out 2; have hfz28_3 := blk_frozen BK245.out 3; have hfz28_4 := blk_frozen BK245.out 4; have hfz28_5 := blk_frozen BK245.out 5; have q29 : (x8_1 : Int) ≤ ((l0_4.length : Int) : Int) := of_decide_eq_true tq_3; obtain ⟨i029, hi029, _, hsz29, _⟩ := info_parts info170; have hroom29 : l0_4.length ≤ c0_4 := HC0_4.out; have hC29 : Kd.C k170 _ (some ad248) l0_4.length l0_4 := HR0_4.out; have hcut29 := cut_to (P := Try.prog) 46 170 .i64 Try.underlying46 hi029 (some ad248) l0_4.length c0_4 x8_1 (of_decide_eq_true tq_3) q29 hroom29; have hr29 := Kd.C_take (m := (x8_1 : Int).toNat) hC29 (by omega); have hy29 : y251.length = (x8_1 : Int).toNat := tq_89; rw [← Ny251.out] at hr29; rw [← hy29] at hcut29; have HR254 := Aside0.mk hr29; have HC254 := Aside0.mk (show y251.length ≤ c0_4 from by omega); clear hr29 hC29 hroom29 hi029 hsz29; have KY29 := Aside0.mk hy29; clear hy29; replace q29 := eq_true q29) | (go_at_call 226; (with_reducible refine (slices_ContainsFunc_Rec_g227.calls _ _ y251 gb249 ((rd_T170 l0_4 x8_1).f0) ((rd_T170 l0_4 x8_1).f1) ((rd_T170 l0_4 x8_1).f2) false _ ?side1 ?side2 ?side3 A15.out).mono ?_); (case side1 => exact tq_46); (case side2 => exact HC254.out); (case side3 => (with_reducible repeat (first | refine blk_drewN ?_ _ | refine blk_drew ?_ | refine blk_alloc ?_ _)); exact BK249.out); rintro e w30 ⟨rfl, hb⟩; have z_ := p_ (blk_below tq_11 hb) <| p_ (blk_below tq_59 hb) <| a_ (below_step tq_12 hb); clear BK245 BK249 HB; obtain ⟨BK245, BK249, HB⟩ := z_; (try clear hb); (try clear hb2); (try clear hk); (try clear hi))))
         go_roundg k1
         case measure => have := HK1.out; omega
         case rel => exact ⟨(wrap64 (x8_1 + 1)), tq_8, H', ⟨tq_67⟩, ⟨tq_11⟩, ⟨tq_12⟩⟩
       ·rw [if_neg c14] at H
        exact absurd H (by simp)
     ·rw [if_neg c6] at H
      exact absurd H (by simp)
    ·rw [if_neg c5] at H
     exact absurd H (by simp)
   ·rw [if_neg c4] at H
    have c4b0 : decide (x8_1 < (l0_4.length : Int)) = false := decide_eq_false c4
    clear c4
    replace H := Option.bind_eq_some_iff.mp H
    obtain ⟨t246, A310, H⟩ := H
    replace H : (if t246 = true then (if (a0_3.size : Int) = 8 then ((impl_PagesFor.f a0_1).bind fun t247 => (if (l0_4.length : Int) = t247 then (some ((l0_5.length : Int) == 0)) else (some false))) else (some false)) else (some false)) = some r := H
    have A31 := Aside0.mk A310
    clear A310
    by_cases c32 : t246 = true
    ·subst c32
     have H1 : (if (a0_3.size : Int) = 8 then ((impl_PagesFor.f a0_1).bind fun t247 => (if (l0_4.length : Int) = t247 then (some ((l0_5.length : Int) == 0)) else (some false))) else (some false)) = some r := by rw [if_pos rfl] at H; exact H
     clear H
     have H := H1
     clear H1
     by_cases c33 : (a0_3.size : Int) = 8
     ·rw [if_pos c33] at H
      have c33b0 : ((a0_3.size : Int) == 8) = true := beq_iff_eq.mpr c33
      have c33b1 : ((a0_3.size : Int) != 8) = false := bne_eq_false_iff_eq.mpr c33
      clear c33
      replace H := Option.bind_eq_some_iff.mp H
      obtain ⟨t247, A340, H⟩ := H
      replace H : (if (l0_4.length : Int) = t247 then (some ((l0_5.length : Int) == 0)) else (some false)) = some r := H
      have A34 := Aside0.mk A340
      clear A340
      by_cases c35 : (l0_4.length : Int) = t247
      ·rw [if_pos c35] at H
       have c35b0 : ((l0_4.length : Int) == t247) = true := beq_iff_eq.mpr c35
       have c35b1 : ((l0_4.length : Int) != t247) = false := bne_eq_false_iff_eq.mpr c35
       clear c35
       obtain rfl := Option.some.inj H
       have hcz36_0 := bc_ BK245.out 0
       have hcz36_1 := bc_ BK245.out 1
       have hcz36_2 := bc_ BK245.out 2
       have hcz36_3 := bc_ BK245.out 3
       have hcz36_4 := bc_ BK245.out 4
       have hcz36_5 := bc_ BK245.out 5
       have hfz36_0 := blk_frozen BK245.out 0
       have hfz36_1 := blk_frozen BK245.out 1
       have hfz36_2 := blk_frozen BK245.out 2
       have hfz36_3 := blk_frozen BK245.out 3
       have hfz36_4 := blk_frozen BK245.out 4
       have hfz36_5 := blk_frozen BK245.out 5
       go_wp2_with (first | (go_at_call 140; (with_reducible refine (impl_within.calls a0_1 0 128 true _ A31.out).mono ?_); rintro e w' ⟨rfl, ⟨nd, rfl⟩⟩; (try first | exact ⟨rfl, _, World.drewN_drewN _ _ _⟩ | exact ⟨rfl, _, Eq.trans (World.drewN_drewN _ _ _) (congrArg (World.drewN _) (Nat.add_assoc _ _ _))⟩)) | (go_at_call 121; (with_reducible refine (impl_PagesFor.calls a0_1 t247 _ A34.out).mono ?_); rintro e w' ⟨rfl, ⟨nd, rfl⟩⟩; (try first | exact ⟨rfl, _, World.drewN_drewN _ _ _⟩ | exact ⟨rfl, _, Eq.trans (World.drewN_drewN _ _ _) (congrArg (World.drewN _) (Nat.add_assoc _ _ _))⟩)))
       repeat (go_quiet (first | (go_at_call 140; (with_reducible refine (impl_within.calls a0_1 0 128 true _ A31.out).mono ?_); rintro e w' ⟨rfl, ⟨nd, rfl⟩⟩; (try first | exact ⟨rfl, _, World.drewN_drewN _ _ _⟩ | exact ⟨rfl, _, Eq.trans (World.drewN_drewN _ _ _) (congrArg (World.drewN _) (Nat.add_assoc _ _ _))⟩)) | (go_at_call 121; (with_reducible refine (impl_PagesFor.calls a0_1 t247 _ A34.out).mono ?_); rintro e w' ⟨rfl, ⟨nd, rfl⟩⟩; (try first | exact ⟨rfl, _, World.drewN_drewN _ _ _⟩ | exact ⟨rfl, _, Eq.trans (World.drewN_drewN _ _ _) (congrArg (World.drewN _) (Nat.add_assoc _ _ _))⟩))); try go_wp2_with (first | (go_at_call 140; (with_reducible refine (impl_within.calls a0_1 0 128 true _ A31.out).mono ?_); rintro e w' ⟨rfl, ⟨nd, rfl⟩⟩; (try first | exact ⟨rfl, _, World.drewN_drewN _ _ _⟩ | exact ⟨rfl, _, Eq.trans (World.drewN_drewN _ _ _) (congrArg (World.drewN _) (Nat.add_assoc _ _ _))⟩)) | (go_at_call 121; (with_reducible refine (impl_PagesFor.calls a0_1 t247 _ A34.out).mono ?_); rintro e w' ⟨rfl, ⟨nd, rfl⟩⟩; (try first | exact ⟨rfl, _, World.drewN_drewN _ _ _⟩ | exact ⟨rfl, _, Eq.trans (World.drewN_drewN _ _ _) (congrArg (World.drewN _) (Nat.add_assoc _ _ _))⟩))))
       go_ret
       exact ⟨tq_2, tq_7⟩
      ·rw [if_neg c35] at H
       have c35b0 : ((l0_4.length : Int) == t247) = false := beq_eq_false_iff_ne.mpr c35
       have c35b1 : ((l0_4.length : Int) != t247) = true := bne_iff_ne.mpr c35
       obtain rfl := Option.some.inj H
       have hcz37_0 := bc_ BK245.out 0
       have hcz37_1 := bc_ BK245.out 1
       have hcz37_2 := bc_ BK245.out 2
       have hcz37_3 := bc_ BK245.out 3
       have hcz37_4 := bc_ BK245.out 4
       have hcz37_5 := bc_ BK245.out 5
       have hfz37_0 := blk_frozen BK245.out 0
       have hfz37_1 := blk_frozen BK245.out 1
       have hfz37_2 := blk_frozen BK245.out 2
       have hfz37_3 := blk_frozen BK245.out 3
       have hfz37_4 := blk_frozen BK245.out 4
       have hfz37_5 := blk_frozen BK245.out 5
       go_wp2_with (first | (go_at_call 140; (with_reducible refine (impl_within.calls a0_1 0 128 true _ A31.out).mono ?_); rintro e w' ⟨rfl, ⟨nd, rfl⟩⟩; (try first | exact ⟨rfl, _, World.drewN_drewN _ _ _⟩ | exact ⟨rfl, _, Eq.trans (World.drewN_drewN _ _ _) (congrArg (World.drewN _) (Nat.add_assoc _ _ _))⟩)) | (go_at_call 121; (with_reducible refine (impl_PagesFor.calls a0_1 t247 _ A34.out).mono ?_); rintro e w' ⟨rfl, ⟨nd, rfl⟩⟩; (try first | exact ⟨rfl, _, World.drewN_drewN _ _ _⟩ | exact ⟨rfl, _, Eq.trans (World.drewN_drewN _ _ _) (congrArg (World.drewN _) (Nat.add_assoc _ _ _))⟩)))
       repeat (go_quiet (first | (go_at_call 140; (with_reducible refine (impl_within.calls a0_1 0 128 true _ A31.out).mono ?_); rintro e w' ⟨rfl, ⟨nd, rfl⟩⟩; (try first | exact ⟨rfl, _, World.drewN_drewN _ _ _⟩ | exact ⟨rfl, _, Eq.trans (World.drewN_drewN _ _ _) (congrArg (World.drewN _) (Nat.add_assoc _ _ _))⟩)) | (go_at_call 121; (with_reducible refine (impl_PagesFor.calls a0_1 t247 _ A34.out).mono ?_); rintro e w' ⟨rfl, ⟨nd, rfl⟩⟩; (try first | exact ⟨rfl, _, World.drewN_drewN _ _ _⟩ | exact ⟨rfl, _, Eq.trans (World.drewN_drewN _ _ _) (congrArg (World.drewN _) (Nat.add_assoc _ _ _))⟩))); try go_wp2_with (first | (go_at_call 140; (with_reducible refine (impl_within.calls a0_1 0 128 true _ A31.out).mono ?_); rintro e w' ⟨rfl, ⟨nd, rfl⟩⟩; (try first | exact ⟨rfl, _, World.drewN_drewN _ _ _⟩ | exact ⟨rfl, _, Eq.trans (World.drewN_drewN _ _ _) (congrArg (World.drewN _) (Nat.add_assoc _ _ _))⟩)) | (go_at_call 121; (with_reducible refine (impl_PagesFor.calls a0_1 t247 _ A34.out).mono ?_); rintro e w' ⟨rfl, ⟨nd, rfl⟩⟩; (try first | exact ⟨rfl, _, World.drewN_drewN _ _ _⟩ | exact ⟨rfl, _, Eq.trans (World.drewN_drewN _ _ _) (congrArg (World.drewN _) (Nat.add_assoc _ _ _))⟩))))
       go_ret
       exact ⟨tq_2, tq_7⟩
     ·rw [if_neg c33] at H
      have c33b0 : ((a0_3.size : Int) == 8) = false := beq_eq_false_iff_ne.mpr c33
      have c33b1 : ((a0_3.size : Int) != 8) = true := bne_iff_ne.mpr c33
      obtain rfl := Option.some.inj H
      have hcz38_0 := bc_ BK245.out 0
      have hcz38_1 := bc_ BK245.out 1
      have hcz38_2 := bc_ BK245.out 2
      have hcz38_3 := bc_ BK245.out 3
      have hcz38_4 := bc_ BK245.out 4
      have hcz38_5 := bc_ BK245.out 5
      have hfz38_0 := blk_frozen BK245.out 0
      have hfz38_1 := blk_frozen BK245.out 1
      have hfz38_2 := blk_frozen BK245.out 2
      have hfz38_3 := blk_frozen BK245.out 3
      have hfz38_4 := blk_frozen BK245.out 4
      have hfz38_5 := blk_frozen BK245.out 5
      go_wp2_with (first | (go_at_call 140; (with_reducible refine (impl_within.calls a0_1 0 128 true _ A31.out).mono ?_); rintro e w' ⟨rfl, ⟨nd, rfl⟩⟩; (try first | exact ⟨rfl, _, World.drewN_drewN _ _ _⟩ | exact ⟨rfl, _, Eq.trans (World.drewN_drewN _ _ _) (congrArg (World.drewN _) (Nat.add_assoc _ _ _))⟩)))
      repeat (go_quiet (first | (go_at_call 140; (with_reducible refine (impl_within.calls a0_1 0 128 true _ A31.out).mono ?_); rintro e w' ⟨rfl, ⟨nd, rfl⟩⟩; (try first | exact ⟨rfl, _, World.drewN_drewN _ _ _⟩ | exact ⟨rfl, _, Eq.trans (World.drewN_drewN _ _ _) (congrArg (World.drewN _) (Nat.add_assoc _ _ _))⟩))); try go_wp2_with (first | (go_at_call 140; (with_reducible refine (impl_within.calls a0_1 0 128 true _ A31.out).mono ?_); rintro e w' ⟨rfl, ⟨nd, rfl⟩⟩; (try first | exact ⟨rfl, _, World.drewN_drewN _ _ _⟩ | exact ⟨rfl, _, Eq.trans (World.drewN_drewN _ _ _) (congrArg (World.drewN _) (Nat.add_assoc _ _ _))⟩))))
      go_ret
      exact ⟨tq_2, tq_7⟩
    ·replace c32 := Bool.eq_false_iff.mpr c32
     subst c32
     have H1 : (some false) = some r := by rw [if_neg (show ¬ (false = true) by decide)] at H; exact H
     clear H
     have H := H1
     clear H1
     obtain rfl := Option.some.inj H
     have hcz39_0 := bc_ BK245.out 0
     have hcz39_1 := bc_ BK245.out 1
     have hcz39_2 := bc_ BK245.out 2
     have hcz39_3 := bc_ BK245.out 3
     have hcz39_4 := bc_ BK245.out 4
     have hcz39_5 := bc_ BK245.out 5
     have hfz39_0 := blk_frozen BK245.out 0
     have hfz39_1 := blk_frozen BK245.out 1
     have hfz39_2 := blk_frozen BK245.out 2
     have hfz39_3 := blk_frozen BK245.out 3
     have hfz39_4 := blk_frozen BK245.out 4
     have hfz39_5 := blk_frozen BK245.out 5
     go_wp2_with (first | (go_at_call 140; (with_reducible refine (impl_within.calls a0_1 0 128 false _ A31.out).mono ?_); rintro e w' ⟨rfl, ⟨nd, rfl⟩⟩; (try first | exact ⟨rfl, _, World.drewN_drewN _ _ _⟩ | exact ⟨rfl, _, Eq.trans (World.drewN_drewN _ _ _) (congrArg (World.drewN _) (Nat.add_assoc _ _ _))⟩)))
     repeat (go_quiet (first | (go_at_call 140; (with_reducible refine (impl_within.calls a0_1 0 128 false _ A31.out).mono ?_); rintro e w' ⟨rfl, ⟨nd, rfl⟩⟩; (try first | exact ⟨rfl, _, World.drewN_drewN _ _ _⟩ | exact ⟨rfl, _, Eq.trans (World.drewN_drewN _ _ _) (congrArg (World.drewN _) (Nat.add_assoc _ _ _))⟩))); try go_wp2_with (first | (go_at_call 140; (with_reducible refine (impl_within.calls a0_1 0 128 false _ A31.out).mono ?_); rintro e w' ⟨rfl, ⟨nd, rfl⟩⟩; (try first | exact ⟨rfl, _, World.drewN_drewN _ _ _⟩ | exact ⟨rfl, _, Eq.trans (World.drewN_drewN _ _ _) (congrArg (World.drewN _) (Nat.add_assoc _ _ _))⟩))))
     go_ret
     exact ⟨tq_2, tq_7⟩

/-! ### strings_Repeat: function 192 -/
def strings_Repeat.f (a0 : ByteArray) (a1 : Int) : Option (ByteArray) := if 0 ≤ a1 ∧ a1 ≤ 9223372036854775807 ∧ a0.size * a1.toNat ≤ 140737488355328 then some ⟨(Lib.repeatL a0.data.toList a1.toNat).toArray⟩ else none
theorem strings_Repeat.calls (a0 : ByteArray) (a1 : Int) (r : ByteArray) (w : World) (h : strings_Repeat.f a0 a1 = some r) :
  Calls Try.prog 192 #[.string a0, .int .i64 a1] w fun e w' => e = .returned (.string r) ∧ Below w.heap.size w w' := by
 unfold strings_Repeat.f at h
 split at h
 case isFalse => cases h
 case isTrue hc =>
  obtain ⟨h0, h1, h2⟩ := hc
  obtain ⟨c, rfl⟩ := Int.eq_ofNat_of_zero_le h0
  obtain rfl := Option.some.inj h
  exact Try.strings_Repeat a0 c w (by omega) h2

/-! ### impl_padded: function 143 -/
def impl_padded.f (a0 : ByteArray) (a1 : Int) : Option (ByteArray) := (strings_Repeat.f (⟨#[0]⟩ : ByteArray) (mx 0 (wrap64 (a1 - (a0.size : Int))))).bind fun t256 => (if a0.size + t256.size ≤ 9223372036854775807 then (some (a0 ++ t256)) else (none))
set_option maxHeartbeats 8000000 in
set_option maxRecDepth 100000 in
theorem impl_padded.calls (a0 : ByteArray) (a1 : Int) (r : ByteArray) (w : World) (h : impl_padded.f a0 a1 = some r) :
  Calls Try.prog 143 #[.string a0, .int .i64 a1] w fun e w' => e = .returned (.string r) ∧ Below w.heap.size w w' := by
 have HB := Aside0.mk (Below.refl w.heap.size w)
 have H : ((strings_Repeat.f (⟨#[0]⟩ : ByteArray) (mx 0 (wrap64 (a1 - (a0.size : Int))))).bind fun t256 => (if a0.size + t256.size ≤ 9223372036854775807 then (some (a0 ++ t256)) else (none))) = some r := h
 clear h
 obtain ⟨ji3, hji3⟩ : ∃ j_ : Int, (mx 0 (wrap64 (a1 - (a0.size : Int)))) = j_ := ⟨_, rfl⟩
 replace H : ((strings_Repeat.f (⟨#[0]⟩ : ByteArray) (ji3)).bind fun t256 => (if a0.size + t256.size ≤ 9223372036854775807 then (some (a0 ++ t256)) else (none))) = some r := by first | (rw [hji3] at H; exact H) | (simp only [hji3] at H ⊢; exact H)
 (try (have hji3l : 0 ≤ ji3 := by (rw [← hji3]; unfold mx; (repeat' split) <;> omega)))
 (try (have hji3m : 0 ≤ ji3 := by omega))
 have hji3_ : (if 0 < (wrap64 (a1 - (a0.size : Int))) then (wrap64 (a1 - (a0.size : Int))) else 0) = ji3 := hji3
 replace H := Option.bind_eq_some_iff.mp H
 obtain ⟨t256, A40, H⟩ := H
 replace H : (if a0.size + t256.size ≤ 9223372036854775807 then (some (a0 ++ t256)) else (none)) = some r := H
 have A4 := Aside0.mk A40
 clear A40
 by_cases c5 : a0.size + t256.size ≤ 9223372036854775807
 ·rw [if_pos c5] at H
  have c5b0 := eq_true c5
  have c5b1 : decide (a0.size + t256.size ≤ 9223372036854775807) = true := decide_eq_true c5
  try have c5b2 : (9223372036854775807 < a0.size + t256.size) = False := eq_false (Nat.not_lt.2 c5)
  obtain rfl := Option.some.inj H
  go_enter Try.func143, Try.ntmps143
  go_wp2_with (first | ((with_reducible refine gate_callee (f := 192) rfl ?_); refine goesL_ (some 11) rfl rfl Try.func192 (by kernel_rfl) rfl #[.string (⟨#[0]⟩ : ByteArray), .int .i64 ji3] rfl (by (try simp only [List.map_toArray, List.map_cons, List.map_nil]); first | done | (simp only [hji3]; rfl) | rfl | (simp only [List.length_drop, List.length_take]; rfl)) ?_; (with_reducible refine (strings_Repeat.calls (⟨#[0]⟩ : ByteArray) ji3 t256 _ A4.out).mono ?_); rintro e w6 ⟨rfl, hb⟩; refine ⟨_, rfl, ?_⟩; have n0_ := Aside0.mk (below_step tq_0 hb); clear HB; have HB := n0_; clear n0_; (try clear hb); (try clear hb2); (try clear hk); (try clear hi)))
  go_ret
  exact ⟨(by first | rfl | (simp [errW_none, errW_some] <;> rfl) | (simp only [← hji3]; first | rfl | (simp [errW_none, errW_some] <;> rfl)) | (simp [*, errW_none, errW_some] <;> rfl)), tq_0⟩
 ·rw [if_neg c5] at H
  exact absurd H (by simp)

/-! ### impl_WordText: function 197 -/
def impl_WordText.f (a0 : ByteArray) : Option (ByteArray) := if (a0.size : Int) > 8 then (some (⟨#[]⟩ : ByteArray)) else ((impl_padded.f a0 8).bind fun t257 => (some t257))
set_option maxHeartbeats 8000000 in
set_option maxRecDepth 100000 in
theorem impl_WordText.calls (a0 : ByteArray) (r : ByteArray) (w : World) (h : impl_WordText.f a0 = some r) :
  Calls Try.prog 197 #[.string a0] w fun e w' => e = .returned (.string r) ∧ Below w.heap.size w w' := by
 have HB := Aside0.mk (Below.refl w.heap.size w)
 have H : (if (a0.size : Int) > 8 then (some (⟨#[]⟩ : ByteArray)) else ((impl_padded.f a0 8).bind fun t257 => (some t257))) = some r := h
 clear h
 by_cases c2 : (a0.size : Int) > 8
 ·rw [if_pos c2] at H
  have c2b0 : decide (8 < (a0.size : Int)) = true := decide_eq_true c2
  have c2b1 : decide (8 < a0.size) = true := decide_eq_true (by omega)
  clear c2
  obtain rfl := Option.some.inj H
  go_enter Try.func197, Try.ntmps197
  go_wp2
  go_ret
  exact ⟨tq_2, tq_0⟩
 ·rw [if_neg c2] at H
  have c2b0 : decide (8 < (a0.size : Int)) = false := decide_eq_false c2
  have c2b1 : decide (8 < a0.size) = false := decide_eq_false (by omega)
  clear c2
  replace H := Option.bind_eq_some_iff.mp H
  obtain ⟨t257, A30, H⟩ := H
  replace H : (some t257) = some r := H
  have A3 := Aside0.mk A30
  clear A30
  obtain rfl := Option.some.inj H
  go_enter Try.func197, Try.ntmps197
  go_wp2_with (first | ((with_reducible refine gate_callee (f := 143) rfl ?_); refine goesL_ (some 7) rfl rfl Try.func143 (by kernel_rfl) rfl #[.string a0, .int .i64 8] rfl tq_1 ?_; (with_reducible refine (impl_padded.calls a0 8 t257 _ A3.out).mono ?_); rintro e w4 ⟨rfl, hb⟩; refine ⟨_, rfl, ?_⟩; have n0_ := Aside0.mk (below_step tq_0 hb); clear HB; have HB := n0_; clear n0_; (try clear hb); (try clear hb2); (try clear hk); (try clear hi)))
  go_ret
  exact ⟨tq_2, tq_0⟩

/-! ### impl_NameOk: function 228 -/
def impl_NameOk.l0 : Nat → ByteArray → Int → Int → Option (Bool)
 | 0, _, _, _ => none
 | k + 1, x0, x5, x6 => if x6 < x5 then (if 0 ≤ x6 then (if x6 < (x0.size : Int) then (if (bt x0 x6) ≥ 97 then (if (bt x0 x6) ≤ 122 then (impl_NameOk.l0 k x0 x5 (wrap64 (x6 + 1))) else (if (bt x0 x6) ≥ 48 then (if ((bt x0 x6) ≤ 57) then (impl_NameOk.l0 k x0 x5 (wrap64 (x6 + 1))) else (some false)) else (some false))) else (if (bt x0 x6) ≥ 48 then (if ((bt x0 x6) ≤ 57) then (impl_NameOk.l0 k x0 x5 (wrap64 (x6 + 1))) else (some false)) else (some false))) else (none)) else (none)) else ((impl_within.f (x0.size : Int) 1 7).bind fun t258 => (some t258))
def impl_NameOk.f (k : Nat) (a0 : ByteArray) : Option (Bool) := impl_NameOk.l0 k a0 (a0.size : Int) 0
theorem impl_NameOk.mono_l : ∀ k, (∀ y0 y1 y2, LeO (impl_NameOk.l0 k y0 y1 y2) (impl_NameOk.l0 (k + 1) y0 y1 y2))
 | 0 => fun _ _ _ r h => by simp [impl_NameOk.l0] at h
 | k + 1 => by
  have ih0 := impl_NameOk.mono_l k
  ·intro y0 y1 y2
   unfold impl_NameOk.l0
   repeat' first
   | (with_reducible exact ih0 ..)
   | (with_reducible exact LeO.refl _)
   | (with_reducible exact LeO.none _)
   | (with_reducible refine LeO.ite ?_ ?_)
   | (with_reducible refine LeO.bind ?_ (fun _ => ?_))
   | exact ih0 ..
   | exact LeO.none _
   | refine LeO.ite ?_ ?_
   | refine LeO.bind ?_ (fun _ => ?_)
theorem impl_NameOk.mono : ∀ a0 k, LeO (impl_NameOk.f k a0) (impl_NameOk.f (k + 1) a0) := by
 intro a0 k
 have ih0 := impl_NameOk.mono_l k
 unfold impl_NameOk.f
 repeat' first
   | (with_reducible exact ih0 ..)
   | (with_reducible exact LeO.refl _)
   | (with_reducible exact LeO.none _)
   | (with_reducible refine LeO.ite ?_ ?_)
   | (with_reducible refine LeO.bind ?_ (fun _ => ?_))
   | exact ih0 ..
   | exact LeO.none _
   | refine LeO.ite ?_ ?_
   | refine LeO.bind ?_ (fun _ => ?_)
set_option maxHeartbeats 8000000 in
set_option maxRecDepth 100000 in
theorem impl_NameOk.calls (k : Nat) (a0 : ByteArray) (r : Bool) (w : World) (h : impl_NameOk.f k a0 = some r) :
  Calls Try.prog 228 #[.string a0] w fun e w' => e = .returned (.bool r) ∧ Drawn0 w w' := by
 have H : (impl_NameOk.l0 k a0 (a0.size : Int) 0) = some r := h
 clear h
 have H' := Aside0.mk H
 clear H
 go_enter Try.func228, Try.ntmps228
 go_wp2
 go_loopg [6] k (fun kq v6 w' => ∃ (x6_1 : Int), v6 = .int .i64 x6_1 ∧ Aside0 (impl_NameOk.l0 kq a0 (a0.size : Int) x6_1 = some r) ∧ Aside0 (kq ≤ k) ∧ Drawn0 w w')
 case atStart => exact ⟨(0), tq_8, H', ⟨Nat.le_refl _⟩, tq_33⟩
 case round =>
  clear H'
  obtain ⟨x6_1, rfl, HA, HK1, ⟨m1, rfl⟩⟩ := hrel
  cases gk with
  | zero => exact absurd HA.out (by simp [impl_NameOk.l0])
  | succ k1 =>
   have H := HA.out
   clear HA
   simp only [impl_NameOk.l0] at H
   by_cases c2 : x6_1 < (a0.size : Int)
   ·rw [if_pos c2] at H
    have c2b0 : decide (x6_1 < (a0.size : Int)) = true := decide_eq_true c2
    clear c2
    by_cases c3 : 0 ≤ x6_1
    ·rw [if_pos c3] at H
     have c3b0 : decide (0 ≤ x6_1) = true := decide_eq_true c3
     clear c3
     by_cases c4 : x6_1 < (a0.size : Int)
     ·rw [if_pos c4] at H
      have c4b0 : decide (x6_1 < (a0.size : Int)) = true := decide_eq_true c4
      clear c4
      by_cases c6 : (bt a0 x6_1) ≥ 97
      ·rw [if_pos c6] at H
       have c6b0 : decide (97 ≤ (bt a0 x6_1)) = true := decide_eq_true c6
       clear c6
       by_cases c8 : (bt a0 x6_1) ≤ 122
       ·rw [if_pos c8] at H
        have c8b0 : decide ((bt a0 x6_1) ≤ 122) = true := decide_eq_true c8
        clear c8
        have H' := Aside0.mk H
        clear H
        have p5 : 0 ≤ (x6_1 : Int) := of_decide_eq_true tq_3
        have q5 : x6_1 < (a0.size : Int) := of_decide_eq_true tq_3
        have hx5 := bt_at a0 x6_1
        replace p5 := eq_true p5
        replace q5 := eq_true q5
        have p7 : 0 ≤ (x6_1 : Int) := of_decide_eq_true tq_3
        have q7 : x6_1 < (a0.size : Int) := of_decide_eq_true tq_3
        have hx7 := bt_at a0 x6_1
        replace p7 := eq_true p7
        replace q7 := eq_true q7
        go_wp2
        go_roundg k1
        case measure => have := HK1.out; omega
        case rel => exact ⟨(wrap64 (x6_1 + 1)), tq_8, H', ⟨tq_67⟩, tq_33⟩
       ·rw [if_neg c8] at H
        have c8b0 : decide ((bt a0 x6_1) ≤ 122) = false := decide_eq_false c8
        clear c8
        by_cases c10 : (bt a0 x6_1) ≥ 48
        ·rw [if_pos c10] at H
         have c10b0 : decide (48 ≤ (bt a0 x6_1)) = true := decide_eq_true c10
         clear c10
         by_cases c12 : ((bt a0 x6_1) ≤ 57)
         ·rw [if_pos c12] at H
          have c12b0 : decide ((bt a0 x6_1) ≤ 57) = true := decide_eq_true c12
          clear c12
          have H' := Aside0.mk H
          clear H
          have p5 : 0 ≤ (x6_1 : Int) := of_decide_eq_true tq_3
          have q5 : x6_1 < (a0.size : Int) := of_decide_eq_true tq_3
          have hx5 := bt_at a0 x6_1
          replace p5 := eq_true p5
          replace q5 := eq_true q5
          have p7 : 0 ≤ (x6_1 : Int) := of_decide_eq_true tq_3
          have q7 : x6_1 < (a0.size : Int) := of_decide_eq_true tq_3
          have hx7 := bt_at a0 x6_1
          replace p7 := eq_true p7
          replace q7 := eq_true q7
          have p9 : 0 ≤ (x6_1 : Int) := of_decide_eq_true tq_3
          have q9 : x6_1 < (a0.size : Int) := of_decide_eq_true tq_3
          have hx9 := bt_at a0 x6_1
          replace p9 := eq_true p9
          replace q9 := eq_true q9
          have p11 : 0 ≤ (x6_1 : Int) := of_decide_eq_true tq_3
          have q11 : x6_1 < (a0.size : Int) := of_decide_eq_true tq_3
          have hx11 := bt_at a0 x6_1
          replace p11 := eq_true p11
          replace q11 := eq_true q11
          go_wp2
          go_roundg k1
          case measure => have := HK1.out; omega
          case rel => exact ⟨(wrap64 (x6_1 + 1)), tq_8, H', ⟨tq_67⟩, tq_33⟩
         ·rw [if_neg c12] at H
          have c12b0 : decide ((bt a0 x6_1) ≤ 57) = false := decide_eq_false c12
          clear c12
          obtain rfl := Option.some.inj H
          have p5 : 0 ≤ (x6_1 : Int) := of_decide_eq_true tq_3
          have q5 : x6_1 < (a0.size : Int) := of_decide_eq_true tq_3
          have hx5 := bt_at a0 x6_1
          replace p5 := eq_true p5
          replace q5 := eq_true q5
          have p7 : 0 ≤ (x6_1 : Int) := of_decide_eq_true tq_3
          have q7 : x6_1 < (a0.size : Int) := of_decide_eq_true tq_3
          have hx7 := bt_at a0 x6_1
          replace p7 := eq_true p7
          replace q7 := eq_true q7
          have p9 : 0 ≤ (x6_1 : Int) := of_decide_eq_true tq_3
          have q9 : x6_1 < (a0.size : Int) := of_decide_eq_true tq_3
          have hx9 := bt_at a0 x6_1
          replace p9 := eq_true p9
          replace q9 := eq_true q9
          have p11 : 0 ≤ (x6_1 : Int) := of_decide_eq_true tq_3
          have q11 : x6_1 < (a0.size : Int) := of_decide_eq_true tq_3
          have hx11 := bt_at a0 x6_1
          replace p11 := eq_true p11
          replace q11 := eq_true q11
          go_wp2
          go_ret
          exact ⟨tq_8, tq_33⟩
        ·rw [if_neg c10] at H
         have c10b0 : decide (48 ≤ (bt a0 x6_1)) = false := decide_eq_false c10
         clear c10
         obtain rfl := Option.some.inj H
         have p5 : 0 ≤ (x6_1 : Int) := of_decide_eq_true tq_3
         have q5 : x6_1 < (a0.size : Int) := of_decide_eq_true tq_3
         have hx5 := bt_at a0 x6_1
         replace p5 := eq_true p5
         replace q5 := eq_true q5
         have p7 : 0 ≤ (x6_1 : Int) := of_decide_eq_true tq_3
         have q7 : x6_1 < (a0.size : Int) := of_decide_eq_true tq_3
         have hx7 := bt_at a0 x6_1
         replace p7 := eq_true p7
         replace q7 := eq_true q7
         have p9 : 0 ≤ (x6_1 : Int) := of_decide_eq_true tq_3
         have q9 : x6_1 < (a0.size : Int) := of_decide_eq_true tq_3
         have hx9 := bt_at a0 x6_1
         replace p9 := eq_true p9
         replace q9 := eq_true q9
         go_wp2
         go_ret
         exact ⟨tq_8, tq_33⟩
      ·rw [if_neg c6] at H
       have c6b0 : decide (97 ≤ (bt a0 x6_1)) = false := decide_eq_false c6
       clear c6
       by_cases c14 : (bt a0 x6_1) ≥ 48
       ·rw [if_pos c14] at H
        have c14b0 : decide (48 ≤ (bt a0 x6_1)) = true := decide_eq_true c14
        clear c14
        by_cases c16 : ((bt a0 x6_1) ≤ 57)
        ·rw [if_pos c16] at H
         have c16b0 : decide ((bt a0 x6_1) ≤ 57) = true := decide_eq_true c16
         clear c16
         have H' := Aside0.mk H
         clear H
         have p5 : 0 ≤ (x6_1 : Int) := of_decide_eq_true tq_3
         have q5 : x6_1 < (a0.size : Int) := of_decide_eq_true tq_3
         have hx5 := bt_at a0 x6_1
         replace p5 := eq_true p5
         replace q5 := eq_true q5
         have p13 : 0 ≤ (x6_1 : Int) := of_decide_eq_true tq_3
         have q13 : x6_1 < (a0.size : Int) := of_decide_eq_true tq_3
         have hx13 := bt_at a0 x6_1
         replace p13 := eq_true p13
         replace q13 := eq_true q13
         have p15 : 0 ≤ (x6_1 : Int) := of_decide_eq_true tq_3
         have q15 : x6_1 < (a0.size : Int) := of_decide_eq_true tq_3
         have hx15 := bt_at a0 x6_1
         replace p15 := eq_true p15
         replace q15 := eq_true q15
         go_wp2
         go_roundg k1
         case measure => have := HK1.out; omega
         case rel => exact ⟨(wrap64 (x6_1 + 1)), tq_8, H', ⟨tq_67⟩, tq_33⟩
        ·rw [if_neg c16] at H
         have c16b0 : decide ((bt a0 x6_1) ≤ 57) = false := decide_eq_false c16
         clear c16
         obtain rfl := Option.some.inj H
         have p5 : 0 ≤ (x6_1 : Int) := of_decide_eq_true tq_3
         have q5 : x6_1 < (a0.size : Int) := of_decide_eq_true tq_3
         have hx5 := bt_at a0 x6_1
         replace p5 := eq_true p5
         replace q5 := eq_true q5
         have p13 : 0 ≤ (x6_1 : Int) := of_decide_eq_true tq_3
         have q13 : x6_1 < (a0.size : Int) := of_decide_eq_true tq_3
         have hx13 := bt_at a0 x6_1
         replace p13 := eq_true p13
         replace q13 := eq_true q13
         have p15 : 0 ≤ (x6_1 : Int) := of_decide_eq_true tq_3
         have q15 : x6_1 < (a0.size : Int) := of_decide_eq_true tq_3
         have hx15 := bt_at a0 x6_1
         replace p15 := eq_true p15
         replace q15 := eq_true q15
         go_wp2
         go_ret
         exact ⟨tq_8, tq_33⟩
       ·rw [if_neg c14] at H
        have c14b0 : decide (48 ≤ (bt a0 x6_1)) = false := decide_eq_false c14
        clear c14
        obtain rfl := Option.some.inj H
        have p5 : 0 ≤ (x6_1 : Int) := of_decide_eq_true tq_3
        have q5 : x6_1 < (a0.size : Int) := of_decide_eq_true tq_3
        have hx5 := bt_at a0 x6_1
        replace p5 := eq_true p5
        replace q5 := eq_true q5
        have p13 : 0 ≤ (x6_1 : Int) := of_decide_eq_true tq_3
        have q13 : x6_1 < (a0.size : Int) := of_decide_eq_true tq_3
        have hx13 := bt_at a0 x6_1
        replace p13 := eq_true p13
        replace q13 := eq_true q13
        go_wp2
        go_ret
        exact ⟨tq_8, tq_33⟩
     ·rw [if_neg c4] at H
      exact absurd H (by simp)
    ·rw [if_neg c3] at H
     exact absurd H (by simp)
   ·rw [if_neg c2] at H
    have c2b0 : decide (x6_1 < (a0.size : Int)) = false := decide_eq_false c2
    clear c2
    replace H := Option.bind_eq_some_iff.mp H
    obtain ⟨t258, A170, H⟩ := H
    replace H : (some t258) = some r := H
    have A17 := Aside0.mk A170
    clear A170
    obtain rfl := Option.some.inj H
    go_wp2_with (first | ((with_reducible refine gate_callee (f := 140) rfl ?_); refine goesL_ (some 35) rfl rfl Try.func140 (by kernel_rfl) rfl #[.int .i64 (a0.size : Int), .int .i64 1, .int .i64 7] rfl tq_1 ?_; (with_reducible refine (impl_within.calls (a0.size : Int) 1 7 t258 _ A17.out).mono ?_); rintro e w' ⟨rfl, ⟨nd, rfl⟩⟩; refine ⟨_, rfl, ?_⟩))
    go_ret
    exact ⟨tq_8, tq_33⟩

end Go.Proofs.Ytcdnfkoahajhhaa.PFnExactInodeWords
