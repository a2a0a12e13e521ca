/- Contracts of Go functions, written by a program of ours over the print of the kit: each says that the call returns what the Lean function beside it computes. Conditions: as each theorem states them. -/
import Derived.Test.YtabgpbmaoelohaaDoorPkFnExactViewOk
import Derived.Laws.Cover1
import Derived.Test.YtabgpbmaoelohaaDoorPFnExactViewOkx0
import Derived.Test.YtabgpbmaoelohaaDoorPFnExactViewOkx3
namespace Go.Proofs.YtabgpbmaoelohaaDoor.PFnExactViewOk
open Go.RowKit Go.Proofs.YtabgpbmaoelohaaDoorW.PrintWords Go.Proofs.YtabgpbmaoelohaaDoorW.PrintLast Go.Proofs.YtabgpbmaoelohaaDoorW.PrintMore
attribute [local go_sem] max2_int min2_int max_two min_two max_three min_three max_four min_four   -- for this text's walks alone
set_option linter.unusedVariables false
set_option linter.unusedSimpArgs false

/-! ### spec_ViewOk: function 37 -/
mutual
def spec_ViewOk.j0 : Nat → Bool → Int → Int → Int → Int → List (S75) → Option (Bool)
 | 0, _, _, _, _, _, _ => none
 | k + 1, x25, x183000, x183001, x183002, x183003, x184000 => if x25 = true then (some false) else (spec_ViewOk.l0 k 0 x183000 x183001 x183002 x183003 x184000)
def spec_ViewOk.l0 : Nat → Int → Int → Int → Int → Int → List (S75) → Option (Bool)
 | 0, _, _, _, _, _, _ => none
 | k + 1, x5, x183000, x183001, x183002, x183003, x184000 => if x5 < (x184000.length : Int) then (if 0 ≤ x5 then ((spec_ParentOf.f k ((rd_T75 x184000 x5).f0)).bind fun t191 => ((spec_ItemAt.f k x184000 t191).bind fun t192 => (if t191.toList = ([] : List UInt8) then (spec_ViewOk.j2 k x5 true x183000 x183001 x183002 x183003 x184000 ((rd_T75 x184000 x5).f0) ((rd_T75 x184000 x5).f1) ((rd_T75 x184000 x5).f2)) else (if t191.toList = ([47] : List UInt8) then (if x5 > 0 then (if 0 ≤ (wrap64 (x5 - 1)) then (if (wrap64 (x5 - 1)) < (x184000.length : Int) then (spec_ViewOk.j2 k x5 (!(Op.bytesLess (((rd_T75 x184000 (wrap64 (x5 - 1))).f0).toList) (((rd_T75 x184000 x5).f0).toList))) x183000 x183001 x183002 x183003 x184000 ((rd_T75 x184000 x5).f0) ((rd_T75 x184000 x5).f1) ((rd_T75 x184000 x5).f2)) else (none)) else (none)) else (spec_ViewOk.j2 k x5 false x183000 x183001 x183002 x183003 x184000 ((rd_T75 x184000 x5).f0) ((rd_T75 x184000 x5).f1) ((rd_T75 x184000 x5).f2))) else (if t192 < 0 then (spec_ViewOk.j2 k x5 true x183000 x183001 x183002 x183003 x184000 ((rd_T75 x184000 x5).f0) ((rd_T75 x184000 x5).f1) ((rd_T75 x184000 x5).f2)) else (if 0 ≤ t192 then (if t192 < (x184000.length : Int) then (if ((rd_T75 x184000 t192).f1 = true) then (if x5 > 0 then (if 0 ≤ (wrap64 (x5 - 1)) then (if (wrap64 (x5 - 1)) < (x184000.length : Int) then (spec_ViewOk.j2 k x5 (!(Op.bytesLess (((rd_T75 x184000 (wrap64 (x5 - 1))).f0).toList) (((rd_T75 x184000 x5).f0).toList))) x183000 x183001 x183002 x183003 x184000 ((rd_T75 x184000 x5).f0) ((rd_T75 x184000 x5).f1) ((rd_T75 x184000 x5).f2)) else (none)) else (none)) else (spec_ViewOk.j2 k x5 false x183000 x183001 x183002 x183003 x184000 ((rd_T75 x184000 x5).f0) ((rd_T75 x184000 x5).f1) ((rd_T75 x184000 x5).f2))) else (spec_ViewOk.j2 k x5 true x183000 x183001 x183002 x183003 x184000 ((rd_T75 x184000 x5).f0) ((rd_T75 x184000 x5).f1) ((rd_T75 x184000 x5).f2))) else (none)) else (none))))))) else (none)) else ((spec_PagesIn.f k x184000).bind fun t188 => (some (decide (t188 ≤ x183003))))
def spec_ViewOk.j2 : Nat → Int → Bool → Int → Int → Int → Int → List (S75) → ByteArray → Bool → ByteArray → Option (Bool)
 | 0, _, _, _, _, _, _, _, _, _, _ => none
 | k + 1, x5, x78, x183000, x183001, x183002, x183003, x184000, x191000, x191001, x191002 => if x78 = true then (some false) else (if x191001 = true then (if x191002.toList = ([] : List UInt8) then ((spec_KidsOf.f k x184000 x191000).bind fun t196 => (if (t196.length : Int) > 6 then (some false) else (if (x191002.size : Int) > 128 then (some false) else (spec_ViewOk.l0 k (wrap64 (x5 + 1)) x183000 x183001 x183002 x183003 x184000)))) else (some false)) else (if (x191002.size : Int) > 128 then (some false) else (spec_ViewOk.l0 k (wrap64 (x5 + 1)) x183000 x183001 x183002 x183003 x184000)))
end
def spec_ViewOk.f (k : Nat) (a0_0 : Int) (a0_1 : Int) (a0_2 : Int) (a0_3 : Int) (l1_0 : List (S75)) : Option (Bool) := (spec_GeoOk.f a0_0 a0_1 a0_2 a0_3).bind fun t184 => (if t184 = true then (if (l1_0.length : Int) ≥ a0_2 then (spec_ViewOk.j0 k true a0_0 a0_1 a0_2 a0_3 l1_0) else ((spec_KidsOf.f k l1_0 (⟨#[47]⟩ : ByteArray)).bind fun t185 => (spec_ViewOk.j0 k (decide ((t185.length : Int) > 6)) a0_0 a0_1 a0_2 a0_3 l1_0))) else (spec_ViewOk.j0 k true a0_0 a0_1 a0_2 a0_3 l1_0))
theorem spec_ViewOk.mono_l : ∀ k, (∀ y0 y1 y2 y3 y4 y5, LeO (spec_ViewOk.j0 k y0 y1 y2 y3 y4 y5) (spec_ViewOk.j0 (k + 1) y0 y1 y2 y3 y4 y5)) ∧ (∀ y0 y1 y2 y3 y4 y5, LeO (spec_ViewOk.l0 k y0 y1 y2 y3 y4 y5) (spec_ViewOk.l0 (k + 1) y0 y1 y2 y3 y4 y5)) ∧ (∀ y0 y1 y2 y3 y4 y5 y6 y7 y8 y9, LeO (spec_ViewOk.j2 k y0 y1 y2 y3 y4 y5 y6 y7 y8 y9) (spec_ViewOk.j2 (k + 1) y0 y1 y2 y3 y4 y5 y6 y7 y8 y9))
 | 0 => ⟨fun _ _ _ _ _ _ r h => by simp [spec_ViewOk.j0] at h, fun _ _ _ _ _ _ r h => by simp [spec_ViewOk.l0] at h, fun _ _ _ _ _ _ _ _ _ _ r h => by simp [spec_ViewOk.j2] at h⟩
 | k + 1 => by
  obtain ⟨ih0, ih1, ih2⟩ := spec_ViewOk.mono_l k
  refine ⟨?_, ?_, ?_⟩
  ·intro y0 y1 y2 y3 y4 y5
   unfold spec_ViewOk.j0
   repeat' first
   | (with_reducible exact ih0 _ _ _ _ _ _)
   | (with_reducible exact ih1 _ _ _ _ _ _)
   | (with_reducible exact ih2 _ _ _ _ _ _ _ _ _ _)
   | (with_reducible exact spec_ItemAt.mono _ _ _)
   | (with_reducible exact spec_KidsOf.mono _ _ _)
   | (with_reducible exact spec_PagesIn.mono _ _)
   | (with_reducible exact spec_ParentOf.mono _ _)
   | (with_reducible exact LeO.refl _)
   | (with_reducible exact LeO.none _)
   | (with_reducible refine LeO.ite ?_ ?_)
   | (with_reducible refine LeO.bind ?_ (fun _ => ?_))
   | exact ih0 _ _ _ _ _ _
   | exact ih1 _ _ _ _ _ _
   | exact ih2 _ _ _ _ _ _ _ _ _ _
   | exact spec_ItemAt.mono _ _ _
   | exact spec_KidsOf.mono _ _ _
   | exact spec_PagesIn.mono _ _
   | exact spec_ParentOf.mono _ _
   | exact LeO.none _
   | refine LeO.ite ?_ ?_
   | refine LeO.bind ?_ (fun _ => ?_)
  ·intro y0 y1 y2 y3 y4 y5
   unfold spec_ViewOk.l0
   repeat' first
   | (with_reducible exact ih0 _ _ _ _ _ _)
   | (with_reducible exact ih1 _ _ _ _ _ _)
   | (with_reducible exact ih2 _ _ _ _ _ _ _ _ _ _)
   | (with_reducible exact spec_ItemAt.mono _ _ _)
   | (with_reducible exact spec_KidsOf.mono _ _ _)
   | (with_reducible exact spec_PagesIn.mono _ _)
   | (with_reducible exact spec_ParentOf.mono _ _)
   | (with_reducible exact LeO.refl _)
   | (with_reducible exact LeO.none _)
   | (with_reducible refine LeO.ite ?_ ?_)
   | (with_reducible refine LeO.bind ?_ (fun _ => ?_))
   | exact ih0 _ _ _ _ _ _
   | exact ih1 _ _ _ _ _ _
   | exact ih2 _ _ _ _ _ _ _ _ _ _
   | exact spec_ItemAt.mono _ _ _
   | exact spec_KidsOf.mono _ _ _
   | exact spec_PagesIn.mono _ _
   | exact spec_ParentOf.mono _ _
   | exact LeO.none _
   | refine LeO.ite ?_ ?_
   | refine LeO.bind ?_ (fun _ => ?_)
  ·intro y0 y1 y2 y3 y4 y5 y6 y7 y8 y9
   unfold spec_ViewOk.j2
   repeat' first
   | (with_reducible exact ih0 _ _ _ _ _ _)
   | (with_reducible exact ih1 _ _ _ _ _ _)
   | (with_reducible exact ih2 _ _ _ _ _ _ _ _ _ _)
   | (with_reducible exact spec_ItemAt.mono _ _ _)
   | (with_reducible exact spec_KidsOf.mono _ _ _)
   | (with_reducible exact spec_PagesIn.mono _ _)
   | (with_reducible exact spec_ParentOf.mono _ _)
   | (with_reducible exact LeO.refl _)
   | (with_reducible exact LeO.none _)
   | (with_reducible refine LeO.ite ?_ ?_)
   | (with_reducible refine LeO.bind ?_ (fun _ => ?_))
   | exact ih0 _ _ _ _ _ _
   | exact ih1 _ _ _ _ _ _
   | exact ih2 _ _ _ _ _ _ _ _ _ _
   | exact spec_ItemAt.mono _ _ _
   | exact spec_KidsOf.mono _ _ _
   | exact spec_PagesIn.mono _ _
   | exact spec_ParentOf.mono _ _
   | exact LeO.none _
   | refine LeO.ite ?_ ?_
   | refine LeO.bind ?_ (fun _ => ?_)
theorem spec_ViewOk.mono : ∀ a0 a1 a2 a3 a4 k, LeO (spec_ViewOk.f k a0 a1 a2 a3 a4) (spec_ViewOk.f (k + 1) a0 a1 a2 a3 a4) := by
 intro a0 a1 a2 a3 a4 k
 obtain ⟨ih0, ih1, ih2⟩ := spec_ViewOk.mono_l k
 unfold spec_ViewOk.f
 repeat' first
   | (with_reducible exact ih0 _ _ _ _ _ _)
   | (with_reducible exact ih1 _ _ _ _ _ _)
   | (with_reducible exact ih2 _ _ _ _ _ _ _ _ _ _)
   | (with_reducible exact spec_ItemAt.mono _ _ _)
   | (with_reducible exact spec_KidsOf.mono _ _ _)
   | (with_reducible exact spec_PagesIn.mono _ _)
   | (with_reducible exact spec_ParentOf.mono _ _)
   | (with_reducible exact LeO.refl _)
   | (with_reducible exact LeO.none _)
   | (with_reducible refine LeO.ite ?_ ?_)
   | (with_reducible refine LeO.bind ?_ (fun _ => ?_))
   | exact ih0 _ _ _ _ _ _
   | exact ih1 _ _ _ _ _ _
   | exact ih2 _ _ _ _ _ _ _ _ _ _
   | exact spec_ItemAt.mono _ _ _
   | exact spec_KidsOf.mono _ _ _
   | exact spec_PagesIn.mono _ _
   | exact spec_ParentOf.mono _ _
   | exact LeO.none _
   | refine LeO.ite ?_ ?_
   | refine LeO.bind ?_ (fun _ => ?_)
def spec_ViewOk.T9 : Bool × List (List Nat × List Nat) := (true, [([], []), ([0], [0]), ([1], [1]), ([2], [2]), ([3, 2], [2, 3]), ([4, 2, 2], [2, 4]), ([5], [5]), ([6, 5], [5, 6]), ([7, 5, 5], [5, 7]), ([8], [8]), ([9, 8], [8, 9]), ([8], [8]), ([10, 11, 8], [8, 10, 11]), ([12, 8], [8, 12]), ([13, 8], [8, 13]), ([14, 8], [8, 14]), ([8, 15, 5], [5, 8, 15]), ([5, 16, 2], [2, 5, 16]), ([2, 17], [2, 17]), ([18, 8], [18]), ([19], [19]), ([20, 19], [19, 20]), ([21, 19, 19], [19, 21]), ([22], [22]), ([23, 22], [22, 23]), ([22], [22]), ([25, 22], [22, 25]), ([24, 26, 22], [22, 24, 26]), ([27, 22], [22, 27]), ([28, 22], [22, 28]), ([22], [22]), ([30, 22], [22, 30]), ([29, 31, 22], [22, 29, 31]), ([22, 32, 19], [19, 22, 32]), ([19, 33], [19, 33])])
def spec_ViewOk.B9 : List Nat := [0, 1, 3, 7, 15, 31, 63, 127, 255, 511, 1023, 511, 4095, 8191, 16383, 32767, 65535, 131071, 262143, 524287, 1048575, 2097151, 4194303, 8388607, 16777215, 8388607, 41943039, 134217727, 268435455, 536870911, 8388607, 1082130431, 4294967295, 8589934591, 17179869183]
theorem spec_ViewOk.tab9 : rtab .any (opsOf Tryd.f37 9) = spec_ViewOk.T9 := by kernel_rfl
theorem spec_ViewOk.bits9 : waitsOk spec_ViewOk.T9.2 spec_ViewOk.B9 = true := by kernel_rfl
set_option maxHeartbeats 8000000 in
set_option maxRecDepth 100000 in
theorem spec_ViewOk.calls (k : Nat) (a0_0 : Int) (a0_1 : Int) (a0_2 : Int) (a0_3 : Int) (A1_0 : Option Addr) (c1_0 : Nat) (l1_0 : List (S75)) (r : Bool) (w : World) (hr1_0 : Kd.C k75 w A1_0 l1_0.length l1_0) (hc1_0 : l1_0.length ≤ c1_0) (h : spec_ViewOk.f k a0_0 a0_1 a0_2 a0_3 l1_0 = some r) :
  Calls Tryd.prog 37 #[.agg #[.int .i64 a0_0, .int .i64 a0_1, .int .i64 a0_2, .int .i64 a0_3], .agg #[.slice A1_0 l1_0.length c1_0]] w fun e w' => e = .returned (.bool r) ∧ Below w.heap.size w w' := by
 have hu58 := Tryd.underlying58
 have hu37 := Tryd.underlying37
 have hu75 := Tryd.underlying75
 have HR1_0 := Aside0.mk hr1_0
 have HC1_0 := Aside0.mk hc1_0
 clear hr1_0 hc1_0
 have HB := Aside0.mk (Below.refl w.heap.size w)
 have H : ((spec_GeoOk.f a0_0 a0_1 a0_2 a0_3).bind fun t184 => (if t184 = true then (if (l1_0.length : Int) ≥ a0_2 then (spec_ViewOk.j0 k true a0_0 a0_1 a0_2 a0_3 l1_0) else ((spec_KidsOf.f k l1_0 (⟨#[47]⟩ : ByteArray)).bind fun t185 => (spec_ViewOk.j0 k (decide ((t185.length : Int) > 6)) a0_0 a0_1 a0_2 a0_3 l1_0))) else (spec_ViewOk.j0 k true a0_0 a0_1 a0_2 a0_3 l1_0))) = some r := h
 clear h
 have HC3 := Aside0.mk H
 clear H
 go_enter Tryd.func37, Tryd.ntmps37
 go_upto_region 1 with (first | ((with_reducible refine gate_dst (N := 2) rfl ?_); (try (refine gate_guard (by rfl) ?_; dsimp only)); refine box_event ?hg (N := 2) ?hd (cs := #[.int .i64 a0_0, .int .i64 a0_1, .int .i64 a0_2, .int .i64 a0_3]) (t := 58) ?hr ?_; (case hd => rfl); (case hg => rfl); (case hr => first | (go_simp; done) | (go_simp; rfl)); intro gb182 hg w4 hbox hb; have n0_ := Aside0.mk (below_step tq_0 hb); have n1_ := Aside0.mk (hbox); have n2_ := Aside0.mk ((by rw [hg]; exact (below_size tq_0) : w.heap.size ≤ gb182)); have n3_ := Aside0.mk ((by rw [hg]; exact (below_size tq_0) : w.heap.size ≤ gb182)); clear HB; have HB := n0_; have BK182 := n1_; have GW182 := n2_; have GE182 := n3_; clear n0_ n1_ n2_ n3_; clear hb hbox hg) | ((with_reducible refine gate_dst (N := 3) rfl ?_); (try (refine gate_guard (by rfl) ?_; dsimp only)); refine box_event ?hg (N := 3) ?hd (cs := #[.slice A1_0 l1_0.length c1_0]) (t := 37) ?hr ?_; (case hd => rfl); (case hg => rfl); (case hr => first | (go_simp; done) | (go_simp; rfl)); intro gb183 hg w5 hbox hb; have n0_ := Aside0.mk (blk_below (g := gb182) (o := .cells #[.int .i64 a0_0, .int .i64 a0_1, .int .i64 a0_2, .int .i64 a0_3] 58 (0, 0)) tq_16 hb); have n1_ := Aside0.mk (below_step tq_51 hb); have n2_ := Aside0.mk (hbox); have n3_ := Aside0.mk ((by rw [hg]; exact (below_size tq_51) : w.heap.size ≤ gb183)); have n4_ := Aside0.mk ((by rw [hg]; exact (below_size tq_51) : w.heap.size ≤ gb183)); have n5_ := Aside0.mk ((by rw [hg]; exact Nat.ne_of_lt (blk_lt (g := gb182) (o := .cells #[.int .i64 a0_0, .int .i64 a0_1, .int .i64 a0_2, .int .i64 a0_3] 58 (0, 0)) tq_16) : gb182 ≠ gb183)); have n6_ := Aside0.mk ((by rw [hg]; exact Nat.ne_of_gt (blk_lt (g := gb182) (o := .cells #[.int .i64 a0_0, .int .i64 a0_1, .int .i64 a0_2, .int .i64 a0_3] 58 (0, 0)) tq_16) : gb183 ≠ gb182)); clear BK182; clear HB; have BK182 := n0_; have HB := n1_; have BK183 := n2_; have GW183 := n3_; have GE183 := n4_; have NB182_183 := n5_; have NB183_182 := n6_; clear n0_ n1_ n2_ n3_ n4_ n5_ n6_; clear hb hbox hg))
 (try simp only [Act.put, List.setIfInBounds_toArray, List.set_cons_zero, List.set_cons_succ])
 go_cut [25] (fun v25 wc => ∃ (kq : Nat) (x25_2 : Bool), v25 = .bool x25_2 ∧ Aside0 (spec_ViewOk.j0 kq x25_2 a0_0 a0_1 a0_2 a0_3 l1_0 = some r) ∧ Aside0 (kq ≤ k) ∧ Aside0 (wc.heap[gb182]? = some (.cells #[.int .i64 a0_0, .int .i64 a0_1, .int .i64 a0_2, .int .i64 a0_3] 58 (0, 0))) ∧ Aside0 (wc.heap[gb183]? = some (.cells #[(.slice A1_0 l1_0.length c1_0)] 37 (0, 0))) ∧ Aside0 (Below w.heap.size w wc))
 case first =>
  have H := HC3.out
  clear HC3
  replace H := Option.bind_eq_some_iff.mp H
  obtain ⟨t184, A60, H⟩ := H
  replace H : (if t184 = true then (if (l1_0.length : Int) ≥ a0_2 then (spec_ViewOk.j0 k true a0_0 a0_1 a0_2 a0_3 l1_0) else ((spec_KidsOf.f k l1_0 (⟨#[47]⟩ : ByteArray)).bind fun t185 => (spec_ViewOk.j0 k (decide ((t185.length : Int) > 6)) a0_0 a0_1 a0_2 a0_3 l1_0))) else (spec_ViewOk.j0 k true a0_0 a0_1 a0_2 a0_3 l1_0)) = some r := H
  have A6 := Aside0.mk A60
  clear A60
  by_cases c7 : t184 = true
  ·subst c7
   have H1 : (if (l1_0.length : Int) ≥ a0_2 then (spec_ViewOk.j0 k true a0_0 a0_1 a0_2 a0_3 l1_0) else ((spec_KidsOf.f k l1_0 (⟨#[47]⟩ : ByteArray)).bind fun t185 => (spec_ViewOk.j0 k (decide ((t185.length : Int) > 6)) a0_0 a0_1 a0_2 a0_3 l1_0))) = some r := by rw [if_pos rfl] at H; exact H
   clear H
   have H := H1
   clear H1
   by_cases c8 : (l1_0.length : Int) ≥ a0_2
   ·rw [if_pos c8] at H
    have c8b0 : decide (a0_2 ≤ (l1_0.length : Int)) = true := decide_eq_true c8
    clear c8
    (first | rw [c8b0] | (simp only [i64_w, i32_w]; rw [c8b0]) | skip)
    have H' := Aside0.mk H
    clear H
    have hnb9 := NB182_183.out
    have hnc9 := NB183_182.out
    have hcz10_0 : w5.cell? ⟨gb182, 0, none⟩ = some (.int .i64 a0_0) := (blk_cell BK182.out 0).trans rfl
    have hcz10_1 : w5.cell? ⟨gb182, 1, none⟩ = some (.int .i64 a0_1) := (blk_cell BK182.out 1).trans rfl
    have hcz10_2 : w5.cell? ⟨gb182, 2, none⟩ = some (.int .i64 a0_2) := (blk_cell BK182.out 2).trans rfl
    have hcz10_3 : w5.cell? ⟨gb182, 3, none⟩ = some (.int .i64 a0_3) := (blk_cell BK182.out 3).trans rfl
    have hfz10_0 := blk_frozen BK182.out 0
    have hfz10_1 := blk_frozen BK182.out 1
    have hfz10_2 := blk_frozen BK182.out 2
    have hfz10_3 := blk_frozen BK182.out 3
    go_wp2_with (first | ((with_reducible refine gate_callee (f := 75) rfl ?_); refine goesL_ (some 10) rfl rfl Tryd.func75 (by kernel_rfl) rfl #[.agg #[.int .i64 a0_0, .int .i64 a0_1, .int .i64 a0_2, .int .i64 a0_3]] rfl tq_1 ?_; (with_reducible refine (spec_GeoOk.calls a0_0 a0_1 a0_2 a0_3 true _ A6.out).mono ?_); rintro e w11 ⟨rfl, hb⟩; refine ⟨_, rfl, ?_⟩; have n0_ := Aside0.mk (blk_below (g := gb182) (o := .cells #[.int .i64 a0_0, .int .i64 a0_1, .int .i64 a0_2, .int .i64 a0_3] 58 (0, 0)) tq_16 hb); have n1_ := Aside0.mk (blk_below (g := gb183) (o := .cells #[.slice A1_0 l1_0.length c1_0] 37 (0, 0)) tq_21 hb); have n2_ := Aside0.mk (below_step tq_18 hb); clear BK182; clear BK183; clear HB; have BK182 := n0_; have BK183 := n1_; have HB := n2_; clear n0_ n1_ n2_; (try clear hb); (try clear hb2); (try clear hk); (try clear hi); have hcz12_0 : w11.cell? ⟨gb183, 0, none⟩ = some (.slice A1_0 l1_0.length c1_0) := (blk_cell BK183.out 0).trans rfl; have hfz12_0 := blk_frozen BK183.out 0; have hcz13_0 : w11.cell? ⟨gb182, 0, none⟩ = some (.int .i64 a0_0) := (blk_cell BK182.out 0).trans rfl; have hcz13_1 : w11.cell? ⟨gb182, 1, none⟩ = some (.int .i64 a0_1) := (blk_cell BK182.out 1).trans rfl; have hcz13_2 : w11.cell? ⟨gb182, 2, none⟩ = some (.int .i64 a0_2) := (blk_cell BK182.out 2).trans rfl; have hcz13_3 : w11.cell? ⟨gb182, 3, none⟩ = some (.int .i64 a0_3) := (blk_cell BK182.out 3).trans rfl; have hfz13_0 := blk_frozen BK182.out 0; have hfz13_1 := blk_frozen BK182.out 1; have hfz13_2 := blk_frozen BK182.out 2; have hfz13_3 := blk_frozen BK182.out 3))
    go_meet
    case rel => exact ⟨_, (true), tq_8, H', ⟨by first | omega | exact Nat.le_refl _⟩, ⟨by (with_reducible repeat (first | refine blk_drewN ?_ _ | refine blk_drew ?_ | refine blk_alloc ?_ _)); exact BK182.out⟩, ⟨by (with_reducible repeat (first | refine blk_drewN ?_ _ | refine blk_drew ?_ | refine blk_alloc ?_ _)); exact BK183.out⟩, ⟨by repeat (first | (with_reducible first | exact HB.out | apply below_alloc | apply pw_below_drewN | apply below_drew1 | refine below_set ?_ GE182.out | refine below_set ?_ GE183.out) | exact HB.out)⟩⟩
   ·rw [if_neg c8] at H
    have c8b0 : decide (a0_2 ≤ (l1_0.length : Int)) = false := decide_eq_false c8
    clear c8
    (first | rw [c8b0] | (simp only [i64_w, i32_w]; rw [c8b0]) | skip)
    replace H := Option.bind_eq_some_iff.mp H
    obtain ⟨t185, A140, H⟩ := H
    replace H : (spec_ViewOk.j0 k (decide ((t185.length : Int) > 6)) a0_0 a0_1 a0_2 a0_3 l1_0) = some r := H
    have A14 := Aside0.mk A140
    clear A140
    have H' := Aside0.mk H
    clear H
    have hnb15 := NB182_183.out
    have hnc15 := NB183_182.out
    have hcz16_0 : w5.cell? ⟨gb182, 0, none⟩ = some (.int .i64 a0_0) := (blk_cell BK182.out 0).trans rfl
    have hcz16_1 : w5.cell? ⟨gb182, 1, none⟩ = some (.int .i64 a0_1) := (blk_cell BK182.out 1).trans rfl
    have hcz16_2 : w5.cell? ⟨gb182, 2, none⟩ = some (.int .i64 a0_2) := (blk_cell BK182.out 2).trans rfl
    have hcz16_3 : w5.cell? ⟨gb182, 3, none⟩ = some (.int .i64 a0_3) := (blk_cell BK182.out 3).trans rfl
    have hfz16_0 := blk_frozen BK182.out 0
    have hfz16_1 := blk_frozen BK182.out 1
    have hfz16_2 := blk_frozen BK182.out 2
    have hfz16_3 := blk_frozen BK182.out 3
    go_wp2_with (first | ((with_reducible refine gate_callee (f := 75) rfl ?_); refine goesL_ (some 10) rfl rfl Tryd.func75 (by kernel_rfl) rfl #[.agg #[.int .i64 a0_0, .int .i64 a0_1, .int .i64 a0_2, .int .i64 a0_3]] rfl tq_1 ?_; (with_reducible refine (spec_GeoOk.calls a0_0 a0_1 a0_2 a0_3 true _ A6.out).mono ?_); rintro e w17 ⟨rfl, hb⟩; refine ⟨_, rfl, ?_⟩; have n0_ := Aside0.mk (blk_below (g := gb182) (o := .cells #[.int .i64 a0_0, .int .i64 a0_1, .int .i64 a0_2, .int .i64 a0_3] 58 (0, 0)) tq_16 hb); have n1_ := Aside0.mk (blk_below (g := gb183) (o := .cells #[.slice A1_0 l1_0.length c1_0] 37 (0, 0)) tq_21 hb); have n2_ := Aside0.mk (below_step tq_18 hb); clear BK182; clear BK183; clear HB; have BK182 := n0_; have BK183 := n1_; have HB := n2_; clear n0_ n1_ n2_; (try clear hb); (try clear hb2); (try clear hk); (try clear hi); have hcz18_0 : w17.cell? ⟨gb183, 0, none⟩ = some (.slice A1_0 l1_0.length c1_0) := (blk_cell BK183.out 0).trans rfl; have hfz18_0 := blk_frozen BK183.out 0; have hcz19_0 : w17.cell? ⟨gb182, 0, none⟩ = some (.int .i64 a0_0) := (blk_cell BK182.out 0).trans rfl; have hcz19_1 : w17.cell? ⟨gb182, 1, none⟩ = some (.int .i64 a0_1) := (blk_cell BK182.out 1).trans rfl; have hcz19_2 : w17.cell? ⟨gb182, 2, none⟩ = some (.int .i64 a0_2) := (blk_cell BK182.out 2).trans rfl; have hcz19_3 : w17.cell? ⟨gb182, 3, none⟩ = some (.int .i64 a0_3) := (blk_cell BK182.out 3).trans rfl; have hfz19_0 := blk_frozen BK182.out 0; have hfz19_1 := blk_frozen BK182.out 1; have hfz19_2 := blk_frozen BK182.out 2; have hfz19_3 := blk_frozen BK182.out 3) | (go_at_call 29; (with_reducible refine (spec_KidsOf.calls k _ _ l1_0 (⟨#[47]⟩ : ByteArray) t185 _ ?side1 ?side2 A14.out).mono ?_); (case side1 => exact tq_4); (case side2 => exact HC1_0.out); rintro e w20 ⟨v186, rfl, ho0, hb⟩; have n0_ := Aside0.mk (Kd.R_lower ho0 (below_size tq_18)); have n1_ := Aside0.mk (blk_below (g := gb182) (o := .cells #[.int .i64 a0_0, .int .i64 a0_1, .int .i64 a0_2, .int .i64 a0_3] 58 (0, 0)) tq_16 hb); have n2_ := Aside0.mk (blk_below (g := gb183) (o := .cells #[.slice A1_0 l1_0.length c1_0] 37 (0, 0)) tq_21 hb); have n3_ := Aside0.mk (below_step tq_18 hb); clear BK182; clear BK183; clear HB; have HO187 := n0_; have BK182 := n1_; have BK183 := n2_; have HB := n3_; clear n0_ n1_ n2_ n3_; (try clear hb); (try clear hb2); (try clear hk); (try clear hi); (try clear ho0); obtain ⟨Ao21, co21, eo21⟩ := Kd.R_slice HO187.out; subst eo21))
    go_meet
    case rel => exact ⟨_, (decide ((t185.length : Int) > 6)), tq_8, H', ⟨by first | omega | exact Nat.le_refl _⟩, ⟨by (with_reducible repeat (first | refine blk_drewN ?_ _ | refine blk_drew ?_ | refine blk_alloc ?_ _)); exact BK182.out⟩, ⟨by (with_reducible repeat (first | refine blk_drewN ?_ _ | refine blk_drew ?_ | refine blk_alloc ?_ _)); exact BK183.out⟩, ⟨by repeat (first | (with_reducible first | exact HB.out | apply below_alloc | apply pw_below_drewN | apply below_drew1 | refine below_set ?_ GE182.out | refine below_set ?_ GE183.out) | exact HB.out)⟩⟩
  ·replace c7 := Bool.eq_false_iff.mpr c7
   subst c7
   have H1 : (spec_ViewOk.j0 k true a0_0 a0_1 a0_2 a0_3 l1_0) = some r := by rw [if_neg (show ¬ (false = true) by decide)] at H; exact H
   clear H
   have H := H1
   clear H1
   have H' := Aside0.mk H
   clear H
   have hnb22 := NB182_183.out
   have hnc22 := NB183_182.out
   have hcz23_0 : w5.cell? ⟨gb182, 0, none⟩ = some (.int .i64 a0_0) := (blk_cell BK182.out 0).trans rfl
   have hcz23_1 : w5.cell? ⟨gb182, 1, none⟩ = some (.int .i64 a0_1) := (blk_cell BK182.out 1).trans rfl
   have hcz23_2 : w5.cell? ⟨gb182, 2, none⟩ = some (.int .i64 a0_2) := (blk_cell BK182.out 2).trans rfl
   have hcz23_3 : w5.cell? ⟨gb182, 3, none⟩ = some (.int .i64 a0_3) := (blk_cell BK182.out 3).trans rfl
   have hfz23_0 := blk_frozen BK182.out 0
   have hfz23_1 := blk_frozen BK182.out 1
   have hfz23_2 := blk_frozen BK182.out 2
   have hfz23_3 := blk_frozen BK182.out 3
   go_wp2_with (first | ((with_reducible refine gate_callee (f := 75) rfl ?_); refine goesL_ (some 10) rfl rfl Tryd.func75 (by kernel_rfl) rfl #[.agg #[.int .i64 a0_0, .int .i64 a0_1, .int .i64 a0_2, .int .i64 a0_3]] rfl tq_1 ?_; (with_reducible refine (spec_GeoOk.calls a0_0 a0_1 a0_2 a0_3 false _ A6.out).mono ?_); rintro e w24 ⟨rfl, hb⟩; refine ⟨_, rfl, ?_⟩; have n0_ := Aside0.mk (blk_below (g := gb182) (o := .cells #[.int .i64 a0_0, .int .i64 a0_1, .int .i64 a0_2, .int .i64 a0_3] 58 (0, 0)) tq_16 hb); have n1_ := Aside0.mk (blk_below (g := gb183) (o := .cells #[.slice A1_0 l1_0.length c1_0] 37 (0, 0)) tq_21 hb); have n2_ := Aside0.mk (below_step tq_18 hb); clear BK182; clear BK183; clear HB; have BK182 := n0_; have BK183 := n1_; have HB := n2_; clear n0_ n1_ n2_; (try clear hb); (try clear hb2); (try clear hk); (try clear hi)))
   go_meet
   case rel => exact ⟨_, (true), tq_8, H', ⟨by first | omega | exact Nat.le_refl _⟩, ⟨by (with_reducible repeat (first | refine blk_drewN ?_ _ | refine blk_drew ?_ | refine blk_alloc ?_ _)); exact BK182.out⟩, ⟨by (with_reducible repeat (first | refine blk_drewN ?_ _ | refine blk_drew ?_ | refine blk_alloc ?_ _)); exact BK183.out⟩, ⟨by repeat (first | (with_reducible first | exact HB.out | apply below_alloc | apply pw_below_drewN | apply below_drew1 | refine below_set ?_ GE182.out | refine below_set ?_ GE183.out) | exact HB.out)⟩⟩
 case rest =>
  clear HC3
  try clear c1
  try clear c2
  try clear p2
  try clear c3
  try clear c7
  try clear c8
  try clear c8b0
  try clear c9
  try clear c15
  try clear c22
  try clear hcz10_0
  try clear hcz10_1
  try clear hcz10_2
  try clear hcz10_3
  try clear hcz12_0
  try clear hcz13_0
  try clear hcz13_1
  try clear hcz13_2
  try clear hcz13_3
  try clear hcz16_0
  try clear hcz16_1
  try clear hcz16_2
  try clear hcz16_3
  try clear hcz18_0
  try clear hcz19_0
  try clear hcz19_1
  try clear hcz19_2
  try clear hcz19_3
  try clear hcz23_0
  try clear hcz23_1
  try clear hcz23_2
  try clear hcz23_3
  try clear hfz10_0
  try clear hfz10_1
  try clear hfz10_2
  try clear hfz10_3
  try clear hfz12_0
  try clear hfz13_0
  try clear hfz13_1
  try clear hfz13_2
  try clear hfz13_3
  try clear hfz16_0
  try clear hfz16_1
  try clear hfz16_2
  try clear hfz16_3
  try clear hfz18_0
  try clear hfz19_0
  try clear hfz19_1
  try clear hfz19_2
  try clear hfz19_3
  try clear hfz23_0
  try clear hfz23_1
  try clear hfz23_2
  try clear hfz23_3
  obtain ⟨kq, x25_2, rfl, HA, HJ2, BK182, BK183, HB⟩ := hcut
  cases kq with
  | zero => exact absurd HA.out (by simp [spec_ViewOk.j0])
  | succ kj2 =>
   have H := HA.out
   clear HA
   simp only [spec_ViewOk.j0] at H
   by_cases c25 : x25_2 = true
   ·subst c25
    have H1 : (some false) = some r := by rw [if_pos rfl] at H; exact H
    clear H
    have H := H1
    clear H1
    obtain rfl := Option.some.inj H
    go_wp2
    go_ret
    exact ⟨by first | rfl | (simp [errW_none, errW_some] <;> rfl) | (simp [*, errW_none, errW_some] <;> rfl), by repeat (first | (with_reducible first | exact HB.out | apply below_alloc | apply pw_below_drewN | apply below_drew1 | refine below_set ?_ GE182.out | refine below_set ?_ GE183.out) | exact HB.out)⟩
   ·replace c25 := Bool.eq_false_iff.mpr c25
    subst c25
    have H1 : (spec_ViewOk.l0 kj2 0 a0_0 a0_1 a0_2 a0_3 l1_0) = some r := by rw [if_neg (show ¬ (false = true) by decide)] at H; exact H
    clear H
    have H := H1
    clear H1
    have H' := Aside0.mk H
    clear H
    go_wp2
    go_loopg [5] kj2 (fun kq v5 w' => ∃ (x5_2 : Int), v5 = .int .i64 x5_2 ∧ Aside0 (spec_ViewOk.l0 kq x5_2 a0_0 a0_1 a0_2 a0_3 l1_0 = some r) ∧ Aside0 (kq ≤ kj2) ∧ Aside0 (w'.heap[gb182]? = some (.cells #[.int .i64 a0_0, .int .i64 a0_1, .int .i64 a0_2, .int .i64 a0_3] 58 (0, 0))) ∧ Aside0 (w'.heap[gb183]? = some (.cells #[(.slice A1_0 l1_0.length c1_0)] 37 (0, 0))) ∧ Aside0 (Below w.heap.size w w'))
    case atStart => exact ⟨(0), tq_8, H', ⟨Nat.le_refl _⟩, ⟨by (with_reducible repeat (first | refine blk_drewN ?_ _ | refine blk_drew ?_ | refine blk_alloc ?_ _)); exact BK182.out⟩, ⟨by (with_reducible repeat (first | refine blk_drewN ?_ _ | refine blk_drew ?_ | refine blk_alloc ?_ _)); exact BK183.out⟩, ⟨by repeat (first | (with_reducible first | exact HB.out | apply below_alloc | apply pw_below_drewN | apply below_drew1 | refine below_set ?_ GE182.out | refine below_set ?_ GE183.out) | exact HB.out)⟩⟩
    case round =>
     clear H'
     try clear c1
     try clear c2
     try clear p2
     try clear c3
     try clear c7
     try clear c8
     try clear c8b0
     try clear c9
     try clear c15
     try clear c22
     try clear c25
     try clear hcz10_0
     try clear hcz10_1
     try clear hcz10_2
     try clear hcz10_3
     try clear hcz12_0
     try clear hcz13_0
     try clear hcz13_1
     try clear hcz13_2
     try clear hcz13_3
     try clear hcz16_0
     try clear hcz16_1
     try clear hcz16_2
     try clear hcz16_3
     try clear hcz18_0
     try clear hcz19_0
     try clear hcz19_1
     try clear hcz19_2
     try clear hcz19_3
     try clear hcz23_0
     try clear hcz23_1
     try clear hcz23_2
     try clear hcz23_3
     try clear hfz10_0
     try clear hfz10_1
     try clear hfz10_2
     try clear hfz10_3
     try clear hfz12_0
     try clear hfz13_0
     try clear hfz13_1
     try clear hfz13_2
     try clear hfz13_3
     try clear hfz16_0
     try clear hfz16_1
     try clear hfz16_2
     try clear hfz16_3
     try clear hfz18_0
     try clear hfz19_0
     try clear hfz19_1
     try clear hfz19_2
     try clear hfz19_3
     try clear hfz23_0
     try clear hfz23_1
     try clear hfz23_2
     try clear hfz23_3
     try clear p2
     obtain ⟨x5_2, rfl, HA, HK2, BK182, BK183, HB⟩ := hrel
     cases gk with
     | zero => exact absurd HA.out (by simp [spec_ViewOk.l0])
     | succ k2 =>
      have H := HA.out
      clear HA
      simp only [spec_ViewOk.l0] at H
      by_cases c26 : x5_2 < (l1_0.length : Int)
      ·rw [if_pos c26] at H
       have c26b0 : decide (x5_2 < (l1_0.length : Int)) = true := decide_eq_true c26
       clear c26
       by_cases c27 : 0 ≤ x5_2
       ·rw [if_pos c27] at H
        have c27b0 : decide (0 ≤ x5_2) = true := decide_eq_true c27
        clear c27
        replace H := Option.bind_eq_some_iff.mp H
        obtain ⟨t191, A280, H⟩ := H
        replace H : ((spec_ItemAt.f k2 l1_0 t191).bind fun t192 => (if t191.toList = ([] : List UInt8) then (spec_ViewOk.j2 k2 x5_2 true a0_0 a0_1 a0_2 a0_3 l1_0 ((rd_T75 l1_0 x5_2).f0) ((rd_T75 l1_0 x5_2).f1) ((rd_T75 l1_0 x5_2).f2)) else (if t191.toList = ([47] : List UInt8) then (if x5_2 > 0 then (if 0 ≤ (wrap64 (x5_2 - 1)) then (if (wrap64 (x5_2 - 1)) < (l1_0.length : Int) then (spec_ViewOk.j2 k2 x5_2 (!(Op.bytesLess (((rd_T75 l1_0 (wrap64 (x5_2 - 1))).f0).toList) (((rd_T75 l1_0 x5_2).f0).toList))) a0_0 a0_1 a0_2 a0_3 l1_0 ((rd_T75 l1_0 x5_2).f0) ((rd_T75 l1_0 x5_2).f1) ((rd_T75 l1_0 x5_2).f2)) else (none)) else (none)) else (spec_ViewOk.j2 k2 x5_2 false a0_0 a0_1 a0_2 a0_3 l1_0 ((rd_T75 l1_0 x5_2).f0) ((rd_T75 l1_0 x5_2).f1) ((rd_T75 l1_0 x5_2).f2))) else (if t192 < 0 then (spec_ViewOk.j2 k2 x5_2 true a0_0 a0_1 a0_2 a0_3 l1_0 ((rd_T75 l1_0 x5_2).f0) ((rd_T75 l1_0 x5_2).f1) ((rd_T75 l1_0 x5_2).f2)) else (if 0 ≤ t192 then (if t192 < (l1_0.length : Int) then (if ((rd_T75 l1_0 t192).f1 = true) then (if x5_2 > 0 then (if 0 ≤ (wrap64 (x5_2 - 1)) then (if (wrap64 (x5_2 - 1)) < (l1_0.length : Int) then (spec_ViewOk.j2 k2 x5_2 (!(Op.bytesLess (((rd_T75 l1_0 (wrap64 (x5_2 - 1))).f0).toList) (((rd_T75 l1_0 x5_2).f0).toList))) a0_0 a0_1 a0_2 a0_3 l1_0 ((rd_T75 l1_0 x5_2).f0) ((rd_T75 l1_0 x5_2).f1) ((rd_T75 l1_0 x5_2).f2)) else (none)) else (none)) else (spec_ViewOk.j2 k2 x5_2 false a0_0 a0_1 a0_2 a0_3 l1_0 ((rd_T75 l1_0 x5_2).f0) ((rd_T75 l1_0 x5_2).f1) ((rd_T75 l1_0 x5_2).f2))) else (spec_ViewOk.j2 k2 x5_2 true a0_0 a0_1 a0_2 a0_3 l1_0 ((rd_T75 l1_0 x5_2).f0) ((rd_T75 l1_0 x5_2).f1) ((rd_T75 l1_0 x5_2).f2))) else (none)) else (none)))))) = some r := H
        have A28 := Aside0.mk A280
        clear A280
        replace H := Option.bind_eq_some_iff.mp H
        obtain ⟨t192, A290, H⟩ := H
        replace H : (if t191.toList = ([] : List UInt8) then (spec_ViewOk.j2 k2 x5_2 true a0_0 a0_1 a0_2 a0_3 l1_0 ((rd_T75 l1_0 x5_2).f0) ((rd_T75 l1_0 x5_2).f1) ((rd_T75 l1_0 x5_2).f2)) else (if t191.toList = ([47] : List UInt8) then (if x5_2 > 0 then (if 0 ≤ (wrap64 (x5_2 - 1)) then (if (wrap64 (x5_2 - 1)) < (l1_0.length : Int) then (spec_ViewOk.j2 k2 x5_2 (!(Op.bytesLess (((rd_T75 l1_0 (wrap64 (x5_2 - 1))).f0).toList) (((rd_T75 l1_0 x5_2).f0).toList))) a0_0 a0_1 a0_2 a0_3 l1_0 ((rd_T75 l1_0 x5_2).f0) ((rd_T75 l1_0 x5_2).f1) ((rd_T75 l1_0 x5_2).f2)) else (none)) else (none)) else (spec_ViewOk.j2 k2 x5_2 false a0_0 a0_1 a0_2 a0_3 l1_0 ((rd_T75 l1_0 x5_2).f0) ((rd_T75 l1_0 x5_2).f1) ((rd_T75 l1_0 x5_2).f2))) else (if t192 < 0 then (spec_ViewOk.j2 k2 x5_2 true a0_0 a0_1 a0_2 a0_3 l1_0 ((rd_T75 l1_0 x5_2).f0) ((rd_T75 l1_0 x5_2).f1) ((rd_T75 l1_0 x5_2).f2)) else (if 0 ≤ t192 then (if t192 < (l1_0.length : Int) then (if ((rd_T75 l1_0 t192).f1 = true) then (if x5_2 > 0 then (if 0 ≤ (wrap64 (x5_2 - 1)) then (if (wrap64 (x5_2 - 1)) < (l1_0.length : Int) then (spec_ViewOk.j2 k2 x5_2 (!(Op.bytesLess (((rd_T75 l1_0 (wrap64 (x5_2 - 1))).f0).toList) (((rd_T75 l1_0 x5_2).f0).toList))) a0_0 a0_1 a0_2 a0_3 l1_0 ((rd_T75 l1_0 x5_2).f0) ((rd_T75 l1_0 x5_2).f1) ((rd_T75 l1_0 x5_2).f2)) else (none)) else (none)) else (spec_ViewOk.j2 k2 x5_2 false a0_0 a0_1 a0_2 a0_3 l1_0 ((rd_T75 l1_0 x5_2).f0) ((rd_T75 l1_0 x5_2).f1) ((rd_T75 l1_0 x5_2).f2))) else (spec_ViewOk.j2 k2 x5_2 true a0_0 a0_1 a0_2 a0_3 l1_0 ((rd_T75 l1_0 x5_2).f0) ((rd_T75 l1_0 x5_2).f1) ((rd_T75 l1_0 x5_2).f2))) else (none)) else (none))))) = some r := H
        have A29 := Aside0.mk A290
        clear A290
        have HC30 := Aside0.mk H
        clear H
        have hnb31 := NB183_182.out
        have hnc31 := NB182_183.out
        have hcz32_0 : wr.cell? ⟨gb183, 0, none⟩ = some (.slice A1_0 l1_0.length c1_0) := (blk_cell BK183.out 0).trans rfl
        have hfz32_0 := blk_frozen BK183.out 0
        have p189 : 0 ≤ (x5_2 : Int) := of_decide_eq_true tq_6
        have q189 : x5_2 < (l1_0.length : Int) := of_decide_eq_true tq_6
        obtain ⟨ad189, e189, hx189_0, hx189_1, hx189_2⟩ := at_T75 HR1_0.out x5_2 p189 q189
        cases e189
        replace hx189_0 := (HB.out.cell (World.block_lt_of_cell? w _ hx189_0)).trans hx189_0
        replace hx189_1 := (HB.out.cell (World.block_lt_of_cell? w _ hx189_1)).trans hx189_1
        replace hx189_2 := (HB.out.cell (World.block_lt_of_cell? w _ hx189_2)).trans hx189_2
        replace p189 := eq_true p189
        replace q189 := eq_true q189
        go_upto_region 9 with (first | ((with_reducible refine gate_dst (N := 6) rfl ?_); (try (refine gate_guard (by rfl) ?_; dsimp only)); refine box_event ?hg (N := 6) ?hd (cs := #[.string (⟨#[]⟩ : ByteArray), .bool false, .string (⟨#[]⟩ : ByteArray)]) (t := 75) ?hr ?_; (case hd => rfl); (case hg => rfl); (case hr => first | (go_simp; done) | (go_simp; rfl)); intro gb190 hg w33 hbox hb; have n0_ := Aside0.mk (blk_below (g := gb182) (o := .cells #[.int .i64 a0_0, .int .i64 a0_1, .int .i64 a0_2, .int .i64 a0_3] 58 (0, 0)) tq_16 hb); have n1_ := Aside0.mk (blk_below (g := gb183) (o := .cells #[.slice (some ad189) l1_0.length c1_0] 37 (0, 0)) tq_21 hb); have n2_ := Aside0.mk (below_step tq_18 hb); have n3_ := Aside0.mk (hbox); have n4_ := Aside0.mk ((by rw [hg]; exact (below_size tq_18) : w.heap.size ≤ gb190)); have n5_ := Aside0.mk ((by rw [hg]; exact (below_size tq_18) : w.heap.size ≤ gb190)); have n6_ := Aside0.mk ((by rw [hg]; exact Nat.ne_of_lt (blk_lt (g := gb182) (o := .cells #[.int .i64 a0_0, .int .i64 a0_1, .int .i64 a0_2, .int .i64 a0_3] 58 (0, 0)) tq_16) : gb182 ≠ gb190)); have n7_ := Aside0.mk ((by rw [hg]; exact Nat.ne_of_gt (blk_lt (g := gb182) (o := .cells #[.int .i64 a0_0, .int .i64 a0_1, .int .i64 a0_2, .int .i64 a0_3] 58 (0, 0)) tq_16) : gb190 ≠ gb182)); have n8_ := Aside0.mk ((by rw [hg]; exact Nat.ne_of_lt (blk_lt (g := gb183) (o := .cells #[.slice (some ad189) l1_0.length c1_0] 37 (0, 0)) tq_21) : gb183 ≠ gb190)); have n9_ := Aside0.mk ((by rw [hg]; exact Nat.ne_of_gt (blk_lt (g := gb183) (o := .cells #[.slice (some ad189) l1_0.length c1_0] 37 (0, 0)) tq_21) : gb190 ≠ gb183)); clear BK182; clear BK183; clear HB; have BK182 := n0_; have BK183 := n1_; have HB := n2_; have BK190 := n3_; have GW190 := n4_; have GE190 := n5_; have NB182_190 := n6_; have NB190_182 := n7_; have NB183_190 := n8_; have NB190_183 := n9_; clear n0_ n1_ n2_ n3_ n4_ n5_ n6_ n7_ n8_ n9_; clear hb hbox hg; have hnb34 := NB190_182.out; have hnc34 := NB182_190.out; have hnb35 := NB190_183.out; have hnc35 := NB183_190.out; have hcz36_0 : w33.cell? ⟨gb190, 0, none⟩ = some (.string (⟨#[]⟩ : ByteArray)) := (blk_cell BK190.out 0).trans rfl; have hcz36_1 : w33.cell? ⟨gb190, 1, none⟩ = some (.bool false) := (blk_cell BK190.out 1).trans rfl; have hcz36_2 : w33.cell? ⟨gb190, 2, none⟩ = some (.string (⟨#[]⟩ : ByteArray)) := (blk_cell BK190.out 2).trans rfl; have hfz36_0 := blk_frozen BK190.out 0; have hfz36_1 := blk_frozen BK190.out 1; have hfz36_2 := blk_frozen BK190.out 2) | ((with_reducible refine gate_callee (f := 22) rfl ?_); refine goesL_ (some 40) rfl rfl Tryd.func22 (by kernel_rfl) rfl #[.string ((rd_T75 l1_0 x5_2).f0)] rfl tq_1 ?_; (with_reducible refine (spec_ParentOf.calls k2 ((rd_T75 l1_0 x5_2).f0) t191 _ A28.out).mono ?_); rintro e w37 ⟨rfl, hb⟩; refine ⟨_, rfl, ?_⟩; have n0_ := Aside0.mk (blk_below (g := gb182) (o := .cells #[.int .i64 a0_0, .int .i64 a0_1, .int .i64 a0_2, .int .i64 a0_3] 58 (0, 0)) (by (with_reducible repeat (first | refine blk_drewN ?_ _ | refine blk_drew ?_ | refine blk_alloc ?_ _)); refine blk_far ?_ NB182_190.out _; (with_reducible repeat (first | refine blk_drewN ?_ _ | refine blk_drew ?_ | refine blk_alloc ?_ _)); refine blk_far ?_ NB182_190.out _; (with_reducible repeat (first | refine blk_drewN ?_ _ | refine blk_drew ?_ | refine blk_alloc ?_ _)); refine blk_far ?_ NB182_190.out _; (with_reducible repeat (first | refine blk_drewN ?_ _ | refine blk_drew ?_ | refine blk_alloc ?_ _)); exact BK182.out) hb); have n1_ := Aside0.mk (blk_below (g := gb183) (o := .cells #[.slice (some ad189) l1_0.length c1_0] 37 (0, 0)) (by (with_reducible repeat (first | refine blk_drewN ?_ _ | refine blk_drew ?_ | refine blk_alloc ?_ _)); refine blk_far ?_ NB183_190.out _; (with_reducible repeat (first | refine blk_drewN ?_ _ | refine blk_drew ?_ | refine blk_alloc ?_ _)); refine blk_far ?_ NB183_190.out _; (with_reducible repeat (first | refine blk_drewN ?_ _ | refine blk_drew ?_ | refine blk_alloc ?_ _)); refine blk_far ?_ NB183_190.out _; (with_reducible repeat (first | refine blk_drewN ?_ _ | refine blk_drew ?_ | refine blk_alloc ?_ _)); exact BK183.out) hb); have n2_ := Aside0.mk (blk_below (g := gb190) (o := .cells #[.string ((rd_T75 l1_0 x5_2).f0), .bool ((rd_T75 l1_0 x5_2).f1), .string ((rd_T75 l1_0 x5_2).f2)] 75 (0, 0)) (by (with_reducible repeat (first | refine blk_drewN ?_ _ | refine blk_drew ?_ | refine blk_alloc ?_ _)); refine blk_put (cs := #[.string ((rd_T75 l1_0 x5_2).f0), .bool ((rd_T75 l1_0 x5_2).f1), .string (⟨#[]⟩ : ByteArray)]) ?_ 2 _ rfl; (with_reducible repeat (first | refine blk_drewN ?_ _ | refine blk_drew ?_ | refine blk_alloc ?_ _)); refine blk_put (cs := #[.string ((rd_T75 l1_0 x5_2).f0), .bool false, .string (⟨#[]⟩ : ByteArray)]) ?_ 1 _ rfl; (with_reducible repeat (first | refine blk_drewN ?_ _ | refine blk_drew ?_ | refine blk_alloc ?_ _)); refine blk_put (cs := #[.string (⟨#[]⟩ : ByteArray), .bool false, .string (⟨#[]⟩ : ByteArray)]) ?_ 0 _ rfl; (with_reducible repeat (first | refine blk_drewN ?_ _ | refine blk_drew ?_ | refine blk_alloc ?_ _)); exact BK190.out) hb); have n3_ := Aside0.mk (below_step tq_17 hb); clear BK182; clear BK183; clear BK190; clear HB; have BK182 := n0_; have BK183 := n1_; have BK190 := n2_; have HB := n3_; clear n0_ n1_ n2_ n3_; (try clear hb); (try clear hb2); (try clear hk); (try clear hi); have hcz38_0 : w37.cell? ⟨gb183, 0, none⟩ = some (.slice (some ad189) l1_0.length c1_0) := (blk_cell BK183.out 0).trans rfl; have hfz38_0 := blk_frozen BK183.out 0) | ((with_reducible refine gate_callee (f := 60) rfl ?_); refine goesL_ (some 43) rfl rfl Tryd.func60 (by kernel_rfl) rfl #[.agg #[.slice (some ad189) l1_0.length c1_0], .string t191] rfl tq_1 ?_; (with_reducible refine (spec_ItemAt.calls k2 _ _ l1_0 t191 t192 _ ?side1 ?side2 A29.out).mono ?_); (case side1 => exact tq_4); (case side2 => exact HC1_0.out); rintro e w39 ⟨rfl, hb⟩; refine ⟨_, rfl, ?_⟩; have n0_ := Aside0.mk (blk_below (g := gb182) (o := .cells #[.int .i64 a0_0, .int .i64 a0_1, .int .i64 a0_2, .int .i64 a0_3] 58 (0, 0)) tq_16 hb); have n1_ := Aside0.mk (blk_below (g := gb183) (o := .cells #[.slice (some ad189) l1_0.length c1_0] 37 (0, 0)) tq_21 hb); have n2_ := Aside0.mk (blk_below (g := gb190) (o := .cells #[.string ((rd_T75 l1_0 x5_2).f0), .bool ((rd_T75 l1_0 x5_2).f1), .string ((rd_T75 l1_0 x5_2).f2)] 75 (0, 0)) tq_46 hb); have n3_ := Aside0.mk (below_step tq_17 hb); clear BK182; clear BK183; clear BK190; clear HB; have BK182 := n0_; have BK183 := n1_; have BK190 := n2_; have HB := n3_; clear n0_ n1_ n2_ n3_; (try clear hb); (try clear hb2); (try clear hk); (try clear hi)))
        (try simp only [Act.put, List.setIfInBounds_toArray, List.set_cons_zero, List.set_cons_succ])
        go_cut [78] (fun v78 wc => ∃ (kq : Nat) (x78_29 : Bool), v78 = .bool x78_29 ∧ Aside0 (spec_ViewOk.j2 kq x5_2 x78_29 a0_0 a0_1 a0_2 a0_3 l1_0 ((rd_T75 l1_0 x5_2).f0) ((rd_T75 l1_0 x5_2).f1) ((rd_T75 l1_0 x5_2).f2) = some r) ∧ Aside0 (kq ≤ k2) ∧ Aside0 (wc.heap[gb182]? = some (.cells #[.int .i64 a0_0, .int .i64 a0_1, .int .i64 a0_2, .int .i64 a0_3] 58 (0, 0))) ∧ Aside0 (wc.heap[gb183]? = some (.cells #[(.slice (some ad189) l1_0.length c1_0)] 37 (0, 0))) ∧ Aside0 (wc.heap[gb190]? = some (.cells #[.string ((rd_T75 l1_0 x5_2).f0), .bool ((rd_T75 l1_0 x5_2).f1), .string ((rd_T75 l1_0 x5_2).f2)] 75 (0, 0))) ∧ Aside0 (Below w.heap.size w wc))
        case first =>
         have H := HC30.out
         clear HC30
         by_cases c40 : t191.toList = ([] : List UInt8)
         ·rw [if_pos c40] at H
          have c40b0 : (t191.toList == ([] : List UInt8)) = true := beq_iff_eq.mpr c40
          have c40b1 : (t191.toList != ([] : List UInt8)) = false := bne_eq_false_iff_eq.mpr c40
          clear c40
          (first | rw [c40b0] | (simp only [i64_w, i32_w]; rw [c40b0]) | skip)
          have H' := Aside0.mk H
          clear H
          try go_wp2
          have n0_ := Aside0.mk (blk_drew BK182.out)
          have n1_ := Aside0.mk (blk_drew BK183.out)
          have n2_ := Aside0.mk (blk_drew BK190.out)
          have n3_ := Aside0.mk (below_drew1 HB.out)
          clear BK182
          clear BK183
          clear BK190
          clear HB
          have BK182 := n0_
          have BK183 := n1_
          have BK190 := n2_
          have HB := n3_
          clear n0_ n1_ n2_ n3_
          refine start_ (n := 35) (S := fun w' => True) (ds := []) bq_0 (by kernel_rfl) rfl rfl trivial (fun hHeld => ?_); refine with_tabW spec_ViewOk.tab9 spec_ViewOk.bits9 (fun HT_ HW_ => ?_)
          generalize w39.drew = w41 at BK182 BK183 BK190 HB hHeld ⊢
          refine yq_ (i := 0) (N := some 44) bq_1 (any_of HT_.out (by kernel_rfl)) ?_
          refine yq_ (i := 1) (N := some 45) bq_2 (any_of HT_.out (by kernel_rfl)) ?_
          refine yq_ (i := 2) (N := some 46) bq_3 (any_of HT_.out (by kernel_rfl)) ?_
          refine uq_ (i := 3) (N := some 47) bq_4 (any_of HT_.out (by kernel_rfl)) ?_
          refine uq_ (i := 4) (N := some 48) bq_5 (any_of HT_.out (by kernel_rfl)) ?_
          refine uq_ (i := 5) (N := some 49) bq_6 (any_of HT_.out (by kernel_rfl)) ?_
          refine uq_ (i := 6) (N := some 50) bq_7 (any_of HT_.out (by kernel_rfl)) ?_
          refine uq_ (i := 7) (N := some 51) bq_8 (any_of HT_.out (by kernel_rfl)) ?_
          refine uq_ (i := 8) (N := some 52) bq_9 (any_of HT_.out (by kernel_rfl)) ?_
          refine uq_ (i := 9) (N := some 53) bq_10 (any_of HT_.out (by kernel_rfl)) ?_
          refine uq_ (i := 10) (N := some 54) bq_67 (any_of HT_.out (by kernel_rfl)) ?_
          refine uq_ (i := 11) (N := some 55) bq_11 (any_of HT_.out (by kernel_rfl)) ?_
          refine uq_ (i := 12) (N := some 56) bq_12 (any_of HT_.out (by kernel_rfl)) ?_
          refine uq_ (i := 13) (N := some 57) bq_13 (any_of HT_.out (by kernel_rfl)) ?_
          refine uq_ (i := 14) (N := some 58) bq_14 (any_of HT_.out (by kernel_rfl)) ?_
          refine uq_ (i := 15) (N := some 59) bq_15 (any_of HT_.out (by kernel_rfl)) ?_
          refine uq_ (i := 16) (N := some 60) bq_16 (any_of HT_.out (by kernel_rfl)) ?_
          refine uq_ (i := 17) (N := some 61) bq_17 (any_of HT_.out (by kernel_rfl)) ?_
          refine yq_ (i := 18) (N := some 62) bq_18 (any_of HT_.out (by kernel_rfl)) ?_
          refine yq_ (i := 19) (N := some 63) bq_19 (any_of HT_.out (by kernel_rfl)) ?_
          refine uq_ (i := 20) (N := some 64) bq_20 (any_of HT_.out (by kernel_rfl)) ?_
          refine uq_ (i := 21) (N := some 65) bq_21 (any_of HT_.out (by kernel_rfl)) ?_
          refine uq_ (i := 22) (N := some 66) bq_22 (any_of HT_.out (by kernel_rfl)) ?_
          refine uq_ (i := 23) (N := some 67) bq_23 (any_of HT_.out (by kernel_rfl)) ?_
          refine uq_ (i := 24) (N := some 68) bq_29 (any_of HT_.out (by kernel_rfl)) ?_
          refine uq_ (i := 25) (N := some 69) bq_30 (any_of HT_.out (by kernel_rfl)) ?_
          refine uq_ (i := 26) (N := some 70) bq_31 (any_of HT_.out (by kernel_rfl)) ?_
          refine uq_ (i := 27) (N := some 71) bq_32 (any_of HT_.out (by kernel_rfl)) ?_
          refine uq_ (i := 28) (N := some 72) bq_33 (any_of HT_.out (by kernel_rfl)) ?_
          refine uq_ (i := 29) (N := some 73) bq_34 (any_of HT_.out (by kernel_rfl)) ?_
          refine uq_ (i := 30) (N := some 74) bq_24 (any_of HT_.out (by kernel_rfl)) ?_
          refine uq_ (i := 31) (N := some 75) bq_25 (any_of HT_.out (by kernel_rfl)) ?_
          refine uq_ (i := 32) (N := some 76) bq_26 (any_of HT_.out (by kernel_rfl)) ?_
          refine uq_ (i := 33) (N := some 77) bq_27 (any_of HT_.out (by kernel_rfl)) ?_
          refine yq_ (i := 34) (N := some 78) bq_28 (any_of HT_.out (by kernel_rfl)) ?_
          refine done_ (done_of HT_.out (by kernel_rfl)) ?_
          try go_wp2
          go_meet
          case rel => exact ⟨_, (true), tq_8, H', ⟨by have := HJ2.out; have := HK2.out; first | omega | exact Nat.le_refl _⟩, ⟨by (with_reducible repeat (first | refine blk_drewN ?_ _ | refine blk_drew ?_ | refine blk_alloc ?_ _)); exact BK182.out⟩, ⟨by (with_reducible repeat (first | refine blk_drewN ?_ _ | refine blk_drew ?_ | refine blk_alloc ?_ _)); exact BK183.out⟩, ⟨by (with_reducible repeat (first | refine blk_drewN ?_ _ | refine blk_drew ?_ | refine blk_alloc ?_ _)); exact BK190.out⟩, ⟨by repeat (first | (with_reducible first | exact HB.out | apply below_alloc | apply pw_below_drewN | apply below_drew1 | refine below_set ?_ GE182.out | refine below_set ?_ GE183.out | refine below_set ?_ GE190.out) | exact HB.out)⟩⟩
         ·rw [if_neg c40] at H
          have c40b0 : (t191.toList == ([] : List UInt8)) = false := beq_eq_false_iff_ne.mpr c40
          have c40b1 : (t191.toList != ([] : List UInt8)) = true := bne_iff_ne.mpr c40
          (first | rw [c40b0] | (simp only [i64_w, i32_w]; rw [c40b0]) | skip)
          by_cases c42 : t191.toList = ([47] : List UInt8)
          ·rw [if_pos c42] at H
           have c42b0 : (t191.toList == ([47] : List UInt8)) = true := beq_iff_eq.mpr c42
           have c42b1 : (t191.toList != ([47] : List UInt8)) = false := bne_eq_false_iff_eq.mpr c42
           clear c42
           by_cases c43 : x5_2 > 0
           ·rw [if_pos c43] at H
            have c43b0 : decide (0 < x5_2) = true := decide_eq_true c43
            clear c43
            obtain ⟨ji44, hji44⟩ : ∃ j_ : Int, (wrap64 (x5_2 - 1)) = j_ := ⟨_, rfl⟩
            replace H : (if 0 ≤ (ji44) then (if (ji44) < (l1_0.length : Int) then (spec_ViewOk.j2 k2 x5_2 (!(Op.bytesLess (((rd_T75 l1_0 (ji44)).f0).toList) (((rd_T75 l1_0 x5_2).f0).toList))) a0_0 a0_1 a0_2 a0_3 l1_0 ((rd_T75 l1_0 x5_2).f0) ((rd_T75 l1_0 x5_2).f1) ((rd_T75 l1_0 x5_2).f2)) else (none)) else (none)) = some r := by first | (rw [hji44] at H; exact H) | (simp only [hji44] at H ⊢; exact H)
            have hji44w : (IntKind.i64.wrap (x5_2 - 1)) = ji44 := (i64_w _).trans hji44
            by_cases c45 : 0 ≤ (ji44)
            ·rw [if_pos c45] at H
             have c45b0 : decide (0 ≤ (ji44)) = true := decide_eq_true c45
             clear c45
             by_cases c46 : (ji44) < (l1_0.length : Int)
             ·rw [if_pos c46] at H
              have c46b0 : decide ((ji44) < (l1_0.length : Int)) = true := decide_eq_true c46
              clear c46
              have H' := Aside0.mk H
              clear H
              try go_wp2
              have n0_ := Aside0.mk (blk_drew BK182.out)
              have n1_ := Aside0.mk (blk_drew BK183.out)
              have n2_ := Aside0.mk (blk_drew BK190.out)
              have n3_ := Aside0.mk (below_drew1 HB.out)
              clear BK182
              clear BK183
              clear BK190
              clear HB
              have BK182 := n0_
              have BK183 := n1_
              have BK190 := n2_
              have HB := n3_
              clear n0_ n1_ n2_ n3_
              have p193 : 0 ≤ ((ji44) : Int) := of_decide_eq_true tq_6
              have q193 : (ji44) < (l1_0.length : Int) := of_decide_eq_true tq_6
              obtain ⟨ad193, e193, hx193_0, hx193_1, hx193_2⟩ := at_T75 HR1_0.out (ji44) p193 q193
              have hw193_2 := hx193_2
              have hw193_1 := hx193_1
              have hw193_0 := hx193_0
              obtain rfl : ad189 = ad193 := (by injection e193)
              replace hx193_0 := (HB.out.cell (World.block_lt_of_cell? w _ hx193_0)).trans hx193_0
              replace hx193_1 := (HB.out.cell (World.block_lt_of_cell? w _ hx193_1)).trans hx193_1
              replace hx193_2 := (HB.out.cell (World.block_lt_of_cell? w _ hx193_2)).trans hx193_2
              replace p193 := eq_true p193
              replace q193 := eq_true q193
              refine start_ (n := 35) (S := fun w' => w'.cell? ⟨gb183, 0, none⟩ = some (.slice (some ad189) l1_0.length c1_0) ∧ w'.cell? ⟨gb190, 0, none⟩ = some (.string ((rd_T75 l1_0 x5_2).f0)) ∧ w'.cell? ⟨gb190, 1, none⟩ = some (.bool ((rd_T75 l1_0 x5_2).f1)) ∧ w'.cell? ⟨gb190, 2, none⟩ = some (.string ((rd_T75 l1_0 x5_2).f2)) ∧ w'.cell? (ad189.add (((ji44)).toNat * 3)) = some (.string ((rd_T75 l1_0 (ji44)).f0)) ∧ w'.cell? ⟨(ad189.add (((ji44)).toNat * 3)).block, (ad189.add (((ji44)).toNat * 3)).off + 1, none⟩ = some (.bool ((rd_T75 l1_0 (ji44)).f1)) ∧ w'.cell? ⟨(ad189.add (((ji44)).toNat * 3)).block, (ad189.add (((ji44)).toNat * 3)).off + 2, none⟩ = some (.string ((rd_T75 l1_0 (ji44)).f2))) (ds := []) bq_0 (by kernel_rfl) rfl rfl ⟨(blk_cell BK183.out 0).trans rfl, (blk_cell BK190.out 0).trans rfl, (blk_cell BK190.out 1).trans rfl, (blk_cell BK190.out 2).trans rfl, ((HB.out.cell (World.block_lt_of_cell? w _ hw193_0)).trans hw193_0), ((HB.out.cell (World.block_lt_of_cell? w _ hw193_1)).trans hw193_1), ((HB.out.cell (World.block_lt_of_cell? w _ hw193_2)).trans hw193_2)⟩ (fun hHeld => ?_); refine with_tabW spec_ViewOk.tab9 spec_ViewOk.bits9 (fun HT_ HW_ => ?_)
              generalize w39.drew = w47 at BK182 BK183 BK190 HB hx193_0 hx193_1 hx193_2 hHeld ⊢
              refine yq_ (i := 0) (N := some 44) bq_1 (any_of HT_.out (by kernel_rfl)) ?_
              refine yq_ (i := 1) (N := some 45) bq_2 (any_of HT_.out (by kernel_rfl)) ?_
              refine yq_ (i := 2) (N := some 46) bq_3 (any_of HT_.out (by kernel_rfl)) ?_
              refine yq_ (i := 3) (N := some 47) bq_4 (any_of HT_.out (by kernel_rfl)) ?_
              refine yq_ (i := 4) (N := some 48) bq_5 (any_of HT_.out (by kernel_rfl)) ?_
              refine yq_ (i := 5) (N := some 49) bq_6 (any_of HT_.out (by kernel_rfl)) ?_
              refine uq_ (i := 6) (N := some 50) bq_7 (any_of HT_.out (by kernel_rfl)) ?_
              refine uq_ (i := 7) (N := some 51) bq_8 (any_of HT_.out (by kernel_rfl)) ?_
              refine uq_ (i := 8) (N := some 52) bq_9 (any_of HT_.out (by kernel_rfl)) ?_
              refine uq_ (i := 9) (N := some 53) bq_10 (any_of HT_.out (by kernel_rfl)) ?_
              refine uq_ (i := 10) (N := some 54) bq_67 (any_of HT_.out (by kernel_rfl)) ?_
              refine uq_ (i := 11) (N := some 55) bq_11 (any_of HT_.out (by kernel_rfl)) ?_
              refine uq_ (i := 12) (N := some 56) bq_12 (any_of HT_.out (by kernel_rfl)) ?_
              refine uq_ (i := 13) (N := some 57) bq_13 (any_of HT_.out (by kernel_rfl)) ?_
              refine uq_ (i := 14) (N := some 58) bq_14 (any_of HT_.out (by kernel_rfl)) ?_
              refine uq_ (i := 15) (N := some 59) bq_15 (any_of HT_.out (by kernel_rfl)) ?_
              refine uq_ (i := 16) (N := some 60) bq_16 (any_of HT_.out (by kernel_rfl)) ?_
              refine yq_ (i := 17) (N := some 61) bq_17 (any_of HT_.out (by kernel_rfl)) ?_
              refine yq_ (i := 18) (N := some 62) bq_18 (any_of HT_.out (by kernel_rfl)) ?_
              refine yq_ (i := 19) (N := some 63) bq_19 (any_of HT_.out (by kernel_rfl)) ?_
              refine yq_ (i := 20) (N := some 64) bq_20 (any_of HT_.out (by kernel_rfl)) ?_
              refine yq_ (i := 21) (N := some 65) bq_21 (any_of HT_.out (by kernel_rfl)) ?_
              refine yq_ (i := 22) (N := some 66) bq_22 (any_of HT_.out (by kernel_rfl)) ?_
              refine yq_ (i := 23) (N := some 67) bq_23 (any_of HT_.out (by kernel_rfl)) ?_
              refine yq_ (i := 25) (N := some 69) bq_115 (any_of HT_.out (by kernel_rfl)) ?_
              refine yq_ (i := 26) (N := some 70) bq_116 (any_of HT_.out (by kernel_rfl)) ?_
              refine yq_ (i := 30) (N := some 74) bq_117 (any_of HT_.out (by kernel_rfl)) ?_
              refine take_ (i := 24) (N := some 68) (v := ?_) (a' := ?_) bq_118 rfl rfl (take_ofW HT_.out HW_.out (by kernel_rfl)) (fun _ _ _ h => h) (Or.inl ⟨by rfl, ?_⟩) hHeld ?_ ?_
              rotate_left
              ·rintro w' ⟨s0, s1, s2, s3, s4, s5, s6⟩
               go_simp
               with_reducible rfl
              rotate_left
              ·simp only [Act.put, List.setIfInBounds_toArray, List.set_cons_zero, List.set_cons_succ, i64_w, i32_w]
               rfl
              refine yq_ (i := 27) (N := some 71) bq_119 (any_of HT_.out (by kernel_rfl)) ?_
              refine yq_ (i := 28) (N := some 72) bq_120 (any_of HT_.out (by kernel_rfl)) ?_
              refine take_ (i := 29) (N := some 73) (v := ?_) (a' := ?_) bq_24 rfl rfl (take_ofW HT_.out HW_.out (by kernel_rfl)) (fun _ _ _ h => h) (Or.inl ⟨by rfl, ?_⟩) hHeld ?_ ?_
              rotate_left
              ·rintro w' ⟨s0, s1, s2, s3, s4, s5, s6⟩
               go_simp
               with_reducible rfl
              rotate_left
              ·simp only [Act.put, List.setIfInBounds_toArray, List.set_cons_zero, List.set_cons_succ, i64_w, i32_w]
               rfl
              refine take_ (i := 31) (N := some 75) (v := ?_) (a' := ?_) bq_25 rfl rfl (take_ofW HT_.out HW_.out (by kernel_rfl)) (fun _ _ _ h => h) (Or.inl ⟨by rfl, ?_⟩) hHeld ?_ ?_
              rotate_left
              ·rintro w' ⟨s0, s1, s2, s3, s4, s5, s6⟩
               go_simp
               with_reducible rfl
              rotate_left
              ·simp only [Act.put, List.setIfInBounds_toArray, List.set_cons_zero, List.set_cons_succ, i64_w, i32_w]
               rfl
              refine yq_ (i := 32) (N := some 76) bq_26 (any_of HT_.out (by kernel_rfl)) ?_
              refine yq_ (i := 33) (N := some 77) bq_27 (any_of HT_.out (by kernel_rfl)) ?_
              refine yq_ (i := 34) (N := some 78) bq_28 (any_of HT_.out (by kernel_rfl)) ?_
              refine done_ (done_of HT_.out (by kernel_rfl)) ?_
              try go_wp2
              go_meet
              case rel => exact ⟨_, (!(Op.bytesLess (((rd_T75 l1_0 (ji44)).f0).toList) (((rd_T75 l1_0 x5_2).f0).toList))), (by first | rfl | (simp; done) | (simp only [← hji44] <;> (first | rfl | simp)) | (simp [*]; done)), H', ⟨by have := HJ2.out; have := HK2.out; first | omega | exact Nat.le_refl _⟩, ⟨by (with_reducible repeat (first | refine blk_drewN ?_ _ | refine blk_drew ?_ | refine blk_alloc ?_ _)); exact BK182.out⟩, ⟨by (with_reducible repeat (first | refine blk_drewN ?_ _ | refine blk_drew ?_ | refine blk_alloc ?_ _)); exact BK183.out⟩, ⟨by (with_reducible repeat (first | refine blk_drewN ?_ _ | refine blk_drew ?_ | refine blk_alloc ?_ _)); exact BK190.out⟩, ⟨by repeat (first | (with_reducible first | exact HB.out | apply below_alloc | apply pw_below_drewN | apply below_drew1 | refine below_set ?_ GE182.out | refine below_set ?_ GE183.out | refine below_set ?_ GE190.out) | exact HB.out)⟩⟩
             ·rw [if_neg c46] at H
              exact absurd H (by simp)
            ·rw [if_neg c45] at H
             exact absurd H (by simp)
           ·rw [if_neg c43] at H
            have c43b0 : decide (0 < x5_2) = false := decide_eq_false c43
            clear c43
            have H' := Aside0.mk H
            clear H
            try go_wp2
            have n0_ := Aside0.mk (blk_drew BK182.out)
            have n1_ := Aside0.mk (blk_drew BK183.out)
            have n2_ := Aside0.mk (blk_drew BK190.out)
            have n3_ := Aside0.mk (below_drew1 HB.out)
            clear BK182
            clear BK183
            clear BK190
            clear HB
            have BK182 := n0_
            have BK183 := n1_
            have BK190 := n2_
            have HB := n3_
            clear n0_ n1_ n2_ n3_
            refine start_ (n := 35) (S := fun w' => True) (ds := []) bq_0 (by kernel_rfl) rfl rfl trivial (fun hHeld => ?_); refine with_tabW spec_ViewOk.tab9 spec_ViewOk.bits9 (fun HT_ HW_ => ?_)
            generalize w39.drew = w48 at BK182 BK183 BK190 HB hHeld ⊢
            refine yq_ (i := 0) (N := some 44) bq_1 (any_of HT_.out (by kernel_rfl)) ?_
            refine yq_ (i := 1) (N := some 45) bq_2 (any_of HT_.out (by kernel_rfl)) ?_
            refine yq_ (i := 2) (N := some 46) bq_3 (any_of HT_.out (by kernel_rfl)) ?_
            refine yq_ (i := 3) (N := some 47) bq_4 (any_of HT_.out (by kernel_rfl)) ?_
            refine yq_ (i := 4) (N := some 48) bq_5 (any_of HT_.out (by kernel_rfl)) ?_
            refine yq_ (i := 5) (N := some 49) bq_6 (any_of HT_.out (by kernel_rfl)) ?_
            refine uq_ (i := 6) (N := some 50) bq_7 (any_of HT_.out (by kernel_rfl)) ?_
            refine uq_ (i := 7) (N := some 51) bq_8 (any_of HT_.out (by kernel_rfl)) ?_
            refine uq_ (i := 8) (N := some 52) bq_9 (any_of HT_.out (by kernel_rfl)) ?_
            refine uq_ (i := 9) (N := some 53) bq_10 (any_of HT_.out (by kernel_rfl)) ?_
            refine uq_ (i := 10) (N := some 54) bq_67 (any_of HT_.out (by kernel_rfl)) ?_
            refine uq_ (i := 11) (N := some 55) bq_11 (any_of HT_.out (by kernel_rfl)) ?_
            refine uq_ (i := 12) (N := some 56) bq_12 (any_of HT_.out (by kernel_rfl)) ?_
            refine uq_ (i := 13) (N := some 57) bq_13 (any_of HT_.out (by kernel_rfl)) ?_
            refine uq_ (i := 14) (N := some 58) bq_14 (any_of HT_.out (by kernel_rfl)) ?_
            refine uq_ (i := 15) (N := some 59) bq_15 (any_of HT_.out (by kernel_rfl)) ?_
            refine uq_ (i := 16) (N := some 60) bq_16 (any_of HT_.out (by kernel_rfl)) ?_
            refine yq_ (i := 17) (N := some 61) bq_17 (any_of HT_.out (by kernel_rfl)) ?_
            refine yq_ (i := 18) (N := some 62) bq_18 (any_of HT_.out (by kernel_rfl)) ?_
            refine yq_ (i := 19) (N := some 63) bq_19 (any_of HT_.out (by kernel_rfl)) ?_
            refine yq_ (i := 20) (N := some 64) bq_20 (any_of HT_.out (by kernel_rfl)) ?_
            refine yq_ (i := 21) (N := some 65) bq_21 (any_of HT_.out (by kernel_rfl)) ?_
            refine yq_ (i := 22) (N := some 66) bq_22 (any_of HT_.out (by kernel_rfl)) ?_
            refine uq_ (i := 23) (N := some 67) bq_23 (any_of HT_.out (by kernel_rfl)) ?_
            refine uq_ (i := 24) (N := some 68) bq_29 (any_of HT_.out (by kernel_rfl)) ?_
            refine uq_ (i := 25) (N := some 69) bq_30 (any_of HT_.out (by kernel_rfl)) ?_
            refine uq_ (i := 26) (N := some 70) bq_31 (any_of HT_.out (by kernel_rfl)) ?_
            refine uq_ (i := 27) (N := some 71) bq_32 (any_of HT_.out (by kernel_rfl)) ?_
            refine uq_ (i := 28) (N := some 72) bq_33 (any_of HT_.out (by kernel_rfl)) ?_
            refine uq_ (i := 29) (N := some 73) bq_34 (any_of HT_.out (by kernel_rfl)) ?_
            refine uq_ (i := 30) (N := some 74) bq_24 (any_of HT_.out (by kernel_rfl)) ?_
            refine uq_ (i := 31) (N := some 75) bq_25 (any_of HT_.out (by kernel_rfl)) ?_
            refine uq_ (i := 32) (N := some 76) bq_26 (any_of HT_.out (by kernel_rfl)) ?_
            refine yq_ (i := 33) (N := some 77) bq_27 (any_of HT_.out (by kernel_rfl)) ?_
            refine yq_ (i := 34) (N := some 78) bq_28 (any_of HT_.out (by kernel_rfl)) ?_
            refine done_ (done_of HT_.out (by kernel_rfl)) ?_
            try go_wp2
            go_meet
            case rel => exact ⟨_, (false), tq_8, H', ⟨by have := HJ2.out; have := HK2.out; first | omega | exact Nat.le_refl _⟩, ⟨by (with_reducible repeat (first | refine blk_drewN ?_ _ | refine blk_drew ?_ | refine blk_alloc ?_ _)); exact BK182.out⟩, ⟨by (with_reducible repeat (first | refine blk_drewN ?_ _ | refine blk_drew ?_ | refine blk_alloc ?_ _)); exact BK183.out⟩, ⟨by (with_reducible repeat (first | refine blk_drewN ?_ _ | refine blk_drew ?_ | refine blk_alloc ?_ _)); exact BK190.out⟩, ⟨by repeat (first | (with_reducible first | exact HB.out | apply below_alloc | apply pw_below_drewN | apply below_drew1 | refine below_set ?_ GE182.out | refine below_set ?_ GE183.out | refine below_set ?_ GE190.out) | exact HB.out)⟩⟩
          ·rw [if_neg c42] at H
           have c42b0 : (t191.toList == ([47] : List UInt8)) = false := beq_eq_false_iff_ne.mpr c42
           have c42b1 : (t191.toList != ([47] : List UInt8)) = true := bne_iff_ne.mpr c42
           by_cases c49 : t192 < 0
           ·rw [if_pos c49] at H
            have c49b0 : decide (t192 < 0) = true := decide_eq_true c49
            clear c49
            have H' := Aside0.mk H
            clear H
            try go_wp2
            have n0_ := Aside0.mk (blk_drew BK182.out)
            have n1_ := Aside0.mk (blk_drew BK183.out)
            have n2_ := Aside0.mk (blk_drew BK190.out)
            have n3_ := Aside0.mk (below_drew1 HB.out)
            clear BK182
            clear BK183
            clear BK190
            clear HB
            have BK182 := n0_
            have BK183 := n1_
            have BK190 := n2_
            have HB := n3_
            clear n0_ n1_ n2_ n3_
            refine start_ (n := 35) (S := fun w' => True) (ds := []) bq_0 (by kernel_rfl) rfl rfl trivial (fun hHeld => ?_); refine with_tabW spec_ViewOk.tab9 spec_ViewOk.bits9 (fun HT_ HW_ => ?_)
            generalize w39.drew = w50 at BK182 BK183 BK190 HB hHeld ⊢
            refine yq_ (i := 0) (N := some 44) bq_1 (any_of HT_.out (by kernel_rfl)) ?_
            refine yq_ (i := 1) (N := some 45) bq_2 (any_of HT_.out (by kernel_rfl)) ?_
            refine yq_ (i := 2) (N := some 46) bq_3 (any_of HT_.out (by kernel_rfl)) ?_
            refine yq_ (i := 3) (N := some 47) bq_4 (any_of HT_.out (by kernel_rfl)) ?_
            refine yq_ (i := 4) (N := some 48) bq_5 (any_of HT_.out (by kernel_rfl)) ?_
            refine yq_ (i := 5) (N := some 49) bq_6 (any_of HT_.out (by kernel_rfl)) ?_
            refine yq_ (i := 6) (N := some 50) bq_7 (any_of HT_.out (by kernel_rfl)) ?_
            refine yq_ (i := 7) (N := some 51) bq_8 (any_of HT_.out (by kernel_rfl)) ?_
            refine yq_ (i := 8) (N := some 52) bq_9 (any_of HT_.out (by kernel_rfl)) ?_
            refine uq_ (i := 9) (N := some 53) bq_10 (any_of HT_.out (by kernel_rfl)) ?_
            refine uq_ (i := 10) (N := some 54) bq_67 (any_of HT_.out (by kernel_rfl)) ?_
            refine uq_ (i := 11) (N := some 55) bq_11 (any_of HT_.out (by kernel_rfl)) ?_
            refine uq_ (i := 12) (N := some 56) bq_12 (any_of HT_.out (by kernel_rfl)) ?_
            refine uq_ (i := 13) (N := some 57) bq_13 (any_of HT_.out (by kernel_rfl)) ?_
            refine uq_ (i := 14) (N := some 58) bq_14 (any_of HT_.out (by kernel_rfl)) ?_
            refine uq_ (i := 15) (N := some 59) bq_15 (any_of HT_.out (by kernel_rfl)) ?_
            refine yq_ (i := 16) (N := some 60) bq_16 (any_of HT_.out (by kernel_rfl)) ?_
            refine yq_ (i := 17) (N := some 61) bq_17 (any_of HT_.out (by kernel_rfl)) ?_
            refine yq_ (i := 18) (N := some 62) bq_18 (any_of HT_.out (by kernel_rfl)) ?_
            refine yq_ (i := 19) (N := some 63) bq_19 (any_of HT_.out (by kernel_rfl)) ?_
            refine uq_ (i := 20) (N := some 64) bq_20 (any_of HT_.out (by kernel_rfl)) ?_
            refine uq_ (i := 21) (N := some 65) bq_21 (any_of HT_.out (by kernel_rfl)) ?_
            refine uq_ (i := 22) (N := some 66) bq_22 (any_of HT_.out (by kernel_rfl)) ?_
            refine uq_ (i := 23) (N := some 67) bq_23 (any_of HT_.out (by kernel_rfl)) ?_
            refine uq_ (i := 24) (N := some 68) bq_29 (any_of HT_.out (by kernel_rfl)) ?_
            refine uq_ (i := 25) (N := some 69) bq_30 (any_of HT_.out (by kernel_rfl)) ?_
            refine uq_ (i := 26) (N := some 70) bq_31 (any_of HT_.out (by kernel_rfl)) ?_
            refine uq_ (i := 27) (N := some 71) bq_32 (any_of HT_.out (by kernel_rfl)) ?_
            refine uq_ (i := 28) (N := some 72) bq_33 (any_of HT_.out (by kernel_rfl)) ?_
            refine uq_ (i := 29) (N := some 73) bq_34 (any_of HT_.out (by kernel_rfl)) ?_
            refine uq_ (i := 30) (N := some 74) bq_24 (any_of HT_.out (by kernel_rfl)) ?_
            refine uq_ (i := 31) (N := some 75) bq_25 (any_of HT_.out (by kernel_rfl)) ?_
            refine uq_ (i := 32) (N := some 76) bq_26 (any_of HT_.out (by kernel_rfl)) ?_
            refine uq_ (i := 33) (N := some 77) bq_27 (any_of HT_.out (by kernel_rfl)) ?_
            refine yq_ (i := 34) (N := some 78) bq_28 (any_of HT_.out (by kernel_rfl)) ?_
            refine done_ (done_of HT_.out (by kernel_rfl)) ?_
            try go_wp2
            go_meet
            case rel => exact ⟨_, (true), tq_8, H', ⟨by have := HJ2.out; have := HK2.out; first | omega | exact Nat.le_refl _⟩, ⟨by (with_reducible repeat (first | refine blk_drewN ?_ _ | refine blk_drew ?_ | refine blk_alloc ?_ _)); exact BK182.out⟩, ⟨by (with_reducible repeat (first | refine blk_drewN ?_ _ | refine blk_drew ?_ | refine blk_alloc ?_ _)); exact BK183.out⟩, ⟨by (with_reducible repeat (first | refine blk_drewN ?_ _ | refine blk_drew ?_ | refine blk_alloc ?_ _)); exact BK190.out⟩, ⟨by repeat (first | (with_reducible first | exact HB.out | apply below_alloc | apply pw_below_drewN | apply below_drew1 | refine below_set ?_ GE182.out | refine below_set ?_ GE183.out | refine below_set ?_ GE190.out) | exact HB.out)⟩⟩
           ·rw [if_neg c49] at H
            have c49b0 : decide (t192 < 0) = false := decide_eq_false c49
            clear c49
            by_cases c51 : 0 ≤ t192
            ·rw [if_pos c51] at H
             have c51b0 : decide (0 ≤ t192) = true := decide_eq_true c51
             clear c51
             by_cases c52 : t192 < (l1_0.length : Int)
             ·rw [if_pos c52] at H
              have c52b0 : decide (t192 < (l1_0.length : Int)) = true := decide_eq_true c52
              clear c52
              obtain ⟨bq53, hbq53⟩ : ∃ b_ : Bool, b_ = ((rd_T75 l1_0 t192).f1) := ⟨_, rfl⟩
              replace H : (if (bq53 = true) then (if x5_2 > 0 then (if 0 ≤ (wrap64 (x5_2 - 1)) then (if (wrap64 (x5_2 - 1)) < (l1_0.length : Int) then (spec_ViewOk.j2 k2 x5_2 (!(Op.bytesLess (((rd_T75 l1_0 (wrap64 (x5_2 - 1))).f0).toList) (((rd_T75 l1_0 x5_2).f0).toList))) a0_0 a0_1 a0_2 a0_3 l1_0 ((rd_T75 l1_0 x5_2).f0) ((rd_T75 l1_0 x5_2).f1) ((rd_T75 l1_0 x5_2).f2)) else (none)) else (none)) else (spec_ViewOk.j2 k2 x5_2 false a0_0 a0_1 a0_2 a0_3 l1_0 ((rd_T75 l1_0 x5_2).f0) ((rd_T75 l1_0 x5_2).f1) ((rd_T75 l1_0 x5_2).f2))) else (spec_ViewOk.j2 k2 x5_2 true a0_0 a0_1 a0_2 a0_3 l1_0 ((rd_T75 l1_0 x5_2).f0) ((rd_T75 l1_0 x5_2).f1) ((rd_T75 l1_0 x5_2).f2))) = some r := by rw [← hbq53] at H; exact H
              have Nbq53 := Aside0.mk hbq53
              clear hbq53
              by_cases c54 : (bq53 = true)
              ·subst c54
               have H1 : (if x5_2 > 0 then (if 0 ≤ (wrap64 (x5_2 - 1)) then (if (wrap64 (x5_2 - 1)) < (l1_0.length : Int) then (spec_ViewOk.j2 k2 x5_2 (!(Op.bytesLess (((rd_T75 l1_0 (wrap64 (x5_2 - 1))).f0).toList) (((rd_T75 l1_0 x5_2).f0).toList))) a0_0 a0_1 a0_2 a0_3 l1_0 ((rd_T75 l1_0 x5_2).f0) ((rd_T75 l1_0 x5_2).f1) ((rd_T75 l1_0 x5_2).f2)) else (none)) else (none)) else (spec_ViewOk.j2 k2 x5_2 false a0_0 a0_1 a0_2 a0_3 l1_0 ((rd_T75 l1_0 x5_2).f0) ((rd_T75 l1_0 x5_2).f1) ((rd_T75 l1_0 x5_2).f2))) = some r := by rw [if_pos rfl] at H; exact H
               clear H
               have H := H1
               clear H1
               by_cases c55 : x5_2 > 0
               ·rw [if_pos c55] at H
                have c55b0 : decide (0 < x5_2) = true := decide_eq_true c55
                clear c55
                obtain ⟨ji56, hji56⟩ : ∃ j_ : Int, (wrap64 (x5_2 - 1)) = j_ := ⟨_, rfl⟩
                replace H : (if 0 ≤ (ji56) then (if (ji56) < (l1_0.length : Int) then (spec_ViewOk.j2 k2 x5_2 (!(Op.bytesLess (((rd_T75 l1_0 (ji56)).f0).toList) (((rd_T75 l1_0 x5_2).f0).toList))) a0_0 a0_1 a0_2 a0_3 l1_0 ((rd_T75 l1_0 x5_2).f0) ((rd_T75 l1_0 x5_2).f1) ((rd_T75 l1_0 x5_2).f2)) else (none)) else (none)) = some r := by first | (rw [hji56] at H; exact H) | (simp only [hji56] at H ⊢; exact H)
                have hji56w : (IntKind.i64.wrap (x5_2 - 1)) = ji56 := (i64_w _).trans hji56
                by_cases c57 : 0 ≤ (ji56)
                ·rw [if_pos c57] at H
                 have c57b0 : decide (0 ≤ (ji56)) = true := decide_eq_true c57
                 clear c57
                 by_cases c58 : (ji56) < (l1_0.length : Int)
                 ·rw [if_pos c58] at H
                  have c58b0 : decide ((ji56) < (l1_0.length : Int)) = true := decide_eq_true c58
                  clear c58
                  have H' := Aside0.mk H
                  clear H
                  try go_wp2
                  have n0_ := Aside0.mk (blk_drew BK182.out)
                  have n1_ := Aside0.mk (blk_drew BK183.out)
                  have n2_ := Aside0.mk (blk_drew BK190.out)
                  have n3_ := Aside0.mk (below_drew1 HB.out)
                  clear BK182
                  clear BK183
                  clear BK190
                  clear HB
                  have BK182 := n0_
                  have BK183 := n1_
                  have BK190 := n2_
                  have HB := n3_
                  clear n0_ n1_ n2_ n3_
                  have p194 : 0 ≤ (t192 : Int) := of_decide_eq_true tq_6
                  have q194 : t192 < (l1_0.length : Int) := of_decide_eq_true tq_6
                  obtain ⟨ad194, e194, hx194_0, hx194_1, hx194_2⟩ := at_T75 HR1_0.out t192 p194 q194
                  have hw194_2 := hx194_2
                  have hw194_1 := hx194_1
                  have hw194_0 := hx194_0
                  (try rw [← Nbq53.out] at hx194_1)
                  (try rw [← Nbq53.out] at hw194_1)
                  obtain rfl : ad189 = ad194 := (by injection e194)
                  replace hx194_0 := (HB.out.cell (World.block_lt_of_cell? w _ hx194_0)).trans hx194_0
                  replace hx194_1 := (HB.out.cell (World.block_lt_of_cell? w _ hx194_1)).trans hx194_1
                  replace hx194_2 := (HB.out.cell (World.block_lt_of_cell? w _ hx194_2)).trans hx194_2
                  replace p194 := eq_true p194
                  replace q194 := eq_true q194
                  have p195 : 0 ≤ ((ji56) : Int) := of_decide_eq_true tq_6
                  have q195 : (ji56) < (l1_0.length : Int) := of_decide_eq_true tq_6
                  obtain ⟨ad195, e195, hx195_0, hx195_1, hx195_2⟩ := at_T75 HR1_0.out (ji56) p195 q195
                  have hw195_2 := hx195_2
                  have hw195_1 := hx195_1
                  have hw195_0 := hx195_0
                  (try rw [← Nbq53.out] at hx195_1)
                  (try rw [← Nbq53.out] at hw195_1)
                  obtain rfl : ad189 = ad195 := (by injection e195)
                  replace hx195_0 := (HB.out.cell (World.block_lt_of_cell? w _ hx195_0)).trans hx195_0
                  replace hx195_1 := (HB.out.cell (World.block_lt_of_cell? w _ hx195_1)).trans hx195_1
                  replace hx195_2 := (HB.out.cell (World.block_lt_of_cell? w _ hx195_2)).trans hx195_2
                  replace p195 := eq_true p195
                  replace q195 := eq_true q195
                  refine start_ (n := 35) (S := fun w' => w'.cell? ⟨gb183, 0, none⟩ = some (.slice (some ad189) l1_0.length c1_0) ∧ w'.cell? ⟨gb190, 0, none⟩ = some (.string ((rd_T75 l1_0 x5_2).f0)) ∧ w'.cell? ⟨gb190, 1, none⟩ = some (.bool ((rd_T75 l1_0 x5_2).f1)) ∧ w'.cell? ⟨gb190, 2, none⟩ = some (.string ((rd_T75 l1_0 x5_2).f2)) ∧ w'.cell? (ad189.add ((t192).toNat * 3)) = some (.string ((rd_T75 l1_0 t192).f0)) ∧ w'.cell? ⟨(ad189.add ((t192).toNat * 3)).block, (ad189.add ((t192).toNat * 3)).off + 1, none⟩ = some (.bool true) ∧ w'.cell? ⟨(ad189.add ((t192).toNat * 3)).block, (ad189.add ((t192).toNat * 3)).off + 2, none⟩ = some (.string ((rd_T75 l1_0 t192).f2)) ∧ w'.cell? (ad189.add (((ji56)).toNat * 3)) = some (.string ((rd_T75 l1_0 (ji56)).f0)) ∧ w'.cell? ⟨(ad189.add (((ji56)).toNat * 3)).block, (ad189.add (((ji56)).toNat * 3)).off + 1, none⟩ = some (.bool ((rd_T75 l1_0 (ji56)).f1)) ∧ w'.cell? ⟨(ad189.add (((ji56)).toNat * 3)).block, (ad189.add (((ji56)).toNat * 3)).off + 2, none⟩ = some (.string ((rd_T75 l1_0 (ji56)).f2))) (ds := []) bq_0 (by kernel_rfl) rfl rfl ⟨(blk_cell BK183.out 0).trans rfl, (blk_cell BK190.out 0).trans rfl, (blk_cell BK190.out 1).trans rfl, (blk_cell BK190.out 2).trans rfl, ((HB.out.cell (World.block_lt_of_cell? w _ hw194_0)).trans hw194_0), ((HB.out.cell (World.block_lt_of_cell? w _ hw194_1)).trans hw194_1), ((HB.out.cell (World.block_lt_of_cell? w _ hw194_2)).trans hw194_2), ((HB.out.cell (World.block_lt_of_cell? w _ hw195_0)).trans hw195_0), ((HB.out.cell (World.block_lt_of_cell? w _ hw195_1)).trans hw195_1), ((HB.out.cell (World.block_lt_of_cell? w _ hw195_2)).trans hw195_2)⟩ (fun hHeld => ?_); refine with_tabW spec_ViewOk.tab9 spec_ViewOk.bits9 (fun HT_ HW_ => ?_)
                  generalize w39.drew = w59 at BK182 BK183 BK190 HB hx194_0 hx194_1 hx194_2 hx195_0 hx195_1 hx195_2 hHeld ⊢
                  refine yq_ (i := 0) (N := some 44) bq_1 (any_of HT_.out (by kernel_rfl)) ?_
                  refine yq_ (i := 1) (N := some 45) bq_2 (any_of HT_.out (by kernel_rfl)) ?_
                  refine yq_ (i := 2) (N := some 46) bq_3 (any_of HT_.out (by kernel_rfl)) ?_
                  refine yq_ (i := 3) (N := some 47) bq_4 (any_of HT_.out (by kernel_rfl)) ?_
                  refine yq_ (i := 4) (N := some 48) bq_5 (any_of HT_.out (by kernel_rfl)) ?_
                  refine yq_ (i := 5) (N := some 49) bq_6 (any_of HT_.out (by kernel_rfl)) ?_
                  refine yq_ (i := 6) (N := some 50) bq_7 (any_of HT_.out (by kernel_rfl)) ?_
                  refine yq_ (i := 7) (N := some 51) bq_8 (any_of HT_.out (by kernel_rfl)) ?_
                  refine yq_ (i := 8) (N := some 52) bq_9 (any_of HT_.out (by kernel_rfl)) ?_
                  refine yq_ (i := 9) (N := some 53) bq_10 (any_of HT_.out (by kernel_rfl)) ?_
                  refine yq_ (i := 11) (N := some 55) bq_97 (any_of HT_.out (by kernel_rfl)) ?_
                  refine take_ (i := 10) (N := some 54) (v := ?_) (a' := ?_) bq_11 rfl rfl (take_ofW HT_.out HW_.out (by kernel_rfl)) (fun _ _ _ h => h) (Or.inl ⟨by rfl, ?_⟩) hHeld ?_ ?_
                  rotate_left
                  ·rintro w' ⟨s0, s1, s2, s3, s4, s5, s6, s7, s8, s9⟩
                   go_simp
                   with_reducible rfl
                  rotate_left
                  ·simp only [Act.put, List.setIfInBounds_toArray, List.set_cons_zero, List.set_cons_succ, i64_w, i32_w]
                   rfl
                  refine yq_ (i := 12) (N := some 56) bq_12 (any_of HT_.out (by kernel_rfl)) ?_
                  refine yq_ (i := 13) (N := some 57) bq_13 (any_of HT_.out (by kernel_rfl)) ?_
                  refine take_ (i := 14) (N := some 58) (v := ?_) (a' := ?_) bq_14 rfl rfl (take_ofW HT_.out HW_.out (by kernel_rfl)) (fun _ _ _ h => h) (Or.inl ⟨by rfl, ?_⟩) hHeld ?_ ?_
                  rotate_left
                  ·rintro w' ⟨s0, s1, s2, s3, s4, s5, s6, s7, s8, s9⟩
                   go_simp
                   with_reducible rfl
                  rotate_left
                  ·simp only [Act.put, List.setIfInBounds_toArray, List.set_cons_zero, List.set_cons_succ, i64_w, i32_w]
                   rfl
                  refine yq_ (i := 15) (N := some 59) bq_15 (any_of HT_.out (by kernel_rfl)) ?_
                  refine yq_ (i := 16) (N := some 60) bq_16 (any_of HT_.out (by kernel_rfl)) ?_
                  refine yq_ (i := 17) (N := some 61) bq_17 (any_of HT_.out (by kernel_rfl)) ?_
                  refine yq_ (i := 18) (N := some 62) bq_18 (any_of HT_.out (by kernel_rfl)) ?_
                  refine yq_ (i := 19) (N := some 63) bq_19 (any_of HT_.out (by kernel_rfl)) ?_
                  refine yq_ (i := 20) (N := some 64) bq_20 (any_of HT_.out (by kernel_rfl)) ?_
                  refine yq_ (i := 21) (N := some 65) bq_21 (any_of HT_.out (by kernel_rfl)) ?_
                  refine yq_ (i := 22) (N := some 66) bq_22 (any_of HT_.out (by kernel_rfl)) ?_
                  refine yq_ (i := 23) (N := some 67) bq_23 (any_of HT_.out (by kernel_rfl)) ?_
                  refine yq_ (i := 25) (N := some 69) bq_115 (any_of HT_.out (by kernel_rfl)) ?_
                  refine yq_ (i := 26) (N := some 70) bq_116 (any_of HT_.out (by kernel_rfl)) ?_
                  refine yq_ (i := 30) (N := some 74) bq_117 (any_of HT_.out (by kernel_rfl)) ?_
                  refine take_ (i := 24) (N := some 68) (v := ?_) (a' := ?_) bq_118 rfl rfl (take_ofW HT_.out HW_.out (by kernel_rfl)) (fun _ _ _ h => h) (Or.inl ⟨by rfl, ?_⟩) hHeld ?_ ?_
                  rotate_left
                  ·rintro w' ⟨s0, s1, s2, s3, s4, s5, s6, s7, s8, s9⟩
                   go_simp
                   with_reducible rfl
                  rotate_left
                  ·simp only [Act.put, List.setIfInBounds_toArray, List.set_cons_zero, List.set_cons_succ, i64_w, i32_w]
                   rfl
                  refine yq_ (i := 27) (N := some 71) bq_119 (any_of HT_.out (by kernel_rfl)) ?_
                  refine yq_ (i := 28) (N := some 72) bq_120 (any_of HT_.out (by kernel_rfl)) ?_
                  refine take_ (i := 29) (N := some 73) (v := ?_) (a' := ?_) bq_24 rfl rfl (take_ofW HT_.out HW_.out (by kernel_rfl)) (fun _ _ _ h => h) (Or.inl ⟨by rfl, ?_⟩) hHeld ?_ ?_
                  rotate_left
                  ·rintro w' ⟨s0, s1, s2, s3, s4, s5, s6, s7, s8, s9⟩
                   go_simp
                   with_reducible rfl
                  rotate_left
                  ·simp only [Act.put, List.setIfInBounds_toArray, List.set_cons_zero, List.set_cons_succ, i64_w, i32_w]
                   rfl
                  refine take_ (i := 31) (N := some 75) (v := ?_) (a' := ?_) bq_25 rfl rfl (take_ofW HT_.out HW_.out (by kernel_rfl)) (fun _ _ _ h => h) (Or.inl ⟨by rfl, ?_⟩) hHeld ?_ ?_
                  rotate_left
                  ·rintro w' ⟨s0, s1, s2, s3, s4, s5, s6, s7, s8, s9⟩
                   go_simp
                   with_reducible rfl
                  rotate_left
                  ·simp only [Act.put, List.setIfInBounds_toArray, List.set_cons_zero, List.set_cons_succ, i64_w, i32_w]
                   rfl
                  refine yq_ (i := 32) (N := some 76) bq_26 (any_of HT_.out (by kernel_rfl)) ?_
                  refine yq_ (i := 33) (N := some 77) bq_27 (any_of HT_.out (by kernel_rfl)) ?_
                  refine yq_ (i := 34) (N := some 78) bq_28 (any_of HT_.out (by kernel_rfl)) ?_
                  refine done_ (done_of HT_.out (by kernel_rfl)) ?_
                  try go_wp2
                  go_meet
                  case rel => exact ⟨_, (!(Op.bytesLess (((rd_T75 l1_0 (ji56)).f0).toList) (((rd_T75 l1_0 x5_2).f0).toList))), (by first | rfl | (simp; done) | (simp only [← hji56] <;> (first | rfl | simp)) | (simp [*]; done)), H', ⟨by have := HJ2.out; have := HK2.out; first | omega | exact Nat.le_refl _⟩, ⟨by (with_reducible repeat (first | refine blk_drewN ?_ _ | refine blk_drew ?_ | refine blk_alloc ?_ _)); exact BK182.out⟩, ⟨by (with_reducible repeat (first | refine blk_drewN ?_ _ | refine blk_drew ?_ | refine blk_alloc ?_ _)); exact BK183.out⟩, ⟨by (with_reducible repeat (first | refine blk_drewN ?_ _ | refine blk_drew ?_ | refine blk_alloc ?_ _)); exact BK190.out⟩, ⟨by repeat (first | (with_reducible first | exact HB.out | apply below_alloc | apply pw_below_drewN | apply below_drew1 | refine below_set ?_ GE182.out | refine below_set ?_ GE183.out | refine below_set ?_ GE190.out) | exact HB.out)⟩⟩
                 ·rw [if_neg c58] at H
                  exact absurd H (by simp)
                ·rw [if_neg c57] at H
                 exact absurd H (by simp)
               ·rw [if_neg c55] at H
                have c55b0 : decide (0 < x5_2) = false := decide_eq_false c55
                clear c55
                have H' := Aside0.mk H
                clear H
                try go_wp2
                have n0_ := Aside0.mk (blk_drew BK182.out)
                have n1_ := Aside0.mk (blk_drew BK183.out)
                have n2_ := Aside0.mk (blk_drew BK190.out)
                have n3_ := Aside0.mk (below_drew1 HB.out)
                clear BK182
                clear BK183
                clear BK190
                clear HB
                have BK182 := n0_
                have BK183 := n1_
                have BK190 := n2_
                have HB := n3_
                clear n0_ n1_ n2_ n3_
                have p194 : 0 ≤ (t192 : Int) := of_decide_eq_true tq_6
                have q194 : t192 < (l1_0.length : Int) := of_decide_eq_true tq_6
                obtain ⟨ad194, e194, hx194_0, hx194_1, hx194_2⟩ := at_T75 HR1_0.out t192 p194 q194
                have hw194_2 := hx194_2
                have hw194_1 := hx194_1
                have hw194_0 := hx194_0
                (try rw [← Nbq53.out] at hx194_1)
                (try rw [← Nbq53.out] at hw194_1)
                obtain rfl : ad189 = ad194 := (by injection e194)
                replace hx194_0 := (HB.out.cell (World.block_lt_of_cell? w _ hx194_0)).trans hx194_0
                replace hx194_1 := (HB.out.cell (World.block_lt_of_cell? w _ hx194_1)).trans hx194_1
                replace hx194_2 := (HB.out.cell (World.block_lt_of_cell? w _ hx194_2)).trans hx194_2
                replace p194 := eq_true p194
                replace q194 := eq_true q194
                refine start_ (n := 35) (S := fun w' => w'.cell? ⟨gb183, 0, none⟩ = some (.slice (some ad189) l1_0.length c1_0) ∧ w'.cell? (ad189.add ((t192).toNat * 3)) = some (.string ((rd_T75 l1_0 t192).f0)) ∧ w'.cell? ⟨(ad189.add ((t192).toNat * 3)).block, (ad189.add ((t192).toNat * 3)).off + 1, none⟩ = some (.bool true) ∧ w'.cell? ⟨(ad189.add ((t192).toNat * 3)).block, (ad189.add ((t192).toNat * 3)).off + 2, none⟩ = some (.string ((rd_T75 l1_0 t192).f2))) (ds := []) bq_0 (by kernel_rfl) rfl rfl ⟨(blk_cell BK183.out 0).trans rfl, ((HB.out.cell (World.block_lt_of_cell? w _ hw194_0)).trans hw194_0), ((HB.out.cell (World.block_lt_of_cell? w _ hw194_1)).trans hw194_1), ((HB.out.cell (World.block_lt_of_cell? w _ hw194_2)).trans hw194_2)⟩ (fun hHeld => ?_); refine with_tabW spec_ViewOk.tab9 spec_ViewOk.bits9 (fun HT_ HW_ => ?_)
                generalize w39.drew = w60 at BK182 BK183 BK190 HB hx194_0 hx194_1 hx194_2 hHeld ⊢
                refine yq_ (i := 0) (N := some 44) bq_1 (any_of HT_.out (by kernel_rfl)) ?_
                refine yq_ (i := 1) (N := some 45) bq_2 (any_of HT_.out (by kernel_rfl)) ?_
                refine yq_ (i := 2) (N := some 46) bq_3 (any_of HT_.out (by kernel_rfl)) ?_
                refine yq_ (i := 3) (N := some 47) bq_4 (any_of HT_.out (by kernel_rfl)) ?_
                refine yq_ (i := 4) (N := some 48) bq_5 (any_of HT_.out (by kernel_rfl)) ?_
                refine yq_ (i := 5) (N := some 49) bq_6 (any_of HT_.out (by kernel_rfl)) ?_
                refine yq_ (i := 6) (N := some 50) bq_7 (any_of HT_.out (by kernel_rfl)) ?_
                refine yq_ (i := 7) (N := some 51) bq_8 (any_of HT_.out (by kernel_rfl)) ?_
                refine yq_ (i := 8) (N := some 52) bq_9 (any_of HT_.out (by kernel_rfl)) ?_
                refine yq_ (i := 9) (N := some 53) bq_10 (any_of HT_.out (by kernel_rfl)) ?_
                refine yq_ (i := 11) (N := some 55) bq_97 (any_of HT_.out (by kernel_rfl)) ?_
                refine take_ (i := 10) (N := some 54) (v := ?_) (a' := ?_) bq_11 rfl rfl (take_ofW HT_.out HW_.out (by kernel_rfl)) (fun _ _ _ h => h) (Or.inl ⟨by rfl, ?_⟩) hHeld ?_ ?_
                rotate_left
                ·rintro w' ⟨s0, s1, s2, s3⟩
                 go_simp
                 with_reducible rfl
                rotate_left
                ·simp only [Act.put, List.setIfInBounds_toArray, List.set_cons_zero, List.set_cons_succ, i64_w, i32_w]
                 rfl
                refine yq_ (i := 12) (N := some 56) bq_12 (any_of HT_.out (by kernel_rfl)) ?_
                refine yq_ (i := 13) (N := some 57) bq_13 (any_of HT_.out (by kernel_rfl)) ?_
                refine take_ (i := 14) (N := some 58) (v := ?_) (a' := ?_) bq_14 rfl rfl (take_ofW HT_.out HW_.out (by kernel_rfl)) (fun _ _ _ h => h) (Or.inl ⟨by rfl, ?_⟩) hHeld ?_ ?_
                rotate_left
                ·rintro w' ⟨s0, s1, s2, s3⟩
                 go_simp
                 with_reducible rfl
                rotate_left
                ·simp only [Act.put, List.setIfInBounds_toArray, List.set_cons_zero, List.set_cons_succ, i64_w, i32_w]
                 rfl
                refine yq_ (i := 15) (N := some 59) bq_15 (any_of HT_.out (by kernel_rfl)) ?_
                refine yq_ (i := 16) (N := some 60) bq_16 (any_of HT_.out (by kernel_rfl)) ?_
                refine yq_ (i := 17) (N := some 61) bq_17 (any_of HT_.out (by kernel_rfl)) ?_
                refine yq_ (i := 18) (N := some 62) bq_18 (any_of HT_.out (by kernel_rfl)) ?_
                refine yq_ (i := 19) (N := some 63) bq_19 (any_of HT_.out (by kernel_rfl)) ?_
                refine yq_ (i := 20) (N := some 64) bq_20 (any_of HT_.out (by kernel_rfl)) ?_
                refine yq_ (i := 21) (N := some 65) bq_21 (any_of HT_.out (by kernel_rfl)) ?_
                refine yq_ (i := 22) (N := some 66) bq_22 (any_of HT_.out (by kernel_rfl)) ?_
                refine uq_ (i := 23) (N := some 67) bq_23 (any_of HT_.out (by kernel_rfl)) ?_
                refine uq_ (i := 24) (N := some 68) bq_29 (any_of HT_.out (by kernel_rfl)) ?_
                refine uq_ (i := 25) (N := some 69) bq_30 (any_of HT_.out (by kernel_rfl)) ?_
                refine uq_ (i := 26) (N := some 70) bq_31 (any_of HT_.out (by kernel_rfl)) ?_
                refine uq_ (i := 27) (N := some 71) bq_32 (any_of HT_.out (by kernel_rfl)) ?_
                refine uq_ (i := 28) (N := some 72) bq_33 (any_of HT_.out (by kernel_rfl)) ?_
                refine uq_ (i := 29) (N := some 73) bq_34 (any_of HT_.out (by kernel_rfl)) ?_
                refine uq_ (i := 30) (N := some 74) bq_24 (any_of HT_.out (by kernel_rfl)) ?_
                refine uq_ (i := 31) (N := some 75) bq_25 (any_of HT_.out (by kernel_rfl)) ?_
                refine uq_ (i := 32) (N := some 76) bq_26 (any_of HT_.out (by kernel_rfl)) ?_
                refine yq_ (i := 33) (N := some 77) bq_27 (any_of HT_.out (by kernel_rfl)) ?_
                refine yq_ (i := 34) (N := some 78) bq_28 (any_of HT_.out (by kernel_rfl)) ?_
                refine done_ (done_of HT_.out (by kernel_rfl)) ?_
                try go_wp2
                go_meet
                case rel => exact ⟨_, (false), tq_8, H', ⟨by have := HJ2.out; have := HK2.out; first | omega | exact Nat.le_refl _⟩, ⟨by (with_reducible repeat (first | refine blk_drewN ?_ _ | refine blk_drew ?_ | refine blk_alloc ?_ _)); exact BK182.out⟩, ⟨by (with_reducible repeat (first | refine blk_drewN ?_ _ | refine blk_drew ?_ | refine blk_alloc ?_ _)); exact BK183.out⟩, ⟨by (with_reducible repeat (first | refine blk_drewN ?_ _ | refine blk_drew ?_ | refine blk_alloc ?_ _)); exact BK190.out⟩, ⟨by repeat (first | (with_reducible first | exact HB.out | apply below_alloc | apply pw_below_drewN | apply below_drew1 | refine below_set ?_ GE182.out | refine below_set ?_ GE183.out | refine below_set ?_ GE190.out) | exact HB.out)⟩⟩
              ·replace c54 := Bool.eq_false_iff.mpr c54
               subst c54
               have H1 : (spec_ViewOk.j2 k2 x5_2 true a0_0 a0_1 a0_2 a0_3 l1_0 ((rd_T75 l1_0 x5_2).f0) ((rd_T75 l1_0 x5_2).f1) ((rd_T75 l1_0 x5_2).f2)) = some r := by rw [if_neg (show ¬ (false = true) by decide)] at H; exact H
               clear H
               have H := H1
               clear H1
               have H' := Aside0.mk H
               clear H
               try go_wp2
               have n0_ := Aside0.mk (blk_drew BK182.out)
               have n1_ := Aside0.mk (blk_drew BK183.out)
               have n2_ := Aside0.mk (blk_drew BK190.out)
               have n3_ := Aside0.mk (below_drew1 HB.out)
               clear BK182
               clear BK183
               clear BK190
               clear HB
               have BK182 := n0_
               have BK183 := n1_
               have BK190 := n2_
               have HB := n3_
               clear n0_ n1_ n2_ n3_
               have p194 : 0 ≤ (t192 : Int) := of_decide_eq_true tq_6
               have q194 : t192 < (l1_0.length : Int) := of_decide_eq_true tq_6
               obtain ⟨ad194, e194, hx194_0, hx194_1, hx194_2⟩ := at_T75 HR1_0.out t192 p194 q194
               have hw194_2 := hx194_2
               have hw194_1 := hx194_1
               have hw194_0 := hx194_0
               (try rw [← Nbq53.out] at hx194_1)
               (try rw [← Nbq53.out] at hw194_1)
               obtain rfl : ad189 = ad194 := (by injection e194)
               replace hx194_0 := (HB.out.cell (World.block_lt_of_cell? w _ hx194_0)).trans hx194_0
               replace hx194_1 := (HB.out.cell (World.block_lt_of_cell? w _ hx194_1)).trans hx194_1
               replace hx194_2 := (HB.out.cell (World.block_lt_of_cell? w _ hx194_2)).trans hx194_2
               replace p194 := eq_true p194
               replace q194 := eq_true q194
               refine start_ (n := 35) (S := fun w' => w'.cell? ⟨gb183, 0, none⟩ = some (.slice (some ad189) l1_0.length c1_0) ∧ w'.cell? (ad189.add ((t192).toNat * 3)) = some (.string ((rd_T75 l1_0 t192).f0)) ∧ w'.cell? ⟨(ad189.add ((t192).toNat * 3)).block, (ad189.add ((t192).toNat * 3)).off + 1, none⟩ = some (.bool false) ∧ w'.cell? ⟨(ad189.add ((t192).toNat * 3)).block, (ad189.add ((t192).toNat * 3)).off + 2, none⟩ = some (.string ((rd_T75 l1_0 t192).f2))) (ds := []) bq_0 (by kernel_rfl) rfl rfl ⟨(blk_cell BK183.out 0).trans rfl, ((HB.out.cell (World.block_lt_of_cell? w _ hw194_0)).trans hw194_0), ((HB.out.cell (World.block_lt_of_cell? w _ hw194_1)).trans hw194_1), ((HB.out.cell (World.block_lt_of_cell? w _ hw194_2)).trans hw194_2)⟩ (fun hHeld => ?_); refine with_tabW spec_ViewOk.tab9 spec_ViewOk.bits9 (fun HT_ HW_ => ?_)
               generalize w39.drew = w61 at BK182 BK183 BK190 HB hx194_0 hx194_1 hx194_2 hHeld ⊢
               refine yq_ (i := 0) (N := some 44) bq_1 (any_of HT_.out (by kernel_rfl)) ?_
               refine yq_ (i := 1) (N := some 45) bq_2 (any_of HT_.out (by kernel_rfl)) ?_
               refine yq_ (i := 2) (N := some 46) bq_3 (any_of HT_.out (by kernel_rfl)) ?_
               refine yq_ (i := 3) (N := some 47) bq_4 (any_of HT_.out (by kernel_rfl)) ?_
               refine yq_ (i := 4) (N := some 48) bq_5 (any_of HT_.out (by kernel_rfl)) ?_
               refine yq_ (i := 5) (N := some 49) bq_6 (any_of HT_.out (by kernel_rfl)) ?_
               refine yq_ (i := 6) (N := some 50) bq_7 (any_of HT_.out (by kernel_rfl)) ?_
               refine yq_ (i := 7) (N := some 51) bq_8 (any_of HT_.out (by kernel_rfl)) ?_
               refine yq_ (i := 8) (N := some 52) bq_9 (any_of HT_.out (by kernel_rfl)) ?_
               refine yq_ (i := 9) (N := some 53) bq_10 (any_of HT_.out (by kernel_rfl)) ?_
               refine yq_ (i := 11) (N := some 55) bq_97 (any_of HT_.out (by kernel_rfl)) ?_
               refine take_ (i := 10) (N := some 54) (v := ?_) (a' := ?_) bq_11 rfl rfl (take_ofW HT_.out HW_.out (by kernel_rfl)) (fun _ _ _ h => h) (Or.inl ⟨by rfl, ?_⟩) hHeld ?_ ?_
               rotate_left
               ·rintro w' ⟨s0, s1, s2, s3⟩
                go_simp
                with_reducible rfl
               rotate_left
               ·simp only [Act.put, List.setIfInBounds_toArray, List.set_cons_zero, List.set_cons_succ, i64_w, i32_w]
                rfl
               refine yq_ (i := 12) (N := some 56) bq_12 (any_of HT_.out (by kernel_rfl)) ?_
               refine yq_ (i := 13) (N := some 57) bq_13 (any_of HT_.out (by kernel_rfl)) ?_
               refine take_ (i := 14) (N := some 58) (v := ?_) (a' := ?_) bq_14 rfl rfl (take_ofW HT_.out HW_.out (by kernel_rfl)) (fun _ _ _ h => h) (Or.inl ⟨by rfl, ?_⟩) hHeld ?_ ?_
               rotate_left
               ·rintro w' ⟨s0, s1, s2, s3⟩
                go_simp
                with_reducible rfl
               rotate_left
               ·simp only [Act.put, List.setIfInBounds_toArray, List.set_cons_zero, List.set_cons_succ, i64_w, i32_w]
                rfl
               refine yq_ (i := 15) (N := some 59) bq_15 (any_of HT_.out (by kernel_rfl)) ?_
               refine yq_ (i := 16) (N := some 60) bq_16 (any_of HT_.out (by kernel_rfl)) ?_
               refine yq_ (i := 17) (N := some 61) bq_17 (any_of HT_.out (by kernel_rfl)) ?_
               refine yq_ (i := 18) (N := some 62) bq_18 (any_of HT_.out (by kernel_rfl)) ?_
               refine yq_ (i := 19) (N := some 63) bq_19 (any_of HT_.out (by kernel_rfl)) ?_
               refine uq_ (i := 20) (N := some 64) bq_20 (any_of HT_.out (by kernel_rfl)) ?_
               refine uq_ (i := 21) (N := some 65) bq_21 (any_of HT_.out (by kernel_rfl)) ?_
               refine uq_ (i := 22) (N := some 66) bq_22 (any_of HT_.out (by kernel_rfl)) ?_
               refine uq_ (i := 23) (N := some 67) bq_23 (any_of HT_.out (by kernel_rfl)) ?_
               refine uq_ (i := 24) (N := some 68) bq_29 (any_of HT_.out (by kernel_rfl)) ?_
               refine uq_ (i := 25) (N := some 69) bq_30 (any_of HT_.out (by kernel_rfl)) ?_
               refine uq_ (i := 26) (N := some 70) bq_31 (any_of HT_.out (by kernel_rfl)) ?_
               refine uq_ (i := 27) (N := some 71) bq_32 (any_of HT_.out (by kernel_rfl)) ?_
               refine uq_ (i := 28) (N := some 72) bq_33 (any_of HT_.out (by kernel_rfl)) ?_
               refine uq_ (i := 29) (N := some 73) bq_34 (any_of HT_.out (by kernel_rfl)) ?_
               refine uq_ (i := 30) (N := some 74) bq_24 (any_of HT_.out (by kernel_rfl)) ?_
               refine uq_ (i := 31) (N := some 75) bq_25 (any_of HT_.out (by kernel_rfl)) ?_
               refine uq_ (i := 32) (N := some 76) bq_26 (any_of HT_.out (by kernel_rfl)) ?_
               refine uq_ (i := 33) (N := some 77) bq_27 (any_of HT_.out (by kernel_rfl)) ?_
               refine yq_ (i := 34) (N := some 78) bq_28 (any_of HT_.out (by kernel_rfl)) ?_
               refine done_ (done_of HT_.out (by kernel_rfl)) ?_
               try go_wp2
               go_meet
               case rel => exact ⟨_, (true), tq_8, H', ⟨by have := HJ2.out; have := HK2.out; first | omega | exact Nat.le_refl _⟩, ⟨by (with_reducible repeat (first | refine blk_drewN ?_ _ | refine blk_drew ?_ | refine blk_alloc ?_ _)); exact BK182.out⟩, ⟨by (with_reducible repeat (first | refine blk_drewN ?_ _ | refine blk_drew ?_ | refine blk_alloc ?_ _)); exact BK183.out⟩, ⟨by (with_reducible repeat (first | refine blk_drewN ?_ _ | refine blk_drew ?_ | refine blk_alloc ?_ _)); exact BK190.out⟩, ⟨by repeat (first | (with_reducible first | exact HB.out | apply below_alloc | apply pw_below_drewN | apply below_drew1 | refine below_set ?_ GE182.out | refine below_set ?_ GE183.out | refine below_set ?_ GE190.out) | exact HB.out)⟩⟩
             ·rw [if_neg c52] at H
              exact absurd H (by simp)
            ·rw [if_neg c51] at H
             exact absurd H (by simp)
        case rest =>
         clear HC30
         try clear c1
         try clear p1
         try clear q1
         try clear hx1
         try clear p2
         try clear c5
         try clear q5
         try clear p19
         try clear q19
         try clear hx19
         try clear c51
         try clear c52
         try clear q53
         try clear c54
         try clear c55
         try clear c55b0
         try clear c57
         try clear c58
         try clear hx194_0
         try clear hx194_1
         try clear hx194_2
         try clear p194
         try clear q194
         obtain ⟨kq, x78_29, rfl, HA, HJ29, BK182, BK183, BK190, HB⟩ := hcut
         cases kq with
         | zero => exact absurd HA.out (by simp [spec_ViewOk.j2])
         | succ kj29 =>
          have H := HA.out
          clear HA
          simp only [spec_ViewOk.j2] at H
          by_cases c62 : x78_29 = true
          ·subst c62
           have H1 : (some false) = some r := by rw [if_pos rfl] at H; exact H
           clear H
           have H := H1
           clear H1
           obtain rfl := Option.some.inj H
           go_wp2
           go_ret
           exact ⟨by first | rfl | (simp [errW_none, errW_some] <;> rfl) | (simp [*, errW_none, errW_some] <;> rfl), by repeat (first | (with_reducible first | exact HB.out | apply below_alloc | apply pw_below_drewN | apply below_drew1 | refine below_set ?_ GE182.out | refine below_set ?_ GE183.out | refine below_set ?_ GE190.out) | exact HB.out)⟩
          ·replace c62 := Bool.eq_false_iff.mpr c62
           subst c62
           have H1 : (if ((rd_T75 l1_0 x5_2).f1) = true then (if ((rd_T75 l1_0 x5_2).f2).toList = ([] : List UInt8) then ((spec_KidsOf.f kj29 l1_0 ((rd_T75 l1_0 x5_2).f0)).bind fun t196 => (if (t196.length : Int) > 6 then (some false) else (if (((rd_T75 l1_0 x5_2).f2).size : Int) > 128 then (some false) else (spec_ViewOk.l0 kj29 (wrap64 (x5_2 + 1)) a0_0 a0_1 a0_2 a0_3 l1_0)))) else (some false)) else (if (((rd_T75 l1_0 x5_2).f2).size : Int) > 128 then (some false) else (spec_ViewOk.l0 kj29 (wrap64 (x5_2 + 1)) a0_0 a0_1 a0_2 a0_3 l1_0))) = some r := by rw [if_neg (show ¬ (false = true) by decide)] at H; exact H
           clear H
           have H := H1
           clear H1
           by_cases c63 : ((rd_T75 l1_0 x5_2).f1) = true
           ·rw [if_pos c63] at H
            have c63b0 : ((rd_T75 l1_0 x5_2).f1) = true := c63
            clear c63
            by_cases c64 : ((rd_T75 l1_0 x5_2).f2).toList = ([] : List UInt8)
            ·rw [if_pos c64] at H
             have c64b0 : (((rd_T75 l1_0 x5_2).f2).toList == ([] : List UInt8)) = true := beq_iff_eq.mpr c64
             have c64b1 : (((rd_T75 l1_0 x5_2).f2).toList != ([] : List UInt8)) = false := bne_eq_false_iff_eq.mpr c64
             clear c64
             replace H := Option.bind_eq_some_iff.mp H
             obtain ⟨t196, A650, H⟩ := H
             replace H : (if (t196.length : Int) > 6 then (some false) else (if (((rd_T75 l1_0 x5_2).f2).size : Int) > 128 then (some false) else (spec_ViewOk.l0 kj29 (wrap64 (x5_2 + 1)) a0_0 a0_1 a0_2 a0_3 l1_0))) = some r := H
             have A65 := Aside0.mk A650
             clear A650
             by_cases c66 : (t196.length : Int) > 6
             ·rw [if_pos c66] at H
              have c66b0 : decide (6 < (t196.length : Int)) = true := decide_eq_true c66
              have c66b1 : decide (6 < t196.length) = true := decide_eq_true (by omega)
              clear c66
              obtain rfl := Option.some.inj H
              have hnb67 := NB190_182.out
              have hnc67 := NB182_190.out
              have hnb68 := NB190_183.out
              have hnc68 := NB183_190.out
              have hcz69_0 : wc.cell? ⟨gb190, 0, none⟩ = some (.string ((rd_T75 l1_0 x5_2).f0)) := (blk_cell BK190.out 0).trans rfl
              have hcz69_1 : wc.cell? ⟨gb190, 1, none⟩ = some (.bool ((rd_T75 l1_0 x5_2).f1)) := (blk_cell BK190.out 1).trans rfl
              have hcz69_2 : wc.cell? ⟨gb190, 2, none⟩ = some (.string ((rd_T75 l1_0 x5_2).f2)) := (blk_cell BK190.out 2).trans rfl
              have hfz69_0 := blk_frozen BK190.out 0
              have hfz69_1 := blk_frozen BK190.out 1
              have hfz69_2 := blk_frozen BK190.out 2
              have hnb70 := NB183_182.out
              have hnc70 := NB182_183.out
              have hcz71_0 : wc.cell? ⟨gb183, 0, none⟩ = some (.slice (some ad189) l1_0.length c1_0) := (blk_cell BK183.out 0).trans rfl
              have hfz71_0 := blk_frozen BK183.out 0
              go_wp2_with (first | (go_at_call 29; (with_reducible refine (spec_KidsOf.calls kj29 _ _ l1_0 ((rd_T75 l1_0 x5_2).f0) t196 _ ?side1 ?side2 A65.out).mono ?_); (case side1 => exact tq_4); (case side2 => exact HC1_0.out); rintro e w72 ⟨v197, rfl, ho0, hb⟩; have n0_ := Aside0.mk (Kd.R_lower ho0 (below_size tq_17)); have n1_ := Aside0.mk (blk_below (g := gb182) (o := .cells #[.int .i64 a0_0, .int .i64 a0_1, .int .i64 a0_2, .int .i64 a0_3] 58 (0, 0)) tq_16 hb); have n2_ := Aside0.mk (blk_below (g := gb183) (o := .cells #[.slice (some ad189) l1_0.length c1_0] 37 (0, 0)) tq_21 hb); have n3_ := Aside0.mk (blk_below (g := gb190) (o := .cells #[.string ((rd_T75 l1_0 x5_2).f0), .bool ((rd_T75 l1_0 x5_2).f1), .string ((rd_T75 l1_0 x5_2).f2)] 75 (0, 0)) tq_46 hb); have n4_ := Aside0.mk (below_step tq_17 hb); clear BK182; clear BK183; clear BK190; clear HB; have HO198 := n0_; have BK182 := n1_; have BK183 := n2_; have BK190 := n3_; have HB := n4_; clear n0_ n1_ n2_ n3_ n4_; (try clear hb); (try clear hb2); (try clear hk); (try clear hi); (try clear ho0); obtain ⟨Ao73, co73, eo73⟩ := Kd.R_slice HO198.out; subst eo73))
              go_ret
              exact ⟨by first | rfl | (simp [errW_none, errW_some] <;> rfl) | (simp [*, errW_none, errW_some] <;> rfl), by repeat (first | (with_reducible first | exact HB.out | apply below_alloc | apply pw_below_drewN | apply below_drew1 | refine below_set ?_ GE182.out | refine below_set ?_ GE183.out | refine below_set ?_ GE190.out) | exact HB.out)⟩
             ·rw [if_neg c66] at H
              have c66b0 : decide (6 < (t196.length : Int)) = false := decide_eq_false c66
              have c66b1 : decide (6 < t196.length) = false := decide_eq_false (by omega)
              clear c66
              by_cases c74 : (((rd_T75 l1_0 x5_2).f2).size : Int) > 128
              ·rw [if_pos c74] at H
               have c74b0 : decide (128 < (((rd_T75 l1_0 x5_2).f2).size : Int)) = true := decide_eq_true c74
               have c74b1 : decide (128 < ((rd_T75 l1_0 x5_2).f2).size) = true := decide_eq_true (by omega)
               clear c74
               obtain rfl := Option.some.inj H
               have hnb75 := NB190_182.out
               have hnc75 := NB182_190.out
               have hnb76 := NB190_183.out
               have hnc76 := NB183_190.out
               have hcz77_0 : wc.cell? ⟨gb190, 0, none⟩ = some (.string ((rd_T75 l1_0 x5_2).f0)) := (blk_cell BK190.out 0).trans rfl
               have hcz77_1 : wc.cell? ⟨gb190, 1, none⟩ = some (.bool ((rd_T75 l1_0 x5_2).f1)) := (blk_cell BK190.out 1).trans rfl
               have hcz77_2 : wc.cell? ⟨gb190, 2, none⟩ = some (.string ((rd_T75 l1_0 x5_2).f2)) := (blk_cell BK190.out 2).trans rfl
               have hfz77_0 := blk_frozen BK190.out 0
               have hfz77_1 := blk_frozen BK190.out 1
               have hfz77_2 := blk_frozen BK190.out 2
               have hnb78 := NB183_182.out
               have hnc78 := NB182_183.out
               have hcz79_0 : wc.cell? ⟨gb183, 0, none⟩ = some (.slice (some ad189) l1_0.length c1_0) := (blk_cell BK183.out 0).trans rfl
               have hfz79_0 := blk_frozen BK183.out 0
               go_wp2_with (first | (go_at_call 29; (with_reducible refine (spec_KidsOf.calls kj29 _ _ l1_0 ((rd_T75 l1_0 x5_2).f0) t196 _ ?side1 ?side2 A65.out).mono ?_); (case side1 => exact tq_4); (case side2 => exact HC1_0.out); rintro e w80 ⟨v197, rfl, ho0, hb⟩; have n0_ := Aside0.mk (Kd.R_lower ho0 (below_size tq_17)); have n1_ := Aside0.mk (blk_below (g := gb182) (o := .cells #[.int .i64 a0_0, .int .i64 a0_1, .int .i64 a0_2, .int .i64 a0_3] 58 (0, 0)) tq_16 hb); have n2_ := Aside0.mk (blk_below (g := gb183) (o := .cells #[.slice (some ad189) l1_0.length c1_0] 37 (0, 0)) tq_21 hb); have n3_ := Aside0.mk (blk_below (g := gb190) (o := .cells #[.string ((rd_T75 l1_0 x5_2).f0), .bool ((rd_T75 l1_0 x5_2).f1), .string ((rd_T75 l1_0 x5_2).f2)] 75 (0, 0)) tq_46 hb); have n4_ := Aside0.mk (below_step tq_17 hb); clear BK182; clear BK183; clear BK190; clear HB; have HO198 := n0_; have BK182 := n1_; have BK183 := n2_; have BK190 := n3_; have HB := n4_; clear n0_ n1_ n2_ n3_ n4_; (try clear hb); (try clear hb2); (try clear hk); (try clear hi); (try clear ho0); obtain ⟨Ao81, co81, eo81⟩ := Kd.R_slice HO198.out; subst eo81; have hcz82_0 : w80.cell? ⟨gb190, 0, none⟩ = some (.string ((rd_T75 l1_0 x5_2).f0)) := (blk_cell BK190.out 0).trans rfl; have hcz82_1 : w80.cell? ⟨gb190, 1, none⟩ = some (.bool ((rd_T75 l1_0 x5_2).f1)) := (blk_cell BK190.out 1).trans rfl; have hcz82_2 : w80.cell? ⟨gb190, 2, none⟩ = some (.string ((rd_T75 l1_0 x5_2).f2)) := (blk_cell BK190.out 2).trans rfl; have hfz82_0 := blk_frozen BK190.out 0; have hfz82_1 := blk_frozen BK190.out 1; have hfz82_2 := blk_frozen BK190.out 2))
               go_ret
               exact ⟨by first | rfl | (simp [errW_none, errW_some] <;> rfl) | (simp [*, errW_none, errW_some] <;> rfl), by repeat (first | (with_reducible first | exact HB.out | apply below_alloc | apply pw_below_drewN | apply below_drew1 | refine below_set ?_ GE182.out | refine below_set ?_ GE183.out | refine below_set ?_ GE190.out) | exact HB.out)⟩
              ·rw [if_neg c74] at H
               have c74b0 : decide (128 < (((rd_T75 l1_0 x5_2).f2).size : Int)) = false := decide_eq_false c74
               have c74b1 : decide (128 < ((rd_T75 l1_0 x5_2).f2).size) = false := decide_eq_false (by omega)
               clear c74
               have H' := Aside0.mk H
               clear H
               have hnb83 := NB190_182.out
               have hnc83 := NB182_190.out
               have hnb84 := NB190_183.out
               have hnc84 := NB183_190.out
               have hcz85_0 : wc.cell? ⟨gb190, 0, none⟩ = some (.string ((rd_T75 l1_0 x5_2).f0)) := (blk_cell BK190.out 0).trans rfl
               have hcz85_1 : wc.cell? ⟨gb190, 1, none⟩ = some (.bool ((rd_T75 l1_0 x5_2).f1)) := (blk_cell BK190.out 1).trans rfl
               have hcz85_2 : wc.cell? ⟨gb190, 2, none⟩ = some (.string ((rd_T75 l1_0 x5_2).f2)) := (blk_cell BK190.out 2).trans rfl
               have hfz85_0 := blk_frozen BK190.out 0
               have hfz85_1 := blk_frozen BK190.out 1
               have hfz85_2 := blk_frozen BK190.out 2
               have hnb86 := NB183_182.out
               have hnc86 := NB182_183.out
               have hcz87_0 : wc.cell? ⟨gb183, 0, none⟩ = some (.slice (some ad189) l1_0.length c1_0) := (blk_cell BK183.out 0).trans rfl
               have hfz87_0 := blk_frozen BK183.out 0
               go_wp2_with (first | (go_at_call 29; (with_reducible refine (spec_KidsOf.calls kj29 _ _ l1_0 ((rd_T75 l1_0 x5_2).f0) t196 _ ?side1 ?side2 A65.out).mono ?_); (case side1 => exact tq_4); (case side2 => exact HC1_0.out); rintro e w88 ⟨v197, rfl, ho0, hb⟩; have n0_ := Aside0.mk (Kd.R_lower ho0 (below_size tq_17)); have n1_ := Aside0.mk (blk_below (g := gb182) (o := .cells #[.int .i64 a0_0, .int .i64 a0_1, .int .i64 a0_2, .int .i64 a0_3] 58 (0, 0)) tq_16 hb); have n2_ := Aside0.mk (blk_below (g := gb183) (o := .cells #[.slice (some ad189) l1_0.length c1_0] 37 (0, 0)) tq_21 hb); have n3_ := Aside0.mk (blk_below (g := gb190) (o := .cells #[.string ((rd_T75 l1_0 x5_2).f0), .bool ((rd_T75 l1_0 x5_2).f1), .string ((rd_T75 l1_0 x5_2).f2)] 75 (0, 0)) tq_46 hb); have n4_ := Aside0.mk (below_step tq_17 hb); clear BK182; clear BK183; clear BK190; clear HB; have HO198 := n0_; have BK182 := n1_; have BK183 := n2_; have BK190 := n3_; have HB := n4_; clear n0_ n1_ n2_ n3_ n4_; (try clear hb); (try clear hb2); (try clear hk); (try clear hi); (try clear ho0); obtain ⟨Ao89, co89, eo89⟩ := Kd.R_slice HO198.out; subst eo89; have hcz90_0 : w88.cell? ⟨gb190, 0, none⟩ = some (.string ((rd_T75 l1_0 x5_2).f0)) := (blk_cell BK190.out 0).trans rfl; have hcz90_1 : w88.cell? ⟨gb190, 1, none⟩ = some (.bool ((rd_T75 l1_0 x5_2).f1)) := (blk_cell BK190.out 1).trans rfl; have hcz90_2 : w88.cell? ⟨gb190, 2, none⟩ = some (.string ((rd_T75 l1_0 x5_2).f2)) := (blk_cell BK190.out 2).trans rfl; have hfz90_0 := blk_frozen BK190.out 0; have hfz90_1 := blk_frozen BK190.out 1; have hfz90_2 := blk_frozen BK190.out 2))
               go_roundg kj29
               case measure => have := HJ2.out; have := HK2.out; have := HJ29.out; omega
               case rel => exact ⟨(wrap64 (x5_2 + 1)), tq_8, H', ⟨by have := HJ2.out; have := HK2.out; have := HJ29.out; omega⟩, ⟨by (with_reducible repeat (first | refine blk_drewN ?_ _ | refine blk_drew ?_ | refine blk_alloc ?_ _)); exact BK182.out⟩, ⟨by (with_reducible repeat (first | refine blk_drewN ?_ _ | refine blk_drew ?_ | refine blk_alloc ?_ _)); exact BK183.out⟩, ⟨by repeat (first | (with_reducible first | exact HB.out | apply below_alloc | apply pw_below_drewN | apply below_drew1 | refine below_set ?_ GE182.out | refine below_set ?_ GE183.out | refine below_set ?_ GE190.out) | exact HB.out)⟩⟩
            ·rw [if_neg c64] at H
             have c64b0 : (((rd_T75 l1_0 x5_2).f2).toList == ([] : List UInt8)) = false := beq_eq_false_iff_ne.mpr c64
             have c64b1 : (((rd_T75 l1_0 x5_2).f2).toList != ([] : List UInt8)) = true := bne_iff_ne.mpr c64
             obtain rfl := Option.some.inj H
             have hnb91 := NB190_182.out
             have hnc91 := NB182_190.out
             have hnb92 := NB190_183.out
             have hnc92 := NB183_190.out
             have hcz93_0 : wc.cell? ⟨gb190, 0, none⟩ = some (.string ((rd_T75 l1_0 x5_2).f0)) := (blk_cell BK190.out 0).trans rfl
             have hcz93_1 : wc.cell? ⟨gb190, 1, none⟩ = some (.bool ((rd_T75 l1_0 x5_2).f1)) := (blk_cell BK190.out 1).trans rfl
             have hcz93_2 : wc.cell? ⟨gb190, 2, none⟩ = some (.string ((rd_T75 l1_0 x5_2).f2)) := (blk_cell BK190.out 2).trans rfl
             have hfz93_0 := blk_frozen BK190.out 0
             have hfz93_1 := blk_frozen BK190.out 1
             have hfz93_2 := blk_frozen BK190.out 2
             go_wp2
             go_ret
             exact ⟨by first | rfl | (simp [errW_none, errW_some] <;> rfl) | (simp [*, errW_none, errW_some] <;> rfl), by repeat (first | (with_reducible first | exact HB.out | apply below_alloc | apply pw_below_drewN | apply below_drew1 | refine below_set ?_ GE182.out | refine below_set ?_ GE183.out | refine below_set ?_ GE190.out) | exact HB.out)⟩
           ·rw [if_neg c63] at H
            have c63b0 : ((rd_T75 l1_0 x5_2).f1) = false := by simpa using c63
            clear c63
            by_cases c94 : (((rd_T75 l1_0 x5_2).f2).size : Int) > 128
            ·rw [if_pos c94] at H
             have c94b0 : decide (128 < (((rd_T75 l1_0 x5_2).f2).size : Int)) = true := decide_eq_true c94
             have c94b1 : decide (128 < ((rd_T75 l1_0 x5_2).f2).size) = true := decide_eq_true (by omega)
             clear c94
             obtain rfl := Option.some.inj H
             have hnb95 := NB190_182.out
             have hnc95 := NB182_190.out
             have hnb96 := NB190_183.out
             have hnc96 := NB183_190.out
             have hcz97_0 : wc.cell? ⟨gb190, 0, none⟩ = some (.string ((rd_T75 l1_0 x5_2).f0)) := (blk_cell BK190.out 0).trans rfl
             have hcz97_1 : wc.cell? ⟨gb190, 1, none⟩ = some (.bool ((rd_T75 l1_0 x5_2).f1)) := (blk_cell BK190.out 1).trans rfl
             have hcz97_2 : wc.cell? ⟨gb190, 2, none⟩ = some (.string ((rd_T75 l1_0 x5_2).f2)) := (blk_cell BK190.out 2).trans rfl
             have hfz97_0 := blk_frozen BK190.out 0
             have hfz97_1 := blk_frozen BK190.out 1
             have hfz97_2 := blk_frozen BK190.out 2
             go_wp2
             go_ret
             exact ⟨by first | rfl | (simp [errW_none, errW_some] <;> rfl) | (simp [*, errW_none, errW_some] <;> rfl), by repeat (first | (with_reducible first | exact HB.out | apply below_alloc | apply pw_below_drewN | apply below_drew1 | refine below_set ?_ GE182.out | refine below_set ?_ GE183.out | refine below_set ?_ GE190.out) | exact HB.out)⟩
            ·rw [if_neg c94] at H
             have c94b0 : decide (128 < (((rd_T75 l1_0 x5_2).f2).size : Int)) = false := decide_eq_false c94
             have c94b1 : decide (128 < ((rd_T75 l1_0 x5_2).f2).size) = false := decide_eq_false (by omega)
             clear c94
             have H' := Aside0.mk H
             clear H
             have hnb98 := NB190_182.out
             have hnc98 := NB182_190.out
             have hnb99 := NB190_183.out
             have hnc99 := NB183_190.out
             have hcz100_0 : wc.cell? ⟨gb190, 0, none⟩ = some (.string ((rd_T75 l1_0 x5_2).f0)) := (blk_cell BK190.out 0).trans rfl
             have hcz100_1 : wc.cell? ⟨gb190, 1, none⟩ = some (.bool ((rd_T75 l1_0 x5_2).f1)) := (blk_cell BK190.out 1).trans rfl
             have hcz100_2 : wc.cell? ⟨gb190, 2, none⟩ = some (.string ((rd_T75 l1_0 x5_2).f2)) := (blk_cell BK190.out 2).trans rfl
             have hfz100_0 := blk_frozen BK190.out 0
             have hfz100_1 := blk_frozen BK190.out 1
             have hfz100_2 := blk_frozen BK190.out 2
             go_wp2
             go_roundg kj29
             case measure => have := HJ2.out; have := HK2.out; have := HJ29.out; omega
             case rel => exact ⟨(wrap64 (x5_2 + 1)), tq_8, H', ⟨by have := HJ2.out; have := HK2.out; have := HJ29.out; omega⟩, ⟨by (with_reducible repeat (first | refine blk_drewN ?_ _ | refine blk_drew ?_ | refine blk_alloc ?_ _)); exact BK182.out⟩, ⟨by (with_reducible repeat (first | refine blk_drewN ?_ _ | refine blk_drew ?_ | refine blk_alloc ?_ _)); exact BK183.out⟩, ⟨by repeat (first | (with_reducible first | exact HB.out | apply below_alloc | apply pw_below_drewN | apply below_drew1 | refine below_set ?_ GE182.out | refine below_set ?_ GE183.out | refine below_set ?_ GE190.out) | exact HB.out)⟩⟩
       ·rw [if_neg c27] at H
        exact absurd H (by simp)
      ·rw [if_neg c26] at H
       have c26b0 : decide (x5_2 < (l1_0.length : Int)) = false := decide_eq_false c26
       clear c26
       replace H := Option.bind_eq_some_iff.mp H
       obtain ⟨t188, A1010, H⟩ := H
       replace H : (some (decide (t188 ≤ a0_3))) = some r := H
       have A101 := Aside0.mk A1010
       clear A1010
       obtain rfl := Option.some.inj H
       have hnb102 := NB183_182.out
       have hnc102 := NB182_183.out
       have hcz103_0 : wr.cell? ⟨gb183, 0, none⟩ = some (.slice A1_0 l1_0.length c1_0) := (blk_cell BK183.out 0).trans rfl
       have hfz103_0 := blk_frozen BK183.out 0
       try go_wp2
       have n0_ := Aside0.mk (blk_drew BK182.out)
       have n1_ := Aside0.mk (blk_drew BK183.out)
       have n2_ := Aside0.mk (below_drew1 HB.out)
       clear BK182
       clear BK183
       clear HB
       have BK182 := n0_
       have BK183 := n1_
       have HB := n2_
       clear n0_ n1_ n2_
       refine start_ (n := 6) (S := fun w' => w'.cell? ⟨gb183, 0, none⟩ = some (.slice A1_0 l1_0.length c1_0) ∧ w'.cell? ⟨gb182, 0, none⟩ = some (.int .i64 a0_0) ∧ w'.cell? ⟨gb182, 1, none⟩ = some (.int .i64 a0_1) ∧ w'.cell? ⟨gb182, 2, none⟩ = some (.int .i64 a0_2) ∧ w'.cell? ⟨gb182, 3, none⟩ = some (.int .i64 a0_3)) (ds := []) bq_68 (by kernel_rfl) rfl rfl ⟨(blk_cell BK183.out 0).trans rfl, (blk_cell BK182.out 0).trans rfl, (blk_cell BK182.out 1).trans rfl, (blk_cell BK182.out 2).trans rfl, (blk_cell BK182.out 3).trans rfl⟩ (fun hHeld => ?_)
       generalize wr.drew = w104 at BK182 BK183 HB hHeld ⊢
       refine yq_ (i := 2) (N := some 102) #[false, false, true, false, false, false] (by kernel_rfl) ?_
       refine take_ (i := 0) (N := some 100) (v := ?_) (a' := ?_) bq_69 rfl rfl (by kernel_rfl) (fun _ _ _ h => h) (Or.inl ⟨by rfl, ?_⟩) hHeld ?_ ?_
       rotate_left
       ·rintro w' ⟨s0, s1, s2, s3, s4⟩
        go_simp
        with_reducible rfl
       rotate_left
       ·simp only [Act.put, List.setIfInBounds_toArray, List.set_cons_zero, List.set_cons_succ, i64_w, i32_w]
        rfl
       refine take_ (i := 3) (N := some 103) (v := ?_) (a' := ?_) #[true, false, true, true, false, false] rfl rfl (by kernel_rfl) (fun _ _ _ h => h) (Or.inl ⟨by rfl, ?_⟩) hHeld ?_ ?_
       rotate_left
       ·rintro w' ⟨s0, s1, s2, s3, s4⟩
        go_simp
        with_reducible rfl
       rotate_left
       ·simp only [Act.put, List.setIfInBounds_toArray, List.set_cons_zero, List.set_cons_succ, i64_w, i32_w]
        rfl
       refine one_ (i := 1) (N := some 101) bq_70 rfl rfl (by kernel_rfl) (by decide) (fun K hK => ?_)
       refine goes_ Tryd.func76 (by kernel_rfl) rfl #[.agg #[.slice A1_0 l1_0.length c1_0]] (by rfl) rfl rfl tq_1 ?_
       with_reducible refine (spec_PagesIn.calls k2 _ _ l1_0 t188 _ ?side1 ?side2 A101.out).mono ?_
       (case side1 => exact tq_4)
       (case side2 => exact HC1_0.out)
       rintro e w105 ⟨rfl, hb⟩
       refine ⟨_, rfl, ?_⟩
       have n0_ := Aside0.mk (blk_below (g := gb182) (o := .cells #[.int .i64 a0_0, .int .i64 a0_1, .int .i64 a0_2, .int .i64 a0_3] 58 (0, 0)) tq_16 hb)
       have n1_ := Aside0.mk (blk_below (g := gb183) (o := .cells #[.slice A1_0 l1_0.length c1_0] 37 (0, 0)) tq_21 hb)
       have n2_ := Aside0.mk (below_step tq_18 hb)
       clear BK182
       clear BK183
       clear HB
       have BK182 := n0_
       have BK183 := n1_
       have HB := n2_
       clear n0_ n1_ n2_
       (try clear hb)
       (try clear hb2)
       (try clear hk)
       (try clear hi)
       refine hK.out _ _ ⟨(blk_cell BK183.out 0).trans rfl, (blk_cell BK182.out 0).trans rfl, (blk_cell BK182.out 1).trans rfl, (blk_cell BK182.out 2).trans rfl, (blk_cell BK182.out 3).trans rfl⟩ (fun hHeld => ?_)
       clear hK K
       refine norm_ (a' := ?_) ?_ ?_
       rotate_left
       ·show Act.put _ (some 101) _ = _
        simp only [Act.put, List.setIfInBounds_toArray, List.set_cons_zero, List.set_cons_succ, i64_w, i32_w]
        rfl
       refine yq_ (i := 4) (N := some 104) bq_71 (by kernel_rfl) ?_
       refine yq_ (i := 5) (N := some 4) bq_72 (by kernel_rfl) ?_
       refine done_ (by kernel_rfl) ?_
       try go_wp2
       go_ret
       exact ⟨by first | rfl | (simp [errW_none, errW_some] <;> rfl) | (simp [*, errW_none, errW_some] <;> rfl), by repeat (first | (with_reducible first | exact HB.out | apply below_alloc | apply pw_below_drewN | apply below_drew1 | refine below_set ?_ GE182.out | refine below_set ?_ GE183.out) | exact HB.out)⟩

end Go.Proofs.YtabgpbmaoelohaaDoor.PFnExactViewOk
