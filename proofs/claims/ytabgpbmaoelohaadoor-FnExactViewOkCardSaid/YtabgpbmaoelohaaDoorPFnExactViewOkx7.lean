/- Contracts of Go functions, written by a program of ours over the print of the kit: each says that the call returns what the Lean function beside it computes. Conditions: as each theorem states them. -/
import Derived.Test.YtabgpbmaoelohaaDoorPkFnExactViewOk
import Derived.Laws.Cover1
import Derived.Test.YtabgpbmaoelohaaDoorPFnExactViewOkx0
import Derived.Test.YtabgpbmaoelohaaDoorPFnExactViewOkx5
import Derived.Test.YtabgpbmaoelohaaDoorPFnExactViewOkx6
namespace Go.Proofs.YtabgpbmaoelohaaDoor.PFnExactViewOk
open Go.RowKit Go.Proofs.YtabgpbmaoelohaaDoorW.PrintWords Go.Proofs.YtabgpbmaoelohaaDoorW.PrintLast Go.Proofs.YtabgpbmaoelohaaDoorW.PrintMore
attribute [local go_sem] max2_int min2_int max_two min_two max_three min_three max_four min_four   -- for this text's walks alone
set_option linter.unusedVariables false
set_option linter.unusedSimpArgs false

/-! ### impl_ViewOk: function 39 -/
mutual
def impl_ViewOk.j0 : Nat → Bool → List (S75) → Option (Bool)
 | 0, _, _ => none
 | k + 1, x32, x258000 => if x32 = true then (some false) else (impl_ViewOk.l0 k x258000 (x258000.length : Int) 0 x258000)
def impl_ViewOk.l0 : Nat → List (S75) → Int → Int → List (S75) → Option (Bool)
 | 0, _, _, _, _ => none
 | k + 1, x34, x35, x36, x258000 => if x36 < x35 then (if 0 ≤ x36 then (if x36 < (x34.length : Int) then ((impl_SplitPath.f k ((rd_T75 x34 x36).f0)).bind fun bt265 => (if bt265.2 = 0 then (if ((rd_T75 x34 x36).f0).toList = ([47] : List UInt8) then (impl_ViewOk.j2 k x34 x35 x36 true x258000 ((rd_T75 x34 x36).f0) ((rd_T75 x34 x36).f1) ((rd_T75 x34 x36).f2)) else ((impl_ParentOf.f k ((rd_T75 x34 x36).f0)).bind fun t269 => ((impl_isDirIn.f x258000 t269).bind fun t270 => (if t270 = true then (if x36 > 0 then (if 0 ≤ (wrap64 (x36 - 1)) then (if (wrap64 (x36 - 1)) < (x258000.length : Int) then (impl_ViewOk.j2 k x34 x35 x36 (!(Op.bytesLess (((rd_T75 x258000 (wrap64 (x36 - 1))).f0).toList) (((rd_T75 x34 x36).f0).toList))) x258000 ((rd_T75 x34 x36).f0) ((rd_T75 x34 x36).f1) ((rd_T75 x34 x36).f2)) else (none)) else (none)) else (impl_ViewOk.j2 k x34 x35 x36 false x258000 ((rd_T75 x34 x36).f0) ((rd_T75 x34 x36).f1) ((rd_T75 x34 x36).f2))) else (impl_ViewOk.j2 k x34 x35 x36 true x258000 ((rd_T75 x34 x36).f0) ((rd_T75 x34 x36).f1) ((rd_T75 x34 x36).f2)))))) else (impl_ViewOk.j2 k x34 x35 x36 true x258000 ((rd_T75 x34 x36).f0) ((rd_T75 x34 x36).f1) ((rd_T75 x34 x36).f2)))) else (none)) else (none)) else (some true)
def impl_ViewOk.j2 : Nat → List (S75) → Int → Int → Bool → List (S75) → ByteArray → Bool → ByteArray → Option (Bool)
 | 0, _, _, _, _, _, _, _, _ => none
 | k + 1, x34, x35, x36, x77, x258000, x265000, x265001, x265002 => if x77 = true then (some false) else (if x265001 = true then (if x265002.toList = ([] : List UInt8) then ((impl_KidsOf.f k x258000 x265000).bind fun t272 => (if (t272.length : Int) > 6 then (some false) else (if (x265002.size : Int) > 128 then (some false) else (impl_ViewOk.l0 k x34 x35 (wrap64 (x36 + 1)) x258000)))) else (some false)) else (if (x265002.size : Int) > 128 then (some false) else (impl_ViewOk.l0 k x34 x35 (wrap64 (x36 + 1)) x258000)))
end
def impl_ViewOk.f (k : Nat) (a0_0 : Int) (a0_1 : Int) (a0_2 : Int) (a0_3 : Int) (l1_0 : List (S75)) : Option (Bool) := (impl_GeoOk.f a0_0 a0_1 a0_2 a0_3).bind fun t258 => (if t258 = true then (if (l1_0.length : Int) ≥ a0_2 then (impl_ViewOk.j0 k true l1_0) else ((impl_PagesIn.f k l1_0).bind fun t259 => (if t259 > a0_3 then (impl_ViewOk.j0 k true l1_0) else ((impl_KidsOf.f k l1_0 (⟨#[47]⟩ : ByteArray)).bind fun t260 => (impl_ViewOk.j0 k (decide ((t260.length : Int) > 6)) l1_0))))) else (impl_ViewOk.j0 k true l1_0))
theorem bl_leq : ∀ (x y : List UInt8), (Op.bytesLess x y || x == y) = !Op.bytesLess y x
 | [], [] => by simp [Op.bytesLess]
 | [], _ :: _ => by simp [Op.bytesLess]
 | _ :: _, [] => by simp [Op.bytesLess]
 | a :: x, b :: y => by
  have ih := bl_leq x y
  simp only [Op.bytesLess]
  rcases Nat.lt_trichotomy a.toNat b.toNat with h | h | h
  ·have h1 : a < b := UInt8.lt_iff_toNat_lt.2 h
   have h2 : ¬ b < a := fun c => by have := UInt8.lt_iff_toNat_lt.1 c; omega
   have h3 : ¬ b = a := fun c => by subst c; omega
   simp [h1, h2, h3]
  ·have h1 : a = b := UInt8.toNat_inj.1 h
   subst h1
   have h2 : ¬ a < a := fun c => by have := UInt8.lt_iff_toNat_lt.1 c; omega
   simpa [h2] using ih
  ·have h1 : b < a := UInt8.lt_iff_toNat_lt.2 h
   have h2 : ¬ a < b := fun c => by have := UInt8.lt_iff_toNat_lt.1 c; omega
   have h3 : ¬ a = b := fun c => by subst c; omega
   simp [h1, h2, h3]

theorem impl_ViewOk.mono_l : ∀ k, (∀ y0 y1, LeO (impl_ViewOk.j0 k y0 y1) (impl_ViewOk.j0 (k + 1) y0 y1)) ∧ (∀ y0 y1 y2 y3, LeO (impl_ViewOk.l0 k y0 y1 y2 y3) (impl_ViewOk.l0 (k + 1) y0 y1 y2 y3)) ∧ (∀ y0 y1 y2 y3 y4 y5 y6 y7, LeO (impl_ViewOk.j2 k y0 y1 y2 y3 y4 y5 y6 y7) (impl_ViewOk.j2 (k + 1) y0 y1 y2 y3 y4 y5 y6 y7))
 | 0 => ⟨fun _ _ r h => by simp [impl_ViewOk.j0] at h, fun _ _ _ _ r h => by simp [impl_ViewOk.l0] at h, fun _ _ _ _ _ _ _ _ r h => by simp [impl_ViewOk.j2] at h⟩
 | k + 1 => by
  obtain ⟨ih0, ih1, ih2⟩ := impl_ViewOk.mono_l k
  refine ⟨?_, ?_, ?_⟩
  ·intro y0 y1
   unfold impl_ViewOk.j0
   repeat' first
   | (with_reducible exact ih0 _ _)
   | (with_reducible exact ih1 _ _ _ _)
   | (with_reducible exact ih2 _ _ _ _ _ _ _ _)
   | (with_reducible exact impl_KidsOf.mono _ _ _)
   | (with_reducible exact impl_PagesIn.mono _ _)
   | (with_reducible exact impl_ParentOf.mono _ _)
   | (with_reducible exact impl_SplitPath.mono _ _)
   | (with_reducible exact LeO.refl _)
   | (with_reducible exact LeO.none _)
   | (with_reducible refine LeO.ite ?_ ?_)
   | (with_reducible refine LeO.bind ?_ (fun _ => ?_))
   | exact ih0 _ _
   | exact ih1 _ _ _ _
   | exact ih2 _ _ _ _ _ _ _ _
   | exact impl_KidsOf.mono _ _ _
   | exact impl_PagesIn.mono _ _
   | exact impl_ParentOf.mono _ _
   | exact impl_SplitPath.mono _ _
   | exact LeO.none _
   | refine LeO.ite ?_ ?_
   | refine LeO.bind ?_ (fun _ => ?_)
  ·intro y0 y1 y2 y3
   unfold impl_ViewOk.l0
   repeat' first
   | (with_reducible exact ih0 _ _)
   | (with_reducible exact ih1 _ _ _ _)
   | (with_reducible exact ih2 _ _ _ _ _ _ _ _)
   | (with_reducible exact impl_KidsOf.mono _ _ _)
   | (with_reducible exact impl_PagesIn.mono _ _)
   | (with_reducible exact impl_ParentOf.mono _ _)
   | (with_reducible exact impl_SplitPath.mono _ _)
   | (with_reducible exact LeO.refl _)
   | (with_reducible exact LeO.none _)
   | (with_reducible refine LeO.ite ?_ ?_)
   | (with_reducible refine LeO.bind ?_ (fun _ => ?_))
   | exact ih0 _ _
   | exact ih1 _ _ _ _
   | exact ih2 _ _ _ _ _ _ _ _
   | exact impl_KidsOf.mono _ _ _
   | exact impl_PagesIn.mono _ _
   | exact impl_ParentOf.mono _ _
   | exact impl_SplitPath.mono _ _
   | exact LeO.none _
   | refine LeO.ite ?_ ?_
   | refine LeO.bind ?_ (fun _ => ?_)
  ·intro y0 y1 y2 y3 y4 y5 y6 y7
   unfold impl_ViewOk.j2
   repeat' first
   | (with_reducible exact ih0 _ _)
   | (with_reducible exact ih1 _ _ _ _)
   | (with_reducible exact ih2 _ _ _ _ _ _ _ _)
   | (with_reducible exact impl_KidsOf.mono _ _ _)
   | (with_reducible exact impl_PagesIn.mono _ _)
   | (with_reducible exact impl_ParentOf.mono _ _)
   | (with_reducible exact impl_SplitPath.mono _ _)
   | (with_reducible exact LeO.refl _)
   | (with_reducible exact LeO.none _)
   | (with_reducible refine LeO.ite ?_ ?_)
   | (with_reducible refine LeO.bind ?_ (fun _ => ?_))
   | exact ih0 _ _
   | exact ih1 _ _ _ _
   | exact ih2 _ _ _ _ _ _ _ _
   | exact impl_KidsOf.mono _ _ _
   | exact impl_PagesIn.mono _ _
   | exact impl_ParentOf.mono _ _
   | exact impl_SplitPath.mono _ _
   | exact LeO.none _
   | refine LeO.ite ?_ ?_
   | refine LeO.bind ?_ (fun _ => ?_)
theorem impl_ViewOk.mono : ∀ a0 a1 a2 a3 a4 k, LeO (impl_ViewOk.f k a0 a1 a2 a3 a4) (impl_ViewOk.f (k + 1) a0 a1 a2 a3 a4) := by
 intro a0 a1 a2 a3 a4 k
 obtain ⟨ih0, ih1, ih2⟩ := impl_ViewOk.mono_l k
 unfold impl_ViewOk.f
 repeat' first
   | (with_reducible exact ih0 _ _)
   | (with_reducible exact ih1 _ _ _ _)
   | (with_reducible exact ih2 _ _ _ _ _ _ _ _)
   | (with_reducible exact impl_KidsOf.mono _ _ _)
   | (with_reducible exact impl_PagesIn.mono _ _)
   | (with_reducible exact impl_ParentOf.mono _ _)
   | (with_reducible exact impl_SplitPath.mono _ _)
   | (with_reducible exact LeO.refl _)
   | (with_reducible exact LeO.none _)
   | (with_reducible refine LeO.ite ?_ ?_)
   | (with_reducible refine LeO.bind ?_ (fun _ => ?_))
   | exact ih0 _ _
   | exact ih1 _ _ _ _
   | exact ih2 _ _ _ _ _ _ _ _
   | exact impl_KidsOf.mono _ _ _
   | exact impl_PagesIn.mono _ _
   | exact impl_ParentOf.mono _ _
   | exact impl_SplitPath.mono _ _
   | exact LeO.none _
   | refine LeO.ite ?_ ?_
   | refine LeO.bind ?_ (fun _ => ?_)
def impl_ViewOk.T1 : Bool × List (List Nat × List Nat) := (true, [([], []), ([0], [0]), ([1], [1]), ([2, 1], [2]), ([3], [3]), ([4, 3], [3, 4]), ([5, 3], [3, 5]), ([3], [3]), ([7, 3], [3, 7]), ([6, 8, 3], [3, 6, 8]), ([3, 9], [3, 9]), ([10, 3], [10]), ([11], [11]), ([12, 11, 11], [11, 12]), ([11], [11]), ([14, 11], [11, 14]), ([13, 15, 11], [11, 13, 15]), ([11, 16], [11, 16]), ([17, 13], [17]), ([18], [18]), ([19, 18, 18], [18, 19]), ([20, 18], [18, 20]), ([21, 18], [18, 21]), ([18, 22], [18, 22])])
def impl_ViewOk.B1 : List Nat := [0, 1, 3, 7, 15, 31, 63, 15, 143, 511, 1023, 2047, 4095, 8191, 4095, 20479, 65535, 131071, 262143, 524287, 1048575, 2097151, 4194303, 8388607]
theorem impl_ViewOk.tab1 : rtab .any (opsOf Tryd.f39 1) = impl_ViewOk.T1 := by kernel_rfl
theorem impl_ViewOk.bits1 : waitsOk impl_ViewOk.T1.2 impl_ViewOk.B1 = true := by kernel_rfl
def impl_ViewOk.T7 : Bool × List (List Nat × List Nat) := (true, [([], []), ([0], [0]), ([1], [1]), ([2], [2]), ([3, 2], [2, 3]), ([4, 2], [2, 4]), ([2, 5], [2, 5]), ([6, 2], [6]), ([7], [7]), ([7], [7]), ([9, 7], [7, 9]), ([10, 7, 7], [7, 10]), ([8, 11, 11, 7], [7, 8, 11]), ([12, 7], [7, 12]), ([7, 13], [7, 13]), ([14, 12], [14]), ([15], [15]), ([16, 15], [15, 16]), ([17, 15, 15], [15, 17]), ([18], [18]), ([19, 18], [18, 19]), ([18], [18]), ([21, 18], [18, 21]), ([18], [18]), ([23, 18], [18, 23]), ([22, 24, 18], [18, 22, 24]), ([25, 18], [18, 25]), ([26, 18], [18, 26]), ([20, 27, 18], [18, 20, 27]), ([18, 28, 15], [15, 18, 28]), ([15, 29], [15, 29])])
def impl_ViewOk.B7 : List Nat := [0, 1, 3, 7, 15, 31, 63, 127, 255, 255, 767, 1791, 4095, 8191, 16383, 32767, 65535, 131071, 262143, 524287, 1048575, 524287, 2621439, 524287, 8912895, 31981567, 65535999, 132644863, 268435455, 536870911, 1073741823]
theorem impl_ViewOk.tab7 : rtab .any (opsOf Tryd.f39 7) = impl_ViewOk.T7 := by kernel_rfl
theorem impl_ViewOk.bits7 : waitsOk impl_ViewOk.T7.2 impl_ViewOk.B7 = true := by kernel_rfl
set_option maxHeartbeats 8000000 in
set_option maxRecDepth 100000 in
theorem impl_ViewOk.calls (k : Nat) (a0_0 : Int) (a0_1 : Int) (a0_2 : Int) (a0_3 : Int) (A1_0 : Option Addr) (c1_0 : Nat) (l1_0 : List (S75)) (r : Bool) (w : World) (hD_ : DoorOk w) (hr1_0 : Kd.C k75 w A1_0 l1_0.length l1_0) (hc1_0 : l1_0.length ≤ c1_0) (h : impl_ViewOk.f k a0_0 a0_1 a0_2 a0_3 l1_0 = some r) :
  Calls Tryd.prog 39 #[.agg #[.int .i64 a0_0, .int .i64 a0_1, .int .i64 a0_2, .int .i64 a0_3], .agg #[.slice A1_0 l1_0.length c1_0]] w fun e w' => e = .returned (.bool r) ∧ Below w.heap.size w w' := by
 have hu58 := Tryd.underlying58
 have hu37 := Tryd.underlying37
 have hu75 := Tryd.underlying75
 have HR1_0 := Aside0.mk hr1_0
 have HC1_0 := Aside0.mk hc1_0
 clear hr1_0 hc1_0
 have HD := Aside0.mk hD_
 clear hD_
 have HB := Aside0.mk (Below.refl w.heap.size w)
 have H : ((impl_GeoOk.f a0_0 a0_1 a0_2 a0_3).bind fun t258 => (if t258 = true then (if (l1_0.length : Int) ≥ a0_2 then (impl_ViewOk.j0 k true l1_0) else ((impl_PagesIn.f k l1_0).bind fun t259 => (if t259 > a0_3 then (impl_ViewOk.j0 k true l1_0) else ((impl_KidsOf.f k l1_0 (⟨#[47]⟩ : ByteArray)).bind fun t260 => (impl_ViewOk.j0 k (decide ((t260.length : Int) > 6)) l1_0))))) else (impl_ViewOk.j0 k true l1_0))) = some r := h
 clear h
 have HC3 := Aside0.mk H
 clear H
 go_enter Tryd.func39, Tryd.ntmps39
 go_upto_region 1 with (first | ((with_reducible refine gate_dst (N := 2) rfl ?_); (try (refine gate_guard (by rfl) ?_; dsimp only)); refine box_event ?hg (N := 2) ?hd (cs := #[.int .i64 a0_0, .int .i64 a0_1, .int .i64 a0_2, .int .i64 a0_3]) (t := 58) ?hr ?_; (case hd => rfl); (case hg => rfl); (case hr => first | (go_simp; done) | (go_simp; rfl)); intro gb256 hg w4 hbox hb; have n0_ := Aside0.mk (below_step tq_0 hb); have n1_ := Aside0.mk (hbox); have n2_ := Aside0.mk ((by rw [hg]; exact (below_size tq_0) : w.heap.size ≤ gb256)); have n3_ := Aside0.mk ((by rw [hg]; exact (below_size tq_0) : w.heap.size ≤ gb256)); clear HB; have HB := n0_; have BK256 := n1_; have GW256 := n2_; have GE256 := n3_; clear n0_ n1_ n2_ n3_; clear hb hbox hg) | ((with_reducible refine gate_dst (N := 3) rfl ?_); (try (refine gate_guard (by rfl) ?_; dsimp only)); refine box_event ?hg (N := 3) ?hd (cs := #[.slice A1_0 l1_0.length c1_0]) (t := 37) ?hr ?_; (case hd => rfl); (case hg => rfl); (case hr => first | (go_simp; done) | (go_simp; rfl)); intro gb257 hg w5 hbox hb; have n0_ := Aside0.mk (blk_below (g := gb256) (o := .cells #[.int .i64 a0_0, .int .i64 a0_1, .int .i64 a0_2, .int .i64 a0_3] 58 (0, 0)) tq_10 hb); have n1_ := Aside0.mk (below_step tq_48 hb); have n2_ := Aside0.mk (hbox); have n3_ := Aside0.mk ((by rw [hg]; exact (below_size tq_48) : w.heap.size ≤ gb257)); have n4_ := Aside0.mk ((by rw [hg]; exact (below_size tq_48) : w.heap.size ≤ gb257)); have n5_ := Aside0.mk ((by rw [hg]; exact Nat.ne_of_lt (blk_lt (g := gb256) (o := .cells #[.int .i64 a0_0, .int .i64 a0_1, .int .i64 a0_2, .int .i64 a0_3] 58 (0, 0)) tq_10) : gb256 ≠ gb257)); have n6_ := Aside0.mk ((by rw [hg]; exact Nat.ne_of_gt (blk_lt (g := gb256) (o := .cells #[.int .i64 a0_0, .int .i64 a0_1, .int .i64 a0_2, .int .i64 a0_3] 58 (0, 0)) tq_10) : gb257 ≠ gb256)); clear BK256; clear HB; have BK256 := n0_; have HB := n1_; have BK257 := n2_; have GW257 := n3_; have GE257 := n4_; have NB256_257 := n5_; have NB257_256 := n6_; clear n0_ n1_ n2_ n3_ n4_ n5_ n6_; clear hb hbox hg))
 (try simp only [Act.put, List.setIfInBounds_toArray, List.set_cons_zero, List.set_cons_succ])
 go_cut [32] (fun v32 wc => ∃ (kq : Nat) (x32_2 : Bool), v32 = .bool x32_2 ∧ Aside0 (impl_ViewOk.j0 kq x32_2 l1_0 = some r) ∧ Aside0 (kq ≤ k) ∧ Aside0 (wc.heap[gb256]? = some (.cells #[.int .i64 a0_0, .int .i64 a0_1, .int .i64 a0_2, .int .i64 a0_3] 58 (0, 0))) ∧ Aside0 (wc.heap[gb257]? = some (.cells #[(.slice A1_0 l1_0.length c1_0)] 37 (0, 0))) ∧ Aside0 (Below w.heap.size w wc))
 case first =>
  have H := HC3.out
  clear HC3
  replace H := Option.bind_eq_some_iff.mp H
  obtain ⟨t258, A60, H⟩ := H
  replace H : (if t258 = true then (if (l1_0.length : Int) ≥ a0_2 then (impl_ViewOk.j0 k true l1_0) else ((impl_PagesIn.f k l1_0).bind fun t259 => (if t259 > a0_3 then (impl_ViewOk.j0 k true l1_0) else ((impl_KidsOf.f k l1_0 (⟨#[47]⟩ : ByteArray)).bind fun t260 => (impl_ViewOk.j0 k (decide ((t260.length : Int) > 6)) l1_0))))) else (impl_ViewOk.j0 k true l1_0)) = some r := H
  have A6 := Aside0.mk A60
  clear A60
  by_cases c7 : t258 = true
  ·subst c7
   have H1 : (if (l1_0.length : Int) ≥ a0_2 then (impl_ViewOk.j0 k true l1_0) else ((impl_PagesIn.f k l1_0).bind fun t259 => (if t259 > a0_3 then (impl_ViewOk.j0 k true l1_0) else ((impl_KidsOf.f k l1_0 (⟨#[47]⟩ : ByteArray)).bind fun t260 => (impl_ViewOk.j0 k (decide ((t260.length : Int) > 6)) l1_0))))) = some r := by rw [if_pos rfl] at H; exact H
   clear H
   have H := H1
   clear H1
   by_cases c8 : (l1_0.length : Int) ≥ a0_2
   ·rw [if_pos c8] at H
    have c8b0 : decide (a0_2 ≤ (l1_0.length : Int)) = true := decide_eq_true c8
    clear c8
    (first | rw [c8b0] | (simp only [i64_w, i32_w]; rw [c8b0]) | skip)
    have H' := Aside0.mk H
    clear H
    try go_wp2
    have n0_ := Aside0.mk (blk_drew BK256.out)
    have n1_ := Aside0.mk (blk_drew BK257.out)
    have n2_ := Aside0.mk (below_drew1 HB.out)
    clear BK256
    clear BK257
    clear HB
    have BK256 := n0_
    have BK257 := n1_
    have HB := n2_
    clear n0_ n1_ n2_
    refine start_ (n := 24) (S := fun w' => w'.cell? ⟨gb256, 0, none⟩ = some (.int .i64 a0_0) ∧ w'.cell? ⟨gb256, 1, none⟩ = some (.int .i64 a0_1) ∧ w'.cell? ⟨gb256, 2, none⟩ = some (.int .i64 a0_2) ∧ w'.cell? ⟨gb256, 3, none⟩ = some (.int .i64 a0_3) ∧ w'.cell? ⟨gb257, 0, none⟩ = some (.slice A1_0 l1_0.length c1_0)) (ds := []) bq_73 (by kernel_rfl) rfl rfl ⟨(blk_cell BK256.out 0).trans rfl, (blk_cell BK256.out 1).trans rfl, (blk_cell BK256.out 2).trans rfl, (blk_cell BK256.out 3).trans rfl, (blk_cell BK257.out 0).trans rfl⟩ (fun hHeld => ?_); refine with_tabW impl_ViewOk.tab1 impl_ViewOk.bits1 (fun HT_ HW_ => ?_)
    generalize w5.drew = w9 at BK256 BK257 HB hHeld ⊢
    refine take_ (i := 0) (N := some 9) (v := ?_) (a' := ?_) bq_74 rfl rfl (take_ofW HT_.out HW_.out (by kernel_rfl)) (fun _ _ _ h => h) (Or.inl ⟨by rfl, ?_⟩) hHeld ?_ ?_
    rotate_left
    ·rintro w' ⟨s0, s1, s2, s3, s4⟩
     go_simp
     with_reducible rfl
    rotate_left
    ·simp only [Act.put, List.setIfInBounds_toArray, List.set_cons_zero, List.set_cons_succ, i64_w, i32_w]
     rfl
    refine one_ (i := 1) (N := some 10) bq_75 rfl rfl (one_of HT_.out (by kernel_rfl)) (by decide) (fun K hK => ?_)
    refine goes_ Tryd.func77 (by kernel_rfl) rfl #[.agg #[.int .i64 a0_0, .int .i64 a0_1, .int .i64 a0_2, .int .i64 a0_3]] (by rfl) rfl rfl tq_1 ?_
    with_reducible refine (impl_GeoOk.calls a0_0 a0_1 a0_2 a0_3 true _ A6.out).mono ?_
    rintro e w10 ⟨rfl, hb⟩
    refine ⟨_, rfl, ?_⟩
    have n0_ := Aside0.mk (blk_below (g := gb256) (o := .cells #[.int .i64 a0_0, .int .i64 a0_1, .int .i64 a0_2, .int .i64 a0_3] 58 (0, 0)) tq_10 hb)
    have n1_ := Aside0.mk (blk_below (g := gb257) (o := .cells #[.slice A1_0 l1_0.length c1_0] 37 (0, 0)) tq_13 hb)
    have n2_ := Aside0.mk (below_step tq_12 hb)
    clear BK256
    clear BK257
    clear HB
    have BK256 := n0_
    have BK257 := n1_
    have HB := n2_
    clear n0_ n1_ n2_
    (try clear hb)
    (try clear hb2)
    (try clear hk)
    (try clear hi)
    refine hK.out _ _ ⟨(blk_cell BK256.out 0).trans rfl, (blk_cell BK256.out 1).trans rfl, (blk_cell BK256.out 2).trans rfl, (blk_cell BK256.out 3).trans rfl, (blk_cell BK257.out 0).trans rfl⟩ (fun hHeld => ?_)
    clear hK K
    refine norm_ (a' := ?_) ?_ ?_
    rotate_left
    ·show Act.put _ (some 10) _ = _
     simp only [Act.put, List.setIfInBounds_toArray, List.set_cons_zero, List.set_cons_succ, i64_w, i32_w]
     rfl
    refine yq_ (i := 2) (N := some 11) bq_76 (any_of HT_.out (by kernel_rfl)) ?_
    refine yq_ (i := 3) (N := some 12) bq_77 (any_of HT_.out (by kernel_rfl)) ?_
    refine yq_ (i := 4) (N := some 13) bq_78 (any_of HT_.out (by kernel_rfl)) ?_
    refine yq_ (i := 7) (N := some 16) bq_98 (any_of HT_.out (by kernel_rfl)) ?_
    refine take_ (i := 5) (N := some 14) (v := ?_) (a' := ?_) bq_99 rfl rfl (take_ofW HT_.out HW_.out (by kernel_rfl)) (fun _ _ _ h => h) (Or.inl ⟨by rfl, ?_⟩) hHeld ?_ ?_
    rotate_left
    ·rintro w' ⟨s0, s1, s2, s3, s4⟩
     go_simp
     with_reducible rfl
    rotate_left
    ·simp only [Act.put, List.setIfInBounds_toArray, List.set_cons_zero, List.set_cons_succ, i64_w, i32_w]
     rfl
    refine yq_ (i := 6) (N := some 15) bq_79 (any_of HT_.out (by kernel_rfl)) ?_
    refine take_ (i := 8) (N := some 17) (v := ?_) (a' := ?_) bq_80 rfl rfl (take_ofW HT_.out HW_.out (by kernel_rfl)) (fun _ _ _ h => h) (Or.inl ⟨by rfl, ?_⟩) hHeld ?_ ?_
    rotate_left
    ·rintro w' ⟨s0, s1, s2, s3, s4⟩
     go_simp
     with_reducible rfl
    rotate_left
    ·simp only [Act.put, List.setIfInBounds_toArray, List.set_cons_zero, List.set_cons_succ, i64_w, i32_w]
     rfl
    refine yq_ (i := 9) (N := some 18) bq_81 (any_of HT_.out (by kernel_rfl)) ?_
    refine yq_ (i := 10) (N := some 19) bq_82 (any_of HT_.out (by kernel_rfl)) ?_
    refine yq_ (i := 11) (N := some 20) bq_83 (any_of HT_.out (by kernel_rfl)) ?_
    refine uq_ (i := 12) (N := some 21) bq_121 (any_of HT_.out (by kernel_rfl)) ?_
    refine uq_ (i := 13) (N := some 22) bq_122 (any_of HT_.out (by kernel_rfl)) ?_
    refine uq_ (i := 14) (N := some 23) bq_123 (any_of HT_.out (by kernel_rfl)) ?_
    refine uq_ (i := 15) (N := some 24) bq_84 (any_of HT_.out (by kernel_rfl)) ?_
    refine uq_ (i := 16) (N := some 25) bq_85 (any_of HT_.out (by kernel_rfl)) ?_
    refine yq_ (i := 17) (N := some 26) bq_86 (any_of HT_.out (by kernel_rfl)) ?_
    refine yq_ (i := 18) (N := some 27) bq_87 (any_of HT_.out (by kernel_rfl)) ?_
    refine uq_ (i := 19) (N := some 28) bq_88 (any_of HT_.out (by kernel_rfl)) ?_
    refine uq_ (i := 20) (N := some 29) bq_89 (any_of HT_.out (by kernel_rfl)) ?_
    refine uq_ (i := 21) (N := some 30) bq_90 (any_of HT_.out (by kernel_rfl)) ?_
    refine uq_ (i := 22) (N := some 31) bq_91 (any_of HT_.out (by kernel_rfl)) ?_
    refine yq_ (i := 23) (N := some 32) bq_92 (any_of HT_.out (by kernel_rfl)) ?_
    refine done_ (done_of HT_.out (by kernel_rfl)) ?_
    try go_wp2
    go_meet
    case rel => exact ⟨_, (true), tq_8, H', ⟨by first | omega | exact Nat.le_refl _⟩, ⟨by (with_reducible repeat (first | refine blk_drewN ?_ _ | refine blk_drew ?_ | refine blk_alloc ?_ _)); exact BK256.out⟩, ⟨by (with_reducible repeat (first | refine blk_drewN ?_ _ | refine blk_drew ?_ | refine blk_alloc ?_ _)); exact BK257.out⟩, ⟨by repeat (first | (with_reducible first | exact HB.out | apply below_alloc | apply pw_below_drewN | apply below_drew1 | refine below_set ?_ GE256.out | refine below_set ?_ GE257.out) | exact HB.out)⟩⟩
   ·rw [if_neg c8] at H
    have c8b0 : decide (a0_2 ≤ (l1_0.length : Int)) = false := decide_eq_false c8
    clear c8
    (first | rw [c8b0] | (simp only [i64_w, i32_w]; rw [c8b0]) | skip)
    replace H := Option.bind_eq_some_iff.mp H
    obtain ⟨t259, A110, H⟩ := H
    replace H : (if t259 > a0_3 then (impl_ViewOk.j0 k true l1_0) else ((impl_KidsOf.f k l1_0 (⟨#[47]⟩ : ByteArray)).bind fun t260 => (impl_ViewOk.j0 k (decide ((t260.length : Int) > 6)) l1_0))) = some r := H
    have A11 := Aside0.mk A110
    clear A110
    by_cases c12 : t259 > a0_3
    ·rw [if_pos c12] at H
     have c12b0 : decide (a0_3 < t259) = true := decide_eq_true c12
     clear c12
     have H' := Aside0.mk H
     clear H
     try go_wp2
     have n0_ := Aside0.mk (blk_drew BK256.out)
     have n1_ := Aside0.mk (blk_drew BK257.out)
     have n2_ := Aside0.mk (below_drew1 HB.out)
     clear BK256
     clear BK257
     clear HB
     have BK256 := n0_
     have BK257 := n1_
     have HB := n2_
     clear n0_ n1_ n2_
     refine start_ (n := 24) (S := fun w' => w'.cell? ⟨gb256, 0, none⟩ = some (.int .i64 a0_0) ∧ w'.cell? ⟨gb256, 1, none⟩ = some (.int .i64 a0_1) ∧ w'.cell? ⟨gb256, 2, none⟩ = some (.int .i64 a0_2) ∧ w'.cell? ⟨gb256, 3, none⟩ = some (.int .i64 a0_3) ∧ w'.cell? ⟨gb257, 0, none⟩ = some (.slice A1_0 l1_0.length c1_0)) (ds := []) bq_73 (by kernel_rfl) rfl rfl ⟨(blk_cell BK256.out 0).trans rfl, (blk_cell BK256.out 1).trans rfl, (blk_cell BK256.out 2).trans rfl, (blk_cell BK256.out 3).trans rfl, (blk_cell BK257.out 0).trans rfl⟩ (fun hHeld => ?_); refine with_tabW impl_ViewOk.tab1 impl_ViewOk.bits1 (fun HT_ HW_ => ?_)
     generalize w5.drew = w13 at BK256 BK257 HB hHeld ⊢
     refine take_ (i := 0) (N := some 9) (v := ?_) (a' := ?_) bq_74 rfl rfl (take_ofW HT_.out HW_.out (by kernel_rfl)) (fun _ _ _ h => h) (Or.inl ⟨by rfl, ?_⟩) hHeld ?_ ?_
     rotate_left
     ·rintro w' ⟨s0, s1, s2, s3, s4⟩
      go_simp
      with_reducible rfl
     rotate_left
     ·simp only [Act.put, List.setIfInBounds_toArray, List.set_cons_zero, List.set_cons_succ, i64_w, i32_w]
      rfl
     refine one_ (i := 1) (N := some 10) bq_75 rfl rfl (one_of HT_.out (by kernel_rfl)) (by decide) (fun K hK => ?_)
     refine goes_ Tryd.func77 (by kernel_rfl) rfl #[.agg #[.int .i64 a0_0, .int .i64 a0_1, .int .i64 a0_2, .int .i64 a0_3]] (by rfl) rfl rfl tq_1 ?_
     with_reducible refine (impl_GeoOk.calls a0_0 a0_1 a0_2 a0_3 true _ A6.out).mono ?_
     rintro e w14 ⟨rfl, hb⟩
     refine ⟨_, rfl, ?_⟩
     have n0_ := Aside0.mk (blk_below (g := gb256) (o := .cells #[.int .i64 a0_0, .int .i64 a0_1, .int .i64 a0_2, .int .i64 a0_3] 58 (0, 0)) tq_10 hb)
     have n1_ := Aside0.mk (blk_below (g := gb257) (o := .cells #[.slice A1_0 l1_0.length c1_0] 37 (0, 0)) tq_13 hb)
     have n2_ := Aside0.mk (below_step tq_12 hb)
     clear BK256
     clear BK257
     clear HB
     have BK256 := n0_
     have BK257 := n1_
     have HB := n2_
     clear n0_ n1_ n2_
     (try clear hb)
     (try clear hb2)
     (try clear hk)
     (try clear hi)
     refine hK.out _ _ ⟨(blk_cell BK256.out 0).trans rfl, (blk_cell BK256.out 1).trans rfl, (blk_cell BK256.out 2).trans rfl, (blk_cell BK256.out 3).trans rfl, (blk_cell BK257.out 0).trans rfl⟩ (fun hHeld => ?_)
     clear hK K
     refine norm_ (a' := ?_) ?_ ?_
     rotate_left
     ·show Act.put _ (some 10) _ = _
      simp only [Act.put, List.setIfInBounds_toArray, List.set_cons_zero, List.set_cons_succ, i64_w, i32_w]
      rfl
     refine yq_ (i := 2) (N := some 11) bq_76 (any_of HT_.out (by kernel_rfl)) ?_
     refine yq_ (i := 3) (N := some 12) bq_77 (any_of HT_.out (by kernel_rfl)) ?_
     refine yq_ (i := 4) (N := some 13) bq_78 (any_of HT_.out (by kernel_rfl)) ?_
     refine yq_ (i := 7) (N := some 16) bq_98 (any_of HT_.out (by kernel_rfl)) ?_
     refine take_ (i := 5) (N := some 14) (v := ?_) (a' := ?_) bq_99 rfl rfl (take_ofW HT_.out HW_.out (by kernel_rfl)) (fun _ _ _ h => h) (Or.inl ⟨by rfl, ?_⟩) hHeld ?_ ?_
     rotate_left
     ·rintro w' ⟨s0, s1, s2, s3, s4⟩
      go_simp
      with_reducible rfl
     rotate_left
     ·simp only [Act.put, List.setIfInBounds_toArray, List.set_cons_zero, List.set_cons_succ, i64_w, i32_w]
      rfl
     refine yq_ (i := 6) (N := some 15) bq_79 (any_of HT_.out (by kernel_rfl)) ?_
     refine take_ (i := 8) (N := some 17) (v := ?_) (a' := ?_) bq_80 rfl rfl (take_ofW HT_.out HW_.out (by kernel_rfl)) (fun _ _ _ h => h) (Or.inl ⟨by rfl, ?_⟩) hHeld ?_ ?_
     rotate_left
     ·rintro w' ⟨s0, s1, s2, s3, s4⟩
      go_simp
      with_reducible rfl
     rotate_left
     ·simp only [Act.put, List.setIfInBounds_toArray, List.set_cons_zero, List.set_cons_succ, i64_w, i32_w]
      rfl
     refine yq_ (i := 9) (N := some 18) bq_81 (any_of HT_.out (by kernel_rfl)) ?_
     refine yq_ (i := 10) (N := some 19) bq_82 (any_of HT_.out (by kernel_rfl)) ?_
     refine yq_ (i := 11) (N := some 20) bq_83 (any_of HT_.out (by kernel_rfl)) ?_
     refine yq_ (i := 14) (N := some 23) bq_124 (any_of HT_.out (by kernel_rfl)) ?_
     refine take_ (i := 12) (N := some 21) (v := ?_) (a' := ?_) bq_125 rfl rfl (take_ofW HT_.out HW_.out (by kernel_rfl)) (fun _ _ _ h => h) (Or.inl ⟨by rfl, ?_⟩) hHeld ?_ ?_
     rotate_left
     ·rintro w' ⟨s0, s1, s2, s3, s4⟩
      go_simp
      with_reducible rfl
     rotate_left
     ·simp only [Act.put, List.setIfInBounds_toArray, List.set_cons_zero, List.set_cons_succ, i64_w, i32_w]
      rfl
     refine take_ (i := 15) (N := some 24) (v := ?_) (a' := ?_) bq_126 rfl rfl (take_ofW HT_.out HW_.out (by kernel_rfl)) (fun _ _ _ h => h) (Or.inl ⟨by rfl, ?_⟩) hHeld ?_ ?_
     rotate_left
     ·rintro w' ⟨s0, s1, s2, s3, s4⟩
      go_simp
      with_reducible rfl
     rotate_left
     ·simp only [Act.put, List.setIfInBounds_toArray, List.set_cons_zero, List.set_cons_succ, i64_w, i32_w]
      rfl
     refine one_ (i := 13) (N := some 22) bq_84 rfl rfl (one_of HT_.out (by kernel_rfl)) (by decide) (fun K hK => ?_)
     refine goes_ Tryd.func78 (by kernel_rfl) rfl #[.agg #[.slice A1_0 l1_0.length c1_0]] (by rfl) rfl rfl tq_1 ?_
     with_reducible refine (impl_PagesIn.calls k _ _ l1_0 t259 _ ?side1 ?side2 A11.out).mono ?_
     (case side1 => exact tq_4)
     (case side2 => exact HC1_0.out)
     rintro e w15 ⟨rfl, hb⟩
     refine ⟨_, rfl, ?_⟩
     have n0_ := Aside0.mk (blk_below (g := gb256) (o := .cells #[.int .i64 a0_0, .int .i64 a0_1, .int .i64 a0_2, .int .i64 a0_3] 58 (0, 0)) tq_10 hb)
     have n1_ := Aside0.mk (blk_below (g := gb257) (o := .cells #[.slice A1_0 l1_0.length c1_0] 37 (0, 0)) tq_13 hb)
     have n2_ := Aside0.mk (below_step tq_12 hb)
     clear BK256
     clear BK257
     clear HB
     have BK256 := n0_
     have BK257 := n1_
     have HB := n2_
     clear n0_ n1_ n2_
     (try clear hb)
     (try clear hb2)
     (try clear hk)
     (try clear hi)
     refine hK.out _ _ ⟨(blk_cell BK256.out 0).trans rfl, (blk_cell BK256.out 1).trans rfl, (blk_cell BK256.out 2).trans rfl, (blk_cell BK256.out 3).trans rfl, (blk_cell BK257.out 0).trans rfl⟩ (fun hHeld => ?_)
     clear hK K
     refine norm_ (a' := ?_) ?_ ?_
     rotate_left
     ·show Act.put _ (some 22) _ = _
      simp only [Act.put, List.setIfInBounds_toArray, List.set_cons_zero, List.set_cons_succ, i64_w, i32_w]
      rfl
     refine yq_ (i := 16) (N := some 25) bq_85 (any_of HT_.out (by kernel_rfl)) ?_
     refine yq_ (i := 17) (N := some 26) bq_86 (any_of HT_.out (by kernel_rfl)) ?_
     refine yq_ (i := 18) (N := some 27) bq_87 (any_of HT_.out (by kernel_rfl)) ?_
     refine uq_ (i := 19) (N := some 28) bq_88 (any_of HT_.out (by kernel_rfl)) ?_
     refine uq_ (i := 20) (N := some 29) bq_89 (any_of HT_.out (by kernel_rfl)) ?_
     refine uq_ (i := 21) (N := some 30) bq_90 (any_of HT_.out (by kernel_rfl)) ?_
     refine uq_ (i := 22) (N := some 31) bq_91 (any_of HT_.out (by kernel_rfl)) ?_
     refine yq_ (i := 23) (N := some 32) bq_92 (any_of HT_.out (by kernel_rfl)) ?_
     refine done_ (done_of HT_.out (by kernel_rfl)) ?_
     try go_wp2
     go_meet
     case rel => exact ⟨_, (true), tq_8, H', ⟨by first | omega | exact Nat.le_refl _⟩, ⟨by (with_reducible repeat (first | refine blk_drewN ?_ _ | refine blk_drew ?_ | refine blk_alloc ?_ _)); exact BK256.out⟩, ⟨by (with_reducible repeat (first | refine blk_drewN ?_ _ | refine blk_drew ?_ | refine blk_alloc ?_ _)); exact BK257.out⟩, ⟨by repeat (first | (with_reducible first | exact HB.out | apply below_alloc | apply pw_below_drewN | apply below_drew1 | refine below_set ?_ GE256.out | refine below_set ?_ GE257.out) | exact HB.out)⟩⟩
    ·rw [if_neg c12] at H
     have c12b0 : decide (a0_3 < t259) = false := decide_eq_false c12
     clear c12
     replace H := Option.bind_eq_some_iff.mp H
     obtain ⟨t260, A160, H⟩ := H
     replace H : (impl_ViewOk.j0 k (decide ((t260.length : Int) > 6)) l1_0) = some r := H
     have A16 := Aside0.mk A160
     clear A160
     have H' := Aside0.mk H
     clear H
     try go_wp2
     have n0_ := Aside0.mk (blk_drew BK256.out)
     have n1_ := Aside0.mk (blk_drew BK257.out)
     have n2_ := Aside0.mk (below_drew1 HB.out)
     clear BK256
     clear BK257
     clear HB
     have BK256 := n0_
     have BK257 := n1_
     have HB := n2_
     clear n0_ n1_ n2_
     refine start_ (n := 24) (S := fun w' => w'.cell? ⟨gb256, 0, none⟩ = some (.int .i64 a0_0) ∧ w'.cell? ⟨gb256, 1, none⟩ = some (.int .i64 a0_1) ∧ w'.cell? ⟨gb256, 2, none⟩ = some (.int .i64 a0_2) ∧ w'.cell? ⟨gb256, 3, none⟩ = some (.int .i64 a0_3) ∧ w'.cell? ⟨gb257, 0, none⟩ = some (.slice A1_0 l1_0.length c1_0)) (ds := []) bq_73 (by kernel_rfl) rfl rfl ⟨(blk_cell BK256.out 0).trans rfl, (blk_cell BK256.out 1).trans rfl, (blk_cell BK256.out 2).trans rfl, (blk_cell BK256.out 3).trans rfl, (blk_cell BK257.out 0).trans rfl⟩ (fun hHeld => ?_); refine with_tabW impl_ViewOk.tab1 impl_ViewOk.bits1 (fun HT_ HW_ => ?_)
     generalize w5.drew = w17 at BK256 BK257 HB hHeld ⊢
     refine take_ (i := 0) (N := some 9) (v := ?_) (a' := ?_) bq_74 rfl rfl (take_ofW HT_.out HW_.out (by kernel_rfl)) (fun _ _ _ h => h) (Or.inl ⟨by rfl, ?_⟩) hHeld ?_ ?_
     rotate_left
     ·rintro w' ⟨s0, s1, s2, s3, s4⟩
      go_simp
      with_reducible rfl
     rotate_left
     ·simp only [Act.put, List.setIfInBounds_toArray, List.set_cons_zero, List.set_cons_succ, i64_w, i32_w]
      rfl
     refine one_ (i := 1) (N := some 10) bq_75 rfl rfl (one_of HT_.out (by kernel_rfl)) (by decide) (fun K hK => ?_)
     refine goes_ Tryd.func77 (by kernel_rfl) rfl #[.agg #[.int .i64 a0_0, .int .i64 a0_1, .int .i64 a0_2, .int .i64 a0_3]] (by rfl) rfl rfl tq_1 ?_
     with_reducible refine (impl_GeoOk.calls a0_0 a0_1 a0_2 a0_3 true _ A6.out).mono ?_
     rintro e w18 ⟨rfl, hb⟩
     refine ⟨_, rfl, ?_⟩
     have n0_ := Aside0.mk (blk_below (g := gb256) (o := .cells #[.int .i64 a0_0, .int .i64 a0_1, .int .i64 a0_2, .int .i64 a0_3] 58 (0, 0)) tq_10 hb)
     have n1_ := Aside0.mk (blk_below (g := gb257) (o := .cells #[.slice A1_0 l1_0.length c1_0] 37 (0, 0)) tq_13 hb)
     have n2_ := Aside0.mk (below_step tq_12 hb)
     clear BK256
     clear BK257
     clear HB
     have BK256 := n0_
     have BK257 := n1_
     have HB := n2_
     clear n0_ n1_ n2_
     (try clear hb)
     (try clear hb2)
     (try clear hk)
     (try clear hi)
     refine hK.out _ _ ⟨(blk_cell BK256.out 0).trans rfl, (blk_cell BK256.out 1).trans rfl, (blk_cell BK256.out 2).trans rfl, (blk_cell BK256.out 3).trans rfl, (blk_cell BK257.out 0).trans rfl⟩ (fun hHeld => ?_)
     clear hK K
     refine norm_ (a' := ?_) ?_ ?_
     rotate_left
     ·show Act.put _ (some 10) _ = _
      simp only [Act.put, List.setIfInBounds_toArray, List.set_cons_zero, List.set_cons_succ, i64_w, i32_w]
      rfl
     refine yq_ (i := 2) (N := some 11) bq_76 (any_of HT_.out (by kernel_rfl)) ?_
     refine yq_ (i := 3) (N := some 12) bq_77 (any_of HT_.out (by kernel_rfl)) ?_
     refine yq_ (i := 4) (N := some 13) bq_78 (any_of HT_.out (by kernel_rfl)) ?_
     refine yq_ (i := 7) (N := some 16) bq_98 (any_of HT_.out (by kernel_rfl)) ?_
     refine take_ (i := 5) (N := some 14) (v := ?_) (a' := ?_) bq_99 rfl rfl (take_ofW HT_.out HW_.out (by kernel_rfl)) (fun _ _ _ h => h) (Or.inl ⟨by rfl, ?_⟩) hHeld ?_ ?_
     rotate_left
     ·rintro w' ⟨s0, s1, s2, s3, s4⟩
      go_simp
      with_reducible rfl
     rotate_left
     ·simp only [Act.put, List.setIfInBounds_toArray, List.set_cons_zero, List.set_cons_succ, i64_w, i32_w]
      rfl
     refine yq_ (i := 6) (N := some 15) bq_79 (any_of HT_.out (by kernel_rfl)) ?_
     refine take_ (i := 8) (N := some 17) (v := ?_) (a' := ?_) bq_80 rfl rfl (take_ofW HT_.out HW_.out (by kernel_rfl)) (fun _ _ _ h => h) (Or.inl ⟨by rfl, ?_⟩) hHeld ?_ ?_
     rotate_left
     ·rintro w' ⟨s0, s1, s2, s3, s4⟩
      go_simp
      with_reducible rfl
     rotate_left
     ·simp only [Act.put, List.setIfInBounds_toArray, List.set_cons_zero, List.set_cons_succ, i64_w, i32_w]
      rfl
     refine yq_ (i := 9) (N := some 18) bq_81 (any_of HT_.out (by kernel_rfl)) ?_
     refine yq_ (i := 10) (N := some 19) bq_82 (any_of HT_.out (by kernel_rfl)) ?_
     refine yq_ (i := 11) (N := some 20) bq_83 (any_of HT_.out (by kernel_rfl)) ?_
     refine yq_ (i := 14) (N := some 23) bq_124 (any_of HT_.out (by kernel_rfl)) ?_
     refine take_ (i := 12) (N := some 21) (v := ?_) (a' := ?_) bq_125 rfl rfl (take_ofW HT_.out HW_.out (by kernel_rfl)) (fun _ _ _ h => h) (Or.inl ⟨by rfl, ?_⟩) hHeld ?_ ?_
     rotate_left
     ·rintro w' ⟨s0, s1, s2, s3, s4⟩
      go_simp
      with_reducible rfl
     rotate_left
     ·simp only [Act.put, List.setIfInBounds_toArray, List.set_cons_zero, List.set_cons_succ, i64_w, i32_w]
      rfl
     refine take_ (i := 15) (N := some 24) (v := ?_) (a' := ?_) bq_126 rfl rfl (take_ofW HT_.out HW_.out (by kernel_rfl)) (fun _ _ _ h => h) (Or.inl ⟨by rfl, ?_⟩) hHeld ?_ ?_
     rotate_left
     ·rintro w' ⟨s0, s1, s2, s3, s4⟩
      go_simp
      with_reducible rfl
     rotate_left
     ·simp only [Act.put, List.setIfInBounds_toArray, List.set_cons_zero, List.set_cons_succ, i64_w, i32_w]
      rfl
     refine one_ (i := 13) (N := some 22) bq_84 rfl rfl (one_of HT_.out (by kernel_rfl)) (by decide) (fun K hK => ?_)
     refine goes_ Tryd.func78 (by kernel_rfl) rfl #[.agg #[.slice A1_0 l1_0.length c1_0]] (by rfl) rfl rfl tq_1 ?_
     with_reducible refine (impl_PagesIn.calls k _ _ l1_0 t259 _ ?side1 ?side2 A11.out).mono ?_
     (case side1 => exact tq_4)
     (case side2 => exact HC1_0.out)
     rintro e w19 ⟨rfl, hb⟩
     refine ⟨_, rfl, ?_⟩
     have n0_ := Aside0.mk (blk_below (g := gb256) (o := .cells #[.int .i64 a0_0, .int .i64 a0_1, .int .i64 a0_2, .int .i64 a0_3] 58 (0, 0)) tq_10 hb)
     have n1_ := Aside0.mk (blk_below (g := gb257) (o := .cells #[.slice A1_0 l1_0.length c1_0] 37 (0, 0)) tq_13 hb)
     have n2_ := Aside0.mk (below_step tq_12 hb)
     clear BK256
     clear BK257
     clear HB
     have BK256 := n0_
     have BK257 := n1_
     have HB := n2_
     clear n0_ n1_ n2_
     (try clear hb)
     (try clear hb2)
     (try clear hk)
     (try clear hi)
     refine hK.out _ _ ⟨(blk_cell BK256.out 0).trans rfl, (blk_cell BK256.out 1).trans rfl, (blk_cell BK256.out 2).trans rfl, (blk_cell BK256.out 3).trans rfl, (blk_cell BK257.out 0).trans rfl⟩ (fun hHeld => ?_)
     clear hK K
     refine norm_ (a' := ?_) ?_ ?_
     rotate_left
     ·show Act.put _ (some 22) _ = _
      simp only [Act.put, List.setIfInBounds_toArray, List.set_cons_zero, List.set_cons_succ, i64_w, i32_w]
      rfl
     refine yq_ (i := 16) (N := some 25) bq_85 (any_of HT_.out (by kernel_rfl)) ?_
     refine yq_ (i := 17) (N := some 26) bq_86 (any_of HT_.out (by kernel_rfl)) ?_
     refine yq_ (i := 18) (N := some 27) bq_87 (any_of HT_.out (by kernel_rfl)) ?_
     refine take_ (i := 19) (N := some 28) (v := ?_) (a' := ?_) bq_88 rfl rfl (take_ofW HT_.out HW_.out (by kernel_rfl)) (fun _ _ _ h => h) (Or.inl ⟨by rfl, ?_⟩) hHeld ?_ ?_
     rotate_left
     ·rintro w' ⟨s0, s1, s2, s3, s4⟩
      go_simp
      with_reducible rfl
     rotate_left
     ·simp only [Act.put, List.setIfInBounds_toArray, List.set_cons_zero, List.set_cons_succ, i64_w, i32_w]
      rfl
     refine one_ (i := 20) (N := some 29) bq_89 rfl rfl (one_of HT_.out (by kernel_rfl)) (by decide) (fun K hK => ?_)
     refine goes_ Tryd.func30 (by kernel_rfl) rfl #[.agg #[.slice A1_0 l1_0.length c1_0], .string (⟨#[47]⟩ : ByteArray)] (by rfl) rfl rfl tq_1 ?_
     with_reducible refine (impl_KidsOf.calls k _ _ l1_0 (⟨#[47]⟩ : ByteArray) t260 _ ?side1 ?side2 ?side3 A16.out).mono ?_
     (case side1 => exact DoorOk.below HD.out tq_12)
     (case side2 => exact tq_4)
     (case side3 => exact HC1_0.out)
     rintro e w20 ⟨v261, rfl, ho0, hb⟩
     refine ⟨_, rfl, ?_⟩
     have n0_ := Aside0.mk (Kd.R_lower ho0 (below_size tq_12))
     have n1_ := Aside0.mk (blk_below (g := gb256) (o := .cells #[.int .i64 a0_0, .int .i64 a0_1, .int .i64 a0_2, .int .i64 a0_3] 58 (0, 0)) tq_10 hb)
     have n2_ := Aside0.mk (blk_below (g := gb257) (o := .cells #[.slice A1_0 l1_0.length c1_0] 37 (0, 0)) tq_13 hb)
     have n3_ := Aside0.mk (below_step tq_12 hb)
     clear BK256
     clear BK257
     clear HB
     have HO262 := n0_
     have BK256 := n1_
     have BK257 := n2_
     have HB := n3_
     clear n0_ n1_ n2_ n3_
     (try clear hb)
     (try clear hb2)
     (try clear hk)
     (try clear hi)
     (try clear ho0)
     obtain ⟨Ao21, co21, eo21⟩ := Kd.R_slice HO262.out
     (first | subst eo21 | (injection eo21 with f1_ f2_ f3_; have f4_ := f1_.symm; have f5_ := f3_.symm; clear f1_ f2_ f3_; subst f4_; subst f5_))
     refine hK.out _ _ ⟨(blk_cell BK256.out 0).trans rfl, (blk_cell BK256.out 1).trans rfl, (blk_cell BK256.out 2).trans rfl, (blk_cell BK256.out 3).trans rfl, (blk_cell BK257.out 0).trans rfl⟩ (fun hHeld => ?_)
     clear hK K
     refine norm_ (a' := ?_) ?_ ?_
     rotate_left
     ·show Act.put _ (some 29) _ = _
      simp only [Act.put, List.setIfInBounds_toArray, List.set_cons_zero, List.set_cons_succ, i64_w, i32_w]
      rfl
     refine yq_ (i := 21) (N := some 30) bq_90 (any_of HT_.out (by kernel_rfl)) ?_
     refine yq_ (i := 22) (N := some 31) bq_91 (any_of HT_.out (by kernel_rfl)) ?_
     refine yq_ (i := 23) (N := some 32) bq_92 (any_of HT_.out (by kernel_rfl)) ?_
     refine done_ (done_of HT_.out (by kernel_rfl)) ?_
     try go_wp2
     go_meet
     case rel => exact ⟨_, (decide ((t260.length : Int) > 6)), tq_8, H', ⟨by first | omega | exact Nat.le_refl _⟩, ⟨by (with_reducible repeat (first | refine blk_drewN ?_ _ | refine blk_drew ?_ | refine blk_alloc ?_ _)); exact BK256.out⟩, ⟨by (with_reducible repeat (first | refine blk_drewN ?_ _ | refine blk_drew ?_ | refine blk_alloc ?_ _)); exact BK257.out⟩, ⟨by repeat (first | (with_reducible first | exact HB.out | apply below_alloc | apply pw_below_drewN | apply below_drew1 | refine below_set ?_ GE256.out | refine below_set ?_ GE257.out) | exact HB.out)⟩⟩
  ·replace c7 := Bool.eq_false_iff.mpr c7
   subst c7
   have H1 : (impl_ViewOk.j0 k true l1_0) = some r := by rw [if_neg (show ¬ (false = true) by decide)] at H; exact H
   clear H
   have H := H1
   clear H1
   have H' := Aside0.mk H
   clear H
   try go_wp2
   have n0_ := Aside0.mk (blk_drew BK256.out)
   have n1_ := Aside0.mk (blk_drew BK257.out)
   have n2_ := Aside0.mk (below_drew1 HB.out)
   clear BK256
   clear BK257
   clear HB
   have BK256 := n0_
   have BK257 := n1_
   have HB := n2_
   clear n0_ n1_ n2_
   refine start_ (n := 24) (S := fun w' => w'.cell? ⟨gb256, 0, none⟩ = some (.int .i64 a0_0) ∧ w'.cell? ⟨gb256, 1, none⟩ = some (.int .i64 a0_1) ∧ w'.cell? ⟨gb256, 2, none⟩ = some (.int .i64 a0_2) ∧ w'.cell? ⟨gb256, 3, none⟩ = some (.int .i64 a0_3)) (ds := []) bq_73 (by kernel_rfl) rfl rfl ⟨(blk_cell BK256.out 0).trans rfl, (blk_cell BK256.out 1).trans rfl, (blk_cell BK256.out 2).trans rfl, (blk_cell BK256.out 3).trans rfl⟩ (fun hHeld => ?_); refine with_tabW impl_ViewOk.tab1 impl_ViewOk.bits1 (fun HT_ HW_ => ?_)
   generalize w5.drew = w22 at BK256 BK257 HB hHeld ⊢
   refine take_ (i := 0) (N := some 9) (v := ?_) (a' := ?_) bq_74 rfl rfl (take_ofW HT_.out HW_.out (by kernel_rfl)) (fun _ _ _ h => h) (Or.inl ⟨by rfl, ?_⟩) hHeld ?_ ?_
   rotate_left
   ·rintro w' ⟨s0, s1, s2, s3⟩
    go_simp
    with_reducible rfl
   rotate_left
   ·simp only [Act.put, List.setIfInBounds_toArray, List.set_cons_zero, List.set_cons_succ, i64_w, i32_w]
    rfl
   refine one_ (i := 1) (N := some 10) bq_75 rfl rfl (one_of HT_.out (by kernel_rfl)) (by decide) (fun K hK => ?_)
   refine goes_ Tryd.func77 (by kernel_rfl) rfl #[.agg #[.int .i64 a0_0, .int .i64 a0_1, .int .i64 a0_2, .int .i64 a0_3]] (by rfl) rfl rfl tq_1 ?_
   with_reducible refine (impl_GeoOk.calls a0_0 a0_1 a0_2 a0_3 false _ A6.out).mono ?_
   rintro e w23 ⟨rfl, hb⟩
   refine ⟨_, rfl, ?_⟩
   have n0_ := Aside0.mk (blk_below (g := gb256) (o := .cells #[.int .i64 a0_0, .int .i64 a0_1, .int .i64 a0_2, .int .i64 a0_3] 58 (0, 0)) tq_10 hb)
   have n1_ := Aside0.mk (blk_below (g := gb257) (o := .cells #[.slice A1_0 l1_0.length c1_0] 37 (0, 0)) tq_13 hb)
   have n2_ := Aside0.mk (below_step tq_12 hb)
   clear BK256
   clear BK257
   clear HB
   have BK256 := n0_
   have BK257 := n1_
   have HB := n2_
   clear n0_ n1_ n2_
   (try clear hb)
   (try clear hb2)
   (try clear hk)
   (try clear hi)
   refine hK.out _ _ ⟨(blk_cell BK256.out 0).trans rfl, (blk_cell BK256.out 1).trans rfl, (blk_cell BK256.out 2).trans rfl, (blk_cell BK256.out 3).trans rfl⟩ (fun hHeld => ?_)
   clear hK K
   refine norm_ (a' := ?_) ?_ ?_
   rotate_left
   ·show Act.put _ (some 10) _ = _
    simp only [Act.put, List.setIfInBounds_toArray, List.set_cons_zero, List.set_cons_succ, i64_w, i32_w]
    rfl
   refine yq_ (i := 2) (N := some 11) bq_76 (any_of HT_.out (by kernel_rfl)) ?_
   refine yq_ (i := 3) (N := some 12) bq_77 (any_of HT_.out (by kernel_rfl)) ?_
   refine uq_ (i := 4) (N := some 13) bq_78 (any_of HT_.out (by kernel_rfl)) ?_
   refine uq_ (i := 5) (N := some 14) #[true, true, true, true, true, true, false, false, false, false, false, false, false, false, false, false, false, false, false, false, false, false, false, false] (any_of HT_.out (by kernel_rfl)) ?_
   refine uq_ (i := 6) (N := some 15) #[true, true, true, true, true, true, true, false, false, false, false, false, false, false, false, false, false, false, false, false, false, false, false, false] (any_of HT_.out (by kernel_rfl)) ?_
   refine uq_ (i := 7) (N := some 16) bq_79 (any_of HT_.out (by kernel_rfl)) ?_
   refine uq_ (i := 8) (N := some 17) bq_80 (any_of HT_.out (by kernel_rfl)) ?_
   refine uq_ (i := 9) (N := some 18) bq_81 (any_of HT_.out (by kernel_rfl)) ?_
   refine yq_ (i := 10) (N := some 19) bq_82 (any_of HT_.out (by kernel_rfl)) ?_
   refine yq_ (i := 11) (N := some 20) bq_83 (any_of HT_.out (by kernel_rfl)) ?_
   refine uq_ (i := 12) (N := some 21) bq_121 (any_of HT_.out (by kernel_rfl)) ?_
   refine uq_ (i := 13) (N := some 22) bq_122 (any_of HT_.out (by kernel_rfl)) ?_
   refine uq_ (i := 14) (N := some 23) bq_123 (any_of HT_.out (by kernel_rfl)) ?_
   refine uq_ (i := 15) (N := some 24) bq_84 (any_of HT_.out (by kernel_rfl)) ?_
   refine uq_ (i := 16) (N := some 25) bq_85 (any_of HT_.out (by kernel_rfl)) ?_
   refine yq_ (i := 17) (N := some 26) bq_86 (any_of HT_.out (by kernel_rfl)) ?_
   refine yq_ (i := 18) (N := some 27) bq_87 (any_of HT_.out (by kernel_rfl)) ?_
   refine uq_ (i := 19) (N := some 28) bq_88 (any_of HT_.out (by kernel_rfl)) ?_
   refine uq_ (i := 20) (N := some 29) bq_89 (any_of HT_.out (by kernel_rfl)) ?_
   refine uq_ (i := 21) (N := some 30) bq_90 (any_of HT_.out (by kernel_rfl)) ?_
   refine uq_ (i := 22) (N := some 31) bq_91 (any_of HT_.out (by kernel_rfl)) ?_
   refine yq_ (i := 23) (N := some 32) bq_92 (any_of HT_.out (by kernel_rfl)) ?_
   refine done_ (done_of HT_.out (by kernel_rfl)) ?_
   try go_wp2
   go_meet
   case rel => exact ⟨_, (true), tq_8, H', ⟨by first | omega | exact Nat.le_refl _⟩, ⟨by (with_reducible repeat (first | refine blk_drewN ?_ _ | refine blk_drew ?_ | refine blk_alloc ?_ _)); exact BK256.out⟩, ⟨by (with_reducible repeat (first | refine blk_drewN ?_ _ | refine blk_drew ?_ | refine blk_alloc ?_ _)); exact BK257.out⟩, ⟨by repeat (first | (with_reducible first | exact HB.out | apply below_alloc | apply pw_below_drewN | apply below_drew1 | refine below_set ?_ GE256.out | refine below_set ?_ GE257.out) | exact HB.out)⟩⟩
 case rest =>
  clear HC3
  try clear c1
  try clear p2
  try clear c3
  try clear c7
  try clear c12
  try clear c12b0
  obtain ⟨kq, x32_2, rfl, HA, HJ2, BK256, BK257, HB⟩ := hcut
  cases kq with
  | zero => exact absurd HA.out (by simp [impl_ViewOk.j0])
  | succ kj2 =>
   have H := HA.out
   clear HA
   simp only [impl_ViewOk.j0] at H
   by_cases c24 : x32_2 = true
   ·subst c24
    have H1 : (some false) = some r := by rw [if_pos rfl] at H; exact H
    clear H
    have H := H1
    clear H1
    obtain rfl := Option.some.inj H
    go_wp2
    go_ret
    exact ⟨by first | rfl | (simp [errW_none, errW_some] <;> rfl) | (simp [*, errW_none, errW_some] <;> rfl), by repeat (first | (with_reducible first | exact HB.out | apply below_alloc | apply pw_below_drewN | apply below_drew1 | refine below_set ?_ GE256.out | refine below_set ?_ GE257.out) | exact HB.out)⟩
   ·replace c24 := Bool.eq_false_iff.mpr c24
    subst c24
    have H1 : (impl_ViewOk.l0 kj2 l1_0 (l1_0.length : Int) 0 l1_0) = some r := by rw [if_neg (show ¬ (false = true) by decide)] at H; exact H
    clear H
    have H := H1
    clear H1
    have H' := Aside0.mk H
    clear H
    have hnb25 := NB257_256.out
    have hnc25 := NB256_257.out
    have hcz26_0 : wc.cell? ⟨gb257, 0, none⟩ = some (.slice A1_0 l1_0.length c1_0) := (blk_cell BK257.out 0).trans rfl
    have hfz26_0 := blk_frozen BK257.out 0
    go_wp2
    go_loopg [36] kj2 (fun kq v36 w' => ∃ (x36_2 : Int), v36 = .int .i64 x36_2 ∧ Aside0 (impl_ViewOk.l0 kq l1_0 (l1_0.length : Int) x36_2 l1_0 = some r) ∧ Aside0 (kq ≤ kj2) ∧ Aside0 (w'.heap[gb256]? = some (.cells #[.int .i64 a0_0, .int .i64 a0_1, .int .i64 a0_2, .int .i64 a0_3] 58 (0, 0))) ∧ Aside0 (w'.heap[gb257]? = some (.cells #[(.slice A1_0 l1_0.length c1_0)] 37 (0, 0))) ∧ Aside0 (Below w.heap.size w w'))
    case atStart => exact ⟨(0), tq_8, H', ⟨Nat.le_refl _⟩, ⟨by (with_reducible repeat (first | refine blk_drewN ?_ _ | refine blk_drew ?_ | refine blk_alloc ?_ _)); exact BK256.out⟩, ⟨by (with_reducible repeat (first | refine blk_drewN ?_ _ | refine blk_drew ?_ | refine blk_alloc ?_ _)); exact BK257.out⟩, ⟨by repeat (first | (with_reducible first | exact HB.out | apply below_alloc | apply pw_below_drewN | apply below_drew1 | refine below_set ?_ GE256.out | refine below_set ?_ GE257.out) | exact HB.out)⟩⟩
    case round =>
     clear H'
     try clear c1
     try clear c2
     try clear p2
     try clear c3
     try clear c7
     try clear c12
     try clear c12b0
     try clear c24
     try clear c25
     try clear hcz26_0
     try clear hfz26_0
     try clear p2
     obtain ⟨x36_2, rfl, HA, HK2, BK256, BK257, HB⟩ := hrel
     cases gk with
     | zero => exact absurd HA.out (by simp [impl_ViewOk.l0])
     | succ k2 =>
      have H := HA.out
      clear HA
      simp only [impl_ViewOk.l0] at H
      by_cases c27 : x36_2 < (l1_0.length : Int)
      ·rw [if_pos c27] at H
       have c27b0 : decide (x36_2 < (l1_0.length : Int)) = true := decide_eq_true c27
       clear c27
       by_cases c28 : 0 ≤ x36_2
       ·rw [if_pos c28] at H
        have c28b0 : decide (0 ≤ x36_2) = true := decide_eq_true c28
        clear c28
        by_cases c29 : x36_2 < (l1_0.length : Int)
        ·rw [if_pos c29] at H
         have c29b0 : decide (x36_2 < (l1_0.length : Int)) = true := decide_eq_true c29
         clear c29
         replace H := Option.bind_eq_some_iff.mp H
         obtain ⟨⟨t265, t266⟩, A300, H⟩ := H
         replace H : (if t266 = 0 then (if ((rd_T75 l1_0 x36_2).f0).toList = ([47] : List UInt8) then (impl_ViewOk.j2 k2 l1_0 (l1_0.length : Int) x36_2 true l1_0 ((rd_T75 l1_0 x36_2).f0) ((rd_T75 l1_0 x36_2).f1) ((rd_T75 l1_0 x36_2).f2)) else ((impl_ParentOf.f k2 ((rd_T75 l1_0 x36_2).f0)).bind fun t269 => ((impl_isDirIn.f l1_0 t269).bind fun t270 => (if t270 = true then (if x36_2 > 0 then (if 0 ≤ (wrap64 (x36_2 - 1)) then (if (wrap64 (x36_2 - 1)) < (l1_0.length : Int) then (impl_ViewOk.j2 k2 l1_0 (l1_0.length : Int) x36_2 (!(Op.bytesLess (((rd_T75 l1_0 (wrap64 (x36_2 - 1))).f0).toList) (((rd_T75 l1_0 x36_2).f0).toList))) l1_0 ((rd_T75 l1_0 x36_2).f0) ((rd_T75 l1_0 x36_2).f1) ((rd_T75 l1_0 x36_2).f2)) else (none)) else (none)) else (impl_ViewOk.j2 k2 l1_0 (l1_0.length : Int) x36_2 false l1_0 ((rd_T75 l1_0 x36_2).f0) ((rd_T75 l1_0 x36_2).f1) ((rd_T75 l1_0 x36_2).f2))) else (impl_ViewOk.j2 k2 l1_0 (l1_0.length : Int) x36_2 true l1_0 ((rd_T75 l1_0 x36_2).f0) ((rd_T75 l1_0 x36_2).f1) ((rd_T75 l1_0 x36_2).f2)))))) else (impl_ViewOk.j2 k2 l1_0 (l1_0.length : Int) x36_2 true l1_0 ((rd_T75 l1_0 x36_2).f0) ((rd_T75 l1_0 x36_2).f1) ((rd_T75 l1_0 x36_2).f2))) = some r := H
         have A30 := Aside0.mk A300
         clear A300
         have HC31 := Aside0.mk H
         clear H
         have p263 : 0 ≤ (x36_2 : Int) := of_decide_eq_true tq_6
         have q263 : x36_2 < (l1_0.length : Int) := of_decide_eq_true tq_6
         obtain ⟨ad263, e263, hx263_0, hx263_1, hx263_2⟩ := at_T75 HR1_0.out x36_2 p263 q263
         cases e263
         replace hx263_0 := (HB.out.cell (World.block_lt_of_cell? w _ hx263_0)).trans hx263_0
         replace hx263_1 := (HB.out.cell (World.block_lt_of_cell? w _ hx263_1)).trans hx263_1
         replace hx263_2 := (HB.out.cell (World.block_lt_of_cell? w _ hx263_2)).trans hx263_2
         replace p263 := eq_true p263
         replace q263 := eq_true q263
         go_upto_region 7 with (first | ((with_reducible refine gate_dst (N := 6) rfl ?_); (try (refine gate_guard (by rfl) ?_; dsimp only)); refine box_event ?hg (N := 6) ?hd (cs := #[.string (⟨#[]⟩ : ByteArray), .bool false, .string (⟨#[]⟩ : ByteArray)]) (t := 75) ?hr ?_; (case hd => rfl); (case hg => rfl); (case hr => first | (go_simp; done) | (go_simp; rfl)); intro gb264 hg w32 hbox hb; have n0_ := Aside0.mk (blk_below (g := gb256) (o := .cells #[.int .i64 a0_0, .int .i64 a0_1, .int .i64 a0_2, .int .i64 a0_3] 58 (0, 0)) tq_10 hb); have n1_ := Aside0.mk (blk_below (g := gb257) (o := .cells #[.slice (some ad263) l1_0.length c1_0] 37 (0, 0)) tq_13 hb); have n2_ := Aside0.mk (below_step tq_12 hb); have n3_ := Aside0.mk (hbox); have n4_ := Aside0.mk ((by rw [hg]; exact (below_size tq_12) : w.heap.size ≤ gb264)); have n5_ := Aside0.mk ((by rw [hg]; exact (below_size tq_12) : w.heap.size ≤ gb264)); have n6_ := Aside0.mk ((by rw [hg]; exact Nat.ne_of_lt (blk_lt (g := gb256) (o := .cells #[.int .i64 a0_0, .int .i64 a0_1, .int .i64 a0_2, .int .i64 a0_3] 58 (0, 0)) tq_10) : gb256 ≠ gb264)); have n7_ := Aside0.mk ((by rw [hg]; exact Nat.ne_of_gt (blk_lt (g := gb256) (o := .cells #[.int .i64 a0_0, .int .i64 a0_1, .int .i64 a0_2, .int .i64 a0_3] 58 (0, 0)) tq_10) : gb264 ≠ gb256)); have n8_ := Aside0.mk ((by rw [hg]; exact Nat.ne_of_lt (blk_lt (g := gb257) (o := .cells #[.slice (some ad263) l1_0.length c1_0] 37 (0, 0)) tq_13) : gb257 ≠ gb264)); have n9_ := Aside0.mk ((by rw [hg]; exact Nat.ne_of_gt (blk_lt (g := gb257) (o := .cells #[.slice (some ad263) l1_0.length c1_0] 37 (0, 0)) tq_13) : gb264 ≠ gb257)); clear BK256; clear BK257; clear HB; have BK256 := n0_; have BK257 := n1_; have HB := n2_; have BK264 := n3_; have GW264 := n4_; have GE264 := n5_; have NB256_264 := n6_; have NB264_256 := n7_; have NB257_264 := n8_; have NB264_257 := n9_; clear n0_ n1_ n2_ n3_ n4_ n5_ n6_ n7_ n8_ n9_; clear hb hbox hg; have hnb33 := NB264_256.out; have hnc33 := NB256_264.out; have hnb34 := NB264_257.out; have hnc34 := NB257_264.out; have hcz35_0 : w32.cell? ⟨gb264, 0, none⟩ = some (.string (⟨#[]⟩ : ByteArray)) := (blk_cell BK264.out 0).trans rfl; have hcz35_1 : w32.cell? ⟨gb264, 1, none⟩ = some (.bool false) := (blk_cell BK264.out 1).trans rfl; have hcz35_2 : w32.cell? ⟨gb264, 2, none⟩ = some (.string (⟨#[]⟩ : ByteArray)) := (blk_cell BK264.out 2).trans rfl; have hfz35_0 := blk_frozen BK264.out 0; have hfz35_1 := blk_frozen BK264.out 1; have hfz35_2 := blk_frozen BK264.out 2) | ((with_reducible refine gate_callee (f := 18) rfl ?_); refine goesL_ (some 44) rfl rfl Tryd.func18 (by kernel_rfl) rfl #[.string ((rd_T75 l1_0 x36_2).f0)] rfl tq_1 ?_; (with_reducible refine (impl_SplitPath.calls k2 ((rd_T75 l1_0 x36_2).f0) t265 t266 _ ?side1 A30.out).mono ?_); (case side1 => exact DoorOk.below HD.out tq_5); rintro e w36 ⟨v267, rfl, ho0, hb⟩; refine ⟨_, rfl, ?_⟩; have n0_ := Aside0.mk (Kd.R_lower ho0 (below_size tq_5)); have n1_ := Aside0.mk (blk_below (g := gb256) (o := .cells #[.int .i64 a0_0, .int .i64 a0_1, .int .i64 a0_2, .int .i64 a0_3] 58 (0, 0)) (by (with_reducible repeat (first | refine blk_drewN ?_ _ | refine blk_drew ?_ | refine blk_alloc ?_ _)); refine blk_far ?_ NB256_264.out _; (with_reducible repeat (first | refine blk_drewN ?_ _ | refine blk_drew ?_ | refine blk_alloc ?_ _)); refine blk_far ?_ NB256_264.out _; (with_reducible repeat (first | refine blk_drewN ?_ _ | refine blk_drew ?_ | refine blk_alloc ?_ _)); refine blk_far ?_ NB256_264.out _; (with_reducible repeat (first | refine blk_drewN ?_ _ | refine blk_drew ?_ | refine blk_alloc ?_ _)); exact BK256.out) hb); have n2_ := Aside0.mk (blk_below (g := gb257) (o := .cells #[.slice (some ad263) l1_0.length c1_0] 37 (0, 0)) (by (with_reducible repeat (first | refine blk_drewN ?_ _ | refine blk_drew ?_ | refine blk_alloc ?_ _)); refine blk_far ?_ NB257_264.out _; (with_reducible repeat (first | refine blk_drewN ?_ _ | refine blk_drew ?_ | refine blk_alloc ?_ _)); refine blk_far ?_ NB257_264.out _; (with_reducible repeat (first | refine blk_drewN ?_ _ | refine blk_drew ?_ | refine blk_alloc ?_ _)); refine blk_far ?_ NB257_264.out _; (with_reducible repeat (first | refine blk_drewN ?_ _ | refine blk_drew ?_ | refine blk_alloc ?_ _)); exact BK257.out) hb); have n3_ := Aside0.mk (blk_below (g := gb264) (o := .cells #[.string ((rd_T75 l1_0 x36_2).f0), .bool ((rd_T75 l1_0 x36_2).f1), .string ((rd_T75 l1_0 x36_2).f2)] 75 (0, 0)) (by (with_reducible repeat (first | refine blk_drewN ?_ _ | refine blk_drew ?_ | refine blk_alloc ?_ _)); refine blk_put (cs := #[.string ((rd_T75 l1_0 x36_2).f0), .bool ((rd_T75 l1_0 x36_2).f1), .string (⟨#[]⟩ : ByteArray)]) ?_ 2 _ rfl; (with_reducible repeat (first | refine blk_drewN ?_ _ | refine blk_drew ?_ | refine blk_alloc ?_ _)); refine blk_put (cs := #[.string ((rd_T75 l1_0 x36_2).f0), .bool false, .string (⟨#[]⟩ : ByteArray)]) ?_ 1 _ rfl; (with_reducible repeat (first | refine blk_drewN ?_ _ | refine blk_drew ?_ | refine blk_alloc ?_ _)); refine blk_put (cs := #[.string (⟨#[]⟩ : ByteArray), .bool false, .string (⟨#[]⟩ : ByteArray)]) ?_ 0 _ rfl; (with_reducible repeat (first | refine blk_drewN ?_ _ | refine blk_drew ?_ | refine blk_alloc ?_ _)); exact BK264.out) hb); have n4_ := Aside0.mk (below_step tq_5 hb); clear BK256; clear BK257; clear BK264; clear HB; have HO268 := n0_; have BK256 := n1_; have BK257 := n2_; have BK264 := n3_; have HB := n4_; clear n0_ n1_ n2_ n3_ n4_; (try clear hb); (try clear hb2); (try clear hk); (try clear hi); (try clear ho0)))
         (try simp only [Act.put, List.setIfInBounds_toArray, List.set_cons_zero, List.set_cons_succ])
         go_cut [77] (fun v77 wc => ∃ (kq : Nat) (x77_30 : Bool), v77 = .bool x77_30 ∧ Aside0 (impl_ViewOk.j2 kq l1_0 (l1_0.length : Int) x36_2 x77_30 l1_0 ((rd_T75 l1_0 x36_2).f0) ((rd_T75 l1_0 x36_2).f1) ((rd_T75 l1_0 x36_2).f2) = some r) ∧ Aside0 (kq ≤ k2) ∧ Aside0 (wc.heap[gb256]? = some (.cells #[.int .i64 a0_0, .int .i64 a0_1, .int .i64 a0_2, .int .i64 a0_3] 58 (0, 0))) ∧ Aside0 (wc.heap[gb257]? = some (.cells #[(.slice (some ad263) l1_0.length c1_0)] 37 (0, 0))) ∧ Aside0 (wc.heap[gb264]? = some (.cells #[.string ((rd_T75 l1_0 x36_2).f0), .bool ((rd_T75 l1_0 x36_2).f1), .string ((rd_T75 l1_0 x36_2).f2)] 75 (0, 0))) ∧ Aside0 (Below w.heap.size w wc))
         case first =>
          have H := HC31.out
          clear HC31
          by_cases c37 : t266 = 0
          ·rw [if_pos c37] at H
           have c37b0 : (t266 == 0) = true := beq_iff_eq.mpr c37
           have c37b1 : (t266 != 0) = false := bne_eq_false_iff_eq.mpr c37
           clear c37
           (first | rw [c37b0] | (simp only [i64_w, i32_w]; rw [c37b0]) | skip)
           by_cases c38 : ((rd_T75 l1_0 x36_2).f0).toList = ([47] : List UInt8)
           ·rw [if_pos c38] at H
            have c38b0 : (((rd_T75 l1_0 x36_2).f0).toList == ([47] : List UInt8)) = true := beq_iff_eq.mpr c38
            have c38b1 : (((rd_T75 l1_0 x36_2).f0).toList != ([47] : List UInt8)) = false := bne_eq_false_iff_eq.mpr c38
            clear c38
            have H' := Aside0.mk H
            clear H
            try go_wp2
            have n0_ := Aside0.mk (Kd.R_drew HO268.out)
            have n1_ := Aside0.mk (blk_drew BK256.out)
            have n2_ := Aside0.mk (blk_drew BK257.out)
            have n3_ := Aside0.mk (blk_drew BK264.out)
            have n4_ := Aside0.mk (below_drew1 HB.out)
            clear HO268
            clear BK256
            clear BK257
            clear BK264
            clear HB
            have HO268 := n0_
            have BK256 := n1_
            have BK257 := n2_
            have BK264 := n3_
            have HB := n4_
            clear n0_ n1_ n2_ n3_ n4_
            refine start_ (n := 31) (S := fun w' => w'.cell? ⟨gb264, 0, none⟩ = some (.string ((rd_T75 l1_0 x36_2).f0)) ∧ w'.cell? ⟨gb264, 1, none⟩ = some (.bool ((rd_T75 l1_0 x36_2).f1)) ∧ w'.cell? ⟨gb264, 2, none⟩ = some (.string ((rd_T75 l1_0 x36_2).f2))) (ds := []) bq_35 (by kernel_rfl) rfl rfl ⟨(blk_cell BK264.out 0).trans rfl, (blk_cell BK264.out 1).trans rfl, (blk_cell BK264.out 2).trans rfl⟩ (fun hHeld => ?_); refine with_tabW impl_ViewOk.tab7 impl_ViewOk.bits7 (fun HT_ HW_ => ?_)
            generalize w36.drew = w39 at HO268 BK256 BK257 BK264 HB hHeld ⊢
            refine yq_ (i := 0) (N := some 47) bq_36 (any_of HT_.out (by kernel_rfl)) ?_
            refine yq_ (i := 1) (N := some 48) bq_37 (any_of HT_.out (by kernel_rfl)) ?_
            refine yq_ (i := 2) (N := some 49) bq_38 (any_of HT_.out (by kernel_rfl)) ?_
            refine yq_ (i := 3) (N := some 50) bq_39 (any_of HT_.out (by kernel_rfl)) ?_
            refine take_ (i := 4) (N := some 51) (v := ?_) (a' := ?_) bq_40 rfl rfl (take_ofW HT_.out HW_.out (by kernel_rfl)) (fun _ _ _ h => h) (Or.inl ⟨by rfl, ?_⟩) hHeld ?_ ?_
            rotate_left
            ·rintro w' ⟨s0, s1, s2⟩
             go_simp
             with_reducible rfl
            rotate_left
            ·simp only [Act.put, List.setIfInBounds_toArray, List.set_cons_zero, List.set_cons_succ, i64_w, i32_w]
             rfl
            refine yq_ (i := 5) (N := some 52) bq_41 (any_of HT_.out (by kernel_rfl)) ?_
            refine yq_ (i := 6) (N := some 53) bq_42 (any_of HT_.out (by kernel_rfl)) ?_
            refine yq_ (i := 7) (N := some 54) bq_43 (any_of HT_.out (by kernel_rfl)) ?_
            refine uq_ (i := 8) (N := some 55) bq_127 (any_of HT_.out (by kernel_rfl)) ?_
            refine uq_ (i := 9) (N := some 56) bq_44 (any_of HT_.out (by kernel_rfl)) ?_
            refine uq_ (i := 10) (N := some 57) bq_45 (any_of HT_.out (by kernel_rfl)) ?_
            refine uq_ (i := 11) (N := some 58) bq_46 (any_of HT_.out (by kernel_rfl)) ?_
            refine uq_ (i := 12) (N := some 59) bq_47 (any_of HT_.out (by kernel_rfl)) ?_
            refine uq_ (i := 13) (N := some 60) bq_48 (any_of HT_.out (by kernel_rfl)) ?_
            refine yq_ (i := 14) (N := some 61) bq_49 (any_of HT_.out (by kernel_rfl)) ?_
            refine yq_ (i := 15) (N := some 62) bq_50 (any_of HT_.out (by kernel_rfl)) ?_
            refine uq_ (i := 16) (N := some 63) bq_51 (any_of HT_.out (by kernel_rfl)) ?_
            refine uq_ (i := 17) (N := some 64) bq_52 (any_of HT_.out (by kernel_rfl)) ?_
            refine uq_ (i := 18) (N := some 65) bq_53 (any_of HT_.out (by kernel_rfl)) ?_
            refine uq_ (i := 19) (N := some 66) bq_54 (any_of HT_.out (by kernel_rfl)) ?_
            refine uq_ (i := 20) (N := some 67) bq_93 (any_of HT_.out (by kernel_rfl)) ?_
            refine uq_ (i := 21) (N := some 68) bq_94 (any_of HT_.out (by kernel_rfl)) ?_
            refine uq_ (i := 22) (N := some 69) bq_95 (any_of HT_.out (by kernel_rfl)) ?_
            refine uq_ (i := 23) (N := some 70) bq_96 (any_of HT_.out (by kernel_rfl)) ?_
            refine uq_ (i := 24) (N := some 71) bq_55 (any_of HT_.out (by kernel_rfl)) ?_
            refine uq_ (i := 25) (N := some 72) bq_56 (any_of HT_.out (by kernel_rfl)) ?_
            refine uq_ (i := 26) (N := some 73) bq_57 (any_of HT_.out (by kernel_rfl)) ?_
            refine uq_ (i := 27) (N := some 74) bq_58 (any_of HT_.out (by kernel_rfl)) ?_
            refine uq_ (i := 28) (N := some 75) bq_59 (any_of HT_.out (by kernel_rfl)) ?_
            refine uq_ (i := 29) (N := some 76) bq_60 (any_of HT_.out (by kernel_rfl)) ?_
            refine yq_ (i := 30) (N := some 77) bq_61 (any_of HT_.out (by kernel_rfl)) ?_
            refine done_ (done_of HT_.out (by kernel_rfl)) ?_
            try go_wp2
            go_meet
            case rel => exact ⟨_, (true), tq_8, H', ⟨by have := HJ2.out; have := HK2.out; first | omega | exact Nat.le_refl _⟩, ⟨by (with_reducible repeat (first | refine blk_drewN ?_ _ | refine blk_drew ?_ | refine blk_alloc ?_ _)); exact BK256.out⟩, ⟨by (with_reducible repeat (first | refine blk_drewN ?_ _ | refine blk_drew ?_ | refine blk_alloc ?_ _)); exact BK257.out⟩, ⟨by (with_reducible repeat (first | refine blk_drewN ?_ _ | refine blk_drew ?_ | refine blk_alloc ?_ _)); exact BK264.out⟩, ⟨by repeat (first | (with_reducible first | exact HB.out | apply below_alloc | apply pw_below_drewN | apply below_drew1 | refine below_set ?_ GE256.out | refine below_set ?_ GE257.out | refine below_set ?_ GE264.out) | exact HB.out)⟩⟩
           ·rw [if_neg c38] at H
            have c38b0 : (((rd_T75 l1_0 x36_2).f0).toList == ([47] : List UInt8)) = false := beq_eq_false_iff_ne.mpr c38
            have c38b1 : (((rd_T75 l1_0 x36_2).f0).toList != ([47] : List UInt8)) = true := bne_iff_ne.mpr c38
            replace H := Option.bind_eq_some_iff.mp H
            obtain ⟨t269, A400, H⟩ := H
            replace H : ((impl_isDirIn.f l1_0 t269).bind fun t270 => (if t270 = true then (if x36_2 > 0 then (if 0 ≤ (wrap64 (x36_2 - 1)) then (if (wrap64 (x36_2 - 1)) < (l1_0.length : Int) then (impl_ViewOk.j2 k2 l1_0 (l1_0.length : Int) x36_2 (!(Op.bytesLess (((rd_T75 l1_0 (wrap64 (x36_2 - 1))).f0).toList) (((rd_T75 l1_0 x36_2).f0).toList))) l1_0 ((rd_T75 l1_0 x36_2).f0) ((rd_T75 l1_0 x36_2).f1) ((rd_T75 l1_0 x36_2).f2)) else (none)) else (none)) else (impl_ViewOk.j2 k2 l1_0 (l1_0.length : Int) x36_2 false l1_0 ((rd_T75 l1_0 x36_2).f0) ((rd_T75 l1_0 x36_2).f1) ((rd_T75 l1_0 x36_2).f2))) else (impl_ViewOk.j2 k2 l1_0 (l1_0.length : Int) x36_2 true l1_0 ((rd_T75 l1_0 x36_2).f0) ((rd_T75 l1_0 x36_2).f1) ((rd_T75 l1_0 x36_2).f2)))) = some r := H
            have A40 := Aside0.mk A400
            clear A400
            replace H := Option.bind_eq_some_iff.mp H
            obtain ⟨t270, A410, H⟩ := H
            replace H : (if t270 = true then (if x36_2 > 0 then (if 0 ≤ (wrap64 (x36_2 - 1)) then (if (wrap64 (x36_2 - 1)) < (l1_0.length : Int) then (impl_ViewOk.j2 k2 l1_0 (l1_0.length : Int) x36_2 (!(Op.bytesLess (((rd_T75 l1_0 (wrap64 (x36_2 - 1))).f0).toList) (((rd_T75 l1_0 x36_2).f0).toList))) l1_0 ((rd_T75 l1_0 x36_2).f0) ((rd_T75 l1_0 x36_2).f1) ((rd_T75 l1_0 x36_2).f2)) else (none)) else (none)) else (impl_ViewOk.j2 k2 l1_0 (l1_0.length : Int) x36_2 false l1_0 ((rd_T75 l1_0 x36_2).f0) ((rd_T75 l1_0 x36_2).f1) ((rd_T75 l1_0 x36_2).f2))) else (impl_ViewOk.j2 k2 l1_0 (l1_0.length : Int) x36_2 true l1_0 ((rd_T75 l1_0 x36_2).f0) ((rd_T75 l1_0 x36_2).f1) ((rd_T75 l1_0 x36_2).f2))) = some r := H
            have A41 := Aside0.mk A410
            clear A410
            by_cases c42 : t270 = true
            ·subst c42
             have H1 : (if x36_2 > 0 then (if 0 ≤ (wrap64 (x36_2 - 1)) then (if (wrap64 (x36_2 - 1)) < (l1_0.length : Int) then (impl_ViewOk.j2 k2 l1_0 (l1_0.length : Int) x36_2 (!(Op.bytesLess (((rd_T75 l1_0 (wrap64 (x36_2 - 1))).f0).toList) (((rd_T75 l1_0 x36_2).f0).toList))) l1_0 ((rd_T75 l1_0 x36_2).f0) ((rd_T75 l1_0 x36_2).f1) ((rd_T75 l1_0 x36_2).f2)) else (none)) else (none)) else (impl_ViewOk.j2 k2 l1_0 (l1_0.length : Int) x36_2 false l1_0 ((rd_T75 l1_0 x36_2).f0) ((rd_T75 l1_0 x36_2).f1) ((rd_T75 l1_0 x36_2).f2))) = some r := by rw [if_pos rfl] at H; exact H
             clear H
             have H := H1
             clear H1
             by_cases c43 : x36_2 > 0
             ·rw [if_pos c43] at H
              have c43b0 : decide (0 < x36_2) = true := decide_eq_true c43
              clear c43
              obtain ⟨ji44, hji44⟩ : ∃ j_ : Int, (wrap64 (x36_2 - 1)) = j_ := ⟨_, rfl⟩
              replace H : (if 0 ≤ (ji44) then (if (ji44) < (l1_0.length : Int) then (impl_ViewOk.j2 k2 l1_0 (l1_0.length : Int) x36_2 (!(Op.bytesLess (((rd_T75 l1_0 (ji44)).f0).toList) (((rd_T75 l1_0 x36_2).f0).toList))) l1_0 ((rd_T75 l1_0 x36_2).f0) ((rd_T75 l1_0 x36_2).f1) ((rd_T75 l1_0 x36_2).f2)) else (none)) else (none)) = some r := by first | (rw [hji44] at H; exact H) | (simp only [hji44] at H ⊢; exact H)
              (try rw [hji44] at A40)
              (try rw [hji44] at A41)
              have hji44w : (IntKind.i64.wrap (x36_2 - 1)) = ji44 := (i64_w _).trans hji44
              by_cases c45 : 0 ≤ (ji44)
              ·rw [if_pos c45] at H
               have c45b0 : decide (0 ≤ (ji44)) = true := decide_eq_true c45
               clear c45
               by_cases c46 : (ji44) < (l1_0.length : Int)
               ·rw [if_pos c46] at H
                have c46b0 : decide ((ji44) < (l1_0.length : Int)) = true := decide_eq_true c46
                clear c46
                have H' := Aside0.mk H
                clear H
                try go_wp2
                have n0_ := Aside0.mk (Kd.R_drew HO268.out)
                have n1_ := Aside0.mk (blk_drew BK256.out)
                have n2_ := Aside0.mk (blk_drew BK257.out)
                have n3_ := Aside0.mk (blk_drew BK264.out)
                have n4_ := Aside0.mk (below_drew1 HB.out)
                clear HO268
                clear BK256
                clear BK257
                clear BK264
                clear HB
                have HO268 := n0_
                have BK256 := n1_
                have BK257 := n2_
                have BK264 := n3_
                have HB := n4_
                clear n0_ n1_ n2_ n3_ n4_
                have p271 : 0 ≤ ((ji44) : Int) := of_decide_eq_true tq_6
                have q271 : (ji44) < (l1_0.length : Int) := of_decide_eq_true tq_6
                obtain ⟨ad271, e271, hx271_0, hx271_1, hx271_2⟩ := at_T75 HR1_0.out (ji44) p271 q271
                have hw271_2 := hx271_2
                have hw271_1 := hx271_1
                have hw271_0 := hx271_0
                obtain rfl : ad263 = ad271 := (by injection e271)
                replace hx271_0 := (HB.out.cell (World.block_lt_of_cell? w _ hx271_0)).trans hx271_0
                replace hx271_1 := (HB.out.cell (World.block_lt_of_cell? w _ hx271_1)).trans hx271_1
                replace hx271_2 := (HB.out.cell (World.block_lt_of_cell? w _ hx271_2)).trans hx271_2
                replace p271 := eq_true p271
                replace q271 := eq_true q271
                refine start_ (n := 31) (S := fun w' => w'.cell? ⟨gb264, 0, none⟩ = some (.string ((rd_T75 l1_0 x36_2).f0)) ∧ w'.cell? ⟨gb264, 1, none⟩ = some (.bool ((rd_T75 l1_0 x36_2).f1)) ∧ w'.cell? ⟨gb264, 2, none⟩ = some (.string ((rd_T75 l1_0 x36_2).f2)) ∧ w'.cell? ⟨gb257, 0, none⟩ = some (.slice (some ad263) l1_0.length c1_0) ∧ w'.cell? (ad263.add (((ji44)).toNat * 3)) = some (.string ((rd_T75 l1_0 (ji44)).f0)) ∧ w'.cell? ⟨(ad263.add (((ji44)).toNat * 3)).block, (ad263.add (((ji44)).toNat * 3)).off + 1, none⟩ = some (.bool ((rd_T75 l1_0 (ji44)).f1)) ∧ w'.cell? ⟨(ad263.add (((ji44)).toNat * 3)).block, (ad263.add (((ji44)).toNat * 3)).off + 2, none⟩ = some (.string ((rd_T75 l1_0 (ji44)).f2))) (ds := []) bq_35 (by kernel_rfl) rfl rfl ⟨(blk_cell BK264.out 0).trans rfl, (blk_cell BK264.out 1).trans rfl, (blk_cell BK264.out 2).trans rfl, (blk_cell BK257.out 0).trans rfl, ((HB.out.cell (World.block_lt_of_cell? w _ hw271_0)).trans hw271_0), ((HB.out.cell (World.block_lt_of_cell? w _ hw271_1)).trans hw271_1), ((HB.out.cell (World.block_lt_of_cell? w _ hw271_2)).trans hw271_2)⟩ (fun hHeld => ?_); refine with_tabW impl_ViewOk.tab7 impl_ViewOk.bits7 (fun HT_ HW_ => ?_)
                generalize w36.drew = w47 at HO268 BK256 BK257 BK264 HB hx271_0 hx271_1 hx271_2 hHeld ⊢
                refine yq_ (i := 0) (N := some 47) bq_36 (any_of HT_.out (by kernel_rfl)) ?_
                refine yq_ (i := 1) (N := some 48) bq_37 (any_of HT_.out (by kernel_rfl)) ?_
                refine yq_ (i := 2) (N := some 49) bq_38 (any_of HT_.out (by kernel_rfl)) ?_
                refine yq_ (i := 3) (N := some 50) bq_39 (any_of HT_.out (by kernel_rfl)) ?_
                refine take_ (i := 4) (N := some 51) (v := ?_) (a' := ?_) bq_40 rfl rfl (take_ofW HT_.out HW_.out (by kernel_rfl)) (fun _ _ _ h => h) (Or.inl ⟨by rfl, ?_⟩) hHeld ?_ ?_
                rotate_left
                ·rintro w' ⟨s0, s1, s2, s3, s4, s5, s6⟩
                 go_simp
                 with_reducible rfl
                rotate_left
                ·simp only [Act.put, List.setIfInBounds_toArray, List.set_cons_zero, List.set_cons_succ, i64_w, i32_w]
                 rfl
                refine yq_ (i := 5) (N := some 52) bq_41 (any_of HT_.out (by kernel_rfl)) ?_
                refine yq_ (i := 6) (N := some 53) bq_42 (any_of HT_.out (by kernel_rfl)) ?_
                refine yq_ (i := 7) (N := some 54) bq_43 (any_of HT_.out (by kernel_rfl)) ?_
                refine yq_ (i := 9) (N := some 56) bq_100 (any_of HT_.out (by kernel_rfl)) ?_
                refine take_ (i := 8) (N := some 55) (v := ?_) (a' := ?_) bq_44 rfl rfl (take_ofW HT_.out HW_.out (by kernel_rfl)) (fun _ _ _ h => h) (Or.inl ⟨by rfl, ?_⟩) hHeld ?_ ?_
                rotate_left
                ·rintro w' ⟨s0, s1, s2, s3, s4, s5, s6⟩
                 go_simp
                 with_reducible rfl
                rotate_left
                ·simp only [Act.put, List.setIfInBounds_toArray, List.set_cons_zero, List.set_cons_succ, i64_w, i32_w]
                 rfl
                refine take_ (i := 10) (N := some 57) (v := ?_) (a' := ?_) bq_45 rfl rfl (take_ofW HT_.out HW_.out (by kernel_rfl)) (fun _ _ _ h => h) (Or.inl ⟨by rfl, ?_⟩) hHeld ?_ ?_
                rotate_left
                ·rintro w' ⟨s0, s1, s2, s3, s4, s5, s6⟩
                 go_simp
                 with_reducible rfl
                rotate_left
                ·simp only [Act.put, List.setIfInBounds_toArray, List.set_cons_zero, List.set_cons_succ, i64_w, i32_w]
                 rfl
                refine one_ (i := 11) (N := some 58) bq_46 rfl rfl (one_of HT_.out (by kernel_rfl)) (by decide) (fun K hK => ?_)
                refine goes_ Tryd.func23 (by kernel_rfl) rfl #[.string ((rd_T75 l1_0 x36_2).f0)] (by rfl) rfl rfl tq_1 ?_
                with_reducible refine (impl_ParentOf.calls k2 ((rd_T75 l1_0 x36_2).f0) t269 _ ?side1 A40.out).mono ?_
                (case side1 => exact DoorOk.below HD.out tq_5)
                rintro e w48 ⟨rfl, hb⟩
                refine ⟨_, rfl, ?_⟩
                have n0_ := Aside0.mk (Kd.R_below tq_41 hb)
                have n1_ := Aside0.mk (blk_below (g := gb256) (o := .cells #[.int .i64 a0_0, .int .i64 a0_1, .int .i64 a0_2, .int .i64 a0_3] 58 (0, 0)) tq_10 hb)
                have n2_ := Aside0.mk (blk_below (g := gb257) (o := .cells #[.slice (some ad263) l1_0.length c1_0] 37 (0, 0)) tq_13 hb)
                have n3_ := Aside0.mk (blk_below (g := gb264) (o := .cells #[.string ((rd_T75 l1_0 x36_2).f0), .bool ((rd_T75 l1_0 x36_2).f1), .string ((rd_T75 l1_0 x36_2).f2)] 75 (0, 0)) tq_28 hb)
                have n4_ := Aside0.mk (below_step tq_5 hb)
                clear HO268
                clear BK256
                clear BK257
                clear BK264
                clear HB
                have HO268 := n0_
                have BK256 := n1_
                have BK257 := n2_
                have BK264 := n3_
                have HB := n4_
                clear n0_ n1_ n2_ n3_ n4_
                (try clear hb)
                (try clear hb2)
                (try clear hk)
                (try clear hi)
                refine hK.out _ _ ⟨(blk_cell BK264.out 0).trans rfl, (blk_cell BK264.out 1).trans rfl, (blk_cell BK264.out 2).trans rfl, (blk_cell BK257.out 0).trans rfl, ((HB.out.cell (World.block_lt_of_cell? w _ hw271_0)).trans hw271_0), ((HB.out.cell (World.block_lt_of_cell? w _ hw271_1)).trans hw271_1), ((HB.out.cell (World.block_lt_of_cell? w _ hw271_2)).trans hw271_2)⟩ (fun hHeld => ?_)
                clear hK K
                refine norm_ (a' := ?_) ?_ ?_
                rotate_left
                ·show Act.put _ (some 58) _ = _
                 simp only [Act.put, List.setIfInBounds_toArray, List.set_cons_zero, List.set_cons_succ, i64_w, i32_w]
                 rfl
                refine one_ (i := 12) (N := some 59) bq_47 rfl rfl (one_of HT_.out (by kernel_rfl)) (by decide) (fun K hK => ?_)
                refine goes_ Tryd.func79 (by kernel_rfl) rfl #[.agg #[.slice (some ad263) l1_0.length c1_0], .string t269] (by rfl) rfl rfl tq_1 ?_
                with_reducible refine (impl_isDirIn.calls _ _ l1_0 t269 true _ ?side1 ?side2 A41.out).mono ?_
                (case side1 => exact tq_4)
                (case side2 => exact HC1_0.out)
                rintro e w49 ⟨rfl, hb⟩
                refine ⟨_, rfl, ?_⟩
                have n0_ := Aside0.mk (Kd.R_below tq_41 hb)
                have n1_ := Aside0.mk (blk_below (g := gb256) (o := .cells #[.int .i64 a0_0, .int .i64 a0_1, .int .i64 a0_2, .int .i64 a0_3] 58 (0, 0)) tq_10 hb)
                have n2_ := Aside0.mk (blk_below (g := gb257) (o := .cells #[.slice (some ad263) l1_0.length c1_0] 37 (0, 0)) tq_13 hb)
                have n3_ := Aside0.mk (blk_below (g := gb264) (o := .cells #[.string ((rd_T75 l1_0 x36_2).f0), .bool ((rd_T75 l1_0 x36_2).f1), .string ((rd_T75 l1_0 x36_2).f2)] 75 (0, 0)) tq_28 hb)
                have n4_ := Aside0.mk (below_step tq_5 hb)
                clear HO268
                clear BK256
                clear BK257
                clear BK264
                clear HB
                have HO268 := n0_
                have BK256 := n1_
                have BK257 := n2_
                have BK264 := n3_
                have HB := n4_
                clear n0_ n1_ n2_ n3_ n4_
                (try clear hb)
                (try clear hb2)
                (try clear hk)
                (try clear hi)
                refine hK.out _ _ ⟨(blk_cell BK264.out 0).trans rfl, (blk_cell BK264.out 1).trans rfl, (blk_cell BK264.out 2).trans rfl, (blk_cell BK257.out 0).trans rfl, ((HB.out.cell (World.block_lt_of_cell? w _ hw271_0)).trans hw271_0), ((HB.out.cell (World.block_lt_of_cell? w _ hw271_1)).trans hw271_1), ((HB.out.cell (World.block_lt_of_cell? w _ hw271_2)).trans hw271_2)⟩ (fun hHeld => ?_)
                clear hK K
                refine norm_ (a' := ?_) ?_ ?_
                rotate_left
                ·show Act.put _ (some 59) _ = _
                 simp only [Act.put, List.setIfInBounds_toArray, List.set_cons_zero, List.set_cons_succ, i64_w, i32_w]
                 rfl
                refine yq_ (i := 13) (N := some 60) bq_48 (any_of HT_.out (by kernel_rfl)) ?_
                refine yq_ (i := 14) (N := some 61) bq_49 (any_of HT_.out (by kernel_rfl)) ?_
                refine yq_ (i := 15) (N := some 62) bq_50 (any_of HT_.out (by kernel_rfl)) ?_
                refine yq_ (i := 16) (N := some 63) bq_51 (any_of HT_.out (by kernel_rfl)) ?_
                refine yq_ (i := 17) (N := some 64) bq_52 (any_of HT_.out (by kernel_rfl)) ?_
                refine yq_ (i := 18) (N := some 65) bq_53 (any_of HT_.out (by kernel_rfl)) ?_
                refine yq_ (i := 19) (N := some 66) bq_54 (any_of HT_.out (by kernel_rfl)) ?_
                refine yq_ (i := 21) (N := some 68) #[true, true, true, true, true, true, true, true, true, true, true, true, true, true, true, true, true, true, true, true, false, true, false, false, false, false, false, false, false, false, false] (any_of HT_.out (by kernel_rfl)) ?_
                refine yq_ (i := 23) (N := some 70) #[true, true, true, true, true, true, true, true, true, true, true, true, true, true, true, true, true, true, true, true, false, true, false, true, false, false, false, false, false, false, false] (any_of HT_.out (by kernel_rfl)) ?_
                refine yq_ (i := 24) (N := some 71) #[true, true, true, true, true, true, true, true, true, true, true, true, true, true, true, true, true, true, true, true, false, true, false, true, true, false, false, false, false, false, false] (any_of HT_.out (by kernel_rfl)) ?_
                refine take_ (i := 20) (N := some 67) (v := ?_) (a' := ?_) #[true, true, true, true, true, true, true, true, true, true, true, true, true, true, true, true, true, true, true, true, true, true, false, true, true, false, false, false, false, false, false] rfl rfl (take_ofW HT_.out HW_.out (by kernel_rfl)) (fun _ _ _ h => h) (Or.inl ⟨by rfl, ?_⟩) hHeld ?_ ?_
                rotate_left
                ·rintro w' ⟨s0, s1, s2, s3, s4, s5, s6⟩
                 go_simp
                 with_reducible rfl
                rotate_left
                ·simp only [Act.put, List.setIfInBounds_toArray, List.set_cons_zero, List.set_cons_succ, i64_w, i32_w]
                 rfl
                refine take_ (i := 22) (N := some 69) (v := ?_) (a' := ?_) bq_55 rfl rfl (take_ofW HT_.out HW_.out (by kernel_rfl)) (fun _ _ _ h => h) (Or.inl ⟨by rfl, ?_⟩) hHeld ?_ ?_
                rotate_left
                ·rintro w' ⟨s0, s1, s2, s3, s4, s5, s6⟩
                 go_simp
                 with_reducible rfl
                rotate_left
                ·simp only [Act.put, List.setIfInBounds_toArray, List.set_cons_zero, List.set_cons_succ, i64_w, i32_w]
                 rfl
                refine yq_ (i := 25) (N := some 72) bq_56 (any_of HT_.out (by kernel_rfl)) ?_
                refine yq_ (i := 26) (N := some 73) bq_57 (any_of HT_.out (by kernel_rfl)) ?_
                refine take_ (i := 27) (N := some 74) (v := ?_) (a' := ?_) bq_58 rfl rfl (take_ofW HT_.out HW_.out (by kernel_rfl)) (fun _ _ _ h => h) (Or.inl ⟨by rfl, ?_⟩) hHeld ?_ ?_
                rotate_left
                ·rintro w' ⟨s0, s1, s2, s3, s4, s5, s6⟩
                 go_simp
                 with_reducible rfl
                rotate_left
                ·simp only [Act.put, List.setIfInBounds_toArray, List.set_cons_zero, List.set_cons_succ, i64_w, i32_w]
                 rfl
                refine yq_ (i := 28) (N := some 75) bq_59 (any_of HT_.out (by kernel_rfl)) ?_
                refine yq_ (i := 29) (N := some 76) bq_60 (any_of HT_.out (by kernel_rfl)) ?_
                refine yq_ (i := 30) (N := some 77) bq_61 (any_of HT_.out (by kernel_rfl)) ?_
                refine done_ (done_of HT_.out (by kernel_rfl)) ?_
                try go_wp2
                go_meet
                case rel => exact ⟨_, (!(Op.bytesLess (((rd_T75 l1_0 (ji44)).f0).toList) (((rd_T75 l1_0 x36_2).f0).toList))), (by first | rfl | (simp; done) | (simp only [← hji44] <;> (first | rfl | exact bl_leq _ _ | exact congrArg Value.bool (bl_leq _ _) | (simp; done) | (simp only [Value.bool.injEq]; exact bl_leq _ _) | simp)) | (simp [*]; done)), H', ⟨by have := HJ2.out; have := HK2.out; first | omega | exact Nat.le_refl _⟩, ⟨by (with_reducible repeat (first | refine blk_drewN ?_ _ | refine blk_drew ?_ | refine blk_alloc ?_ _)); exact BK256.out⟩, ⟨by (with_reducible repeat (first | refine blk_drewN ?_ _ | refine blk_drew ?_ | refine blk_alloc ?_ _)); exact BK257.out⟩, ⟨by (with_reducible repeat (first | refine blk_drewN ?_ _ | refine blk_drew ?_ | refine blk_alloc ?_ _)); exact BK264.out⟩, ⟨by repeat (first | (with_reducible first | exact HB.out | apply below_alloc | apply pw_below_drewN | apply below_drew1 | refine below_set ?_ GE256.out | refine below_set ?_ GE257.out | refine below_set ?_ GE264.out) | exact HB.out)⟩⟩
               ·rw [if_neg c46] at H
                exact absurd H (by simp)
              ·rw [if_neg c45] at H
               exact absurd H (by simp)
             ·rw [if_neg c43] at H
              have c43b0 : decide (0 < x36_2) = false := decide_eq_false c43
              clear c43
              have H' := Aside0.mk H
              clear H
              try go_wp2
              have n0_ := Aside0.mk (Kd.R_drew HO268.out)
              have n1_ := Aside0.mk (blk_drew BK256.out)
              have n2_ := Aside0.mk (blk_drew BK257.out)
              have n3_ := Aside0.mk (blk_drew BK264.out)
              have n4_ := Aside0.mk (below_drew1 HB.out)
              clear HO268
              clear BK256
              clear BK257
              clear BK264
              clear HB
              have HO268 := n0_
              have BK256 := n1_
              have BK257 := n2_
              have BK264 := n3_
              have HB := n4_
              clear n0_ n1_ n2_ n3_ n4_
              refine start_ (n := 31) (S := fun w' => w'.cell? ⟨gb264, 0, none⟩ = some (.string ((rd_T75 l1_0 x36_2).f0)) ∧ w'.cell? ⟨gb264, 1, none⟩ = some (.bool ((rd_T75 l1_0 x36_2).f1)) ∧ w'.cell? ⟨gb264, 2, none⟩ = some (.string ((rd_T75 l1_0 x36_2).f2)) ∧ w'.cell? ⟨gb257, 0, none⟩ = some (.slice (some ad263) l1_0.length c1_0)) (ds := []) bq_35 (by kernel_rfl) rfl rfl ⟨(blk_cell BK264.out 0).trans rfl, (blk_cell BK264.out 1).trans rfl, (blk_cell BK264.out 2).trans rfl, (blk_cell BK257.out 0).trans rfl⟩ (fun hHeld => ?_); refine with_tabW impl_ViewOk.tab7 impl_ViewOk.bits7 (fun HT_ HW_ => ?_)
              generalize w36.drew = w50 at HO268 BK256 BK257 BK264 HB hHeld ⊢
              refine yq_ (i := 0) (N := some 47) bq_36 (any_of HT_.out (by kernel_rfl)) ?_
              refine yq_ (i := 1) (N := some 48) bq_37 (any_of HT_.out (by kernel_rfl)) ?_
              refine yq_ (i := 2) (N := some 49) bq_38 (any_of HT_.out (by kernel_rfl)) ?_
              refine yq_ (i := 3) (N := some 50) bq_39 (any_of HT_.out (by kernel_rfl)) ?_
              refine take_ (i := 4) (N := some 51) (v := ?_) (a' := ?_) bq_40 rfl rfl (take_ofW HT_.out HW_.out (by kernel_rfl)) (fun _ _ _ h => h) (Or.inl ⟨by rfl, ?_⟩) hHeld ?_ ?_
              rotate_left
              ·rintro w' ⟨s0, s1, s2, s3⟩
               go_simp
               with_reducible rfl
              rotate_left
              ·simp only [Act.put, List.setIfInBounds_toArray, List.set_cons_zero, List.set_cons_succ, i64_w, i32_w]
               rfl
              refine yq_ (i := 5) (N := some 52) bq_41 (any_of HT_.out (by kernel_rfl)) ?_
              refine yq_ (i := 6) (N := some 53) bq_42 (any_of HT_.out (by kernel_rfl)) ?_
              refine yq_ (i := 7) (N := some 54) bq_43 (any_of HT_.out (by kernel_rfl)) ?_
              refine yq_ (i := 9) (N := some 56) bq_100 (any_of HT_.out (by kernel_rfl)) ?_
              refine take_ (i := 8) (N := some 55) (v := ?_) (a' := ?_) bq_44 rfl rfl (take_ofW HT_.out HW_.out (by kernel_rfl)) (fun _ _ _ h => h) (Or.inl ⟨by rfl, ?_⟩) hHeld ?_ ?_
              rotate_left
              ·rintro w' ⟨s0, s1, s2, s3⟩
               go_simp
               with_reducible rfl
              rotate_left
              ·simp only [Act.put, List.setIfInBounds_toArray, List.set_cons_zero, List.set_cons_succ, i64_w, i32_w]
               rfl
              refine take_ (i := 10) (N := some 57) (v := ?_) (a' := ?_) bq_45 rfl rfl (take_ofW HT_.out HW_.out (by kernel_rfl)) (fun _ _ _ h => h) (Or.inl ⟨by rfl, ?_⟩) hHeld ?_ ?_
              rotate_left
              ·rintro w' ⟨s0, s1, s2, s3⟩
               go_simp
               with_reducible rfl
              rotate_left
              ·simp only [Act.put, List.setIfInBounds_toArray, List.set_cons_zero, List.set_cons_succ, i64_w, i32_w]
               rfl
              refine one_ (i := 11) (N := some 58) bq_46 rfl rfl (one_of HT_.out (by kernel_rfl)) (by decide) (fun K hK => ?_)
              refine goes_ Tryd.func23 (by kernel_rfl) rfl #[.string ((rd_T75 l1_0 x36_2).f0)] (by rfl) rfl rfl tq_1 ?_
              with_reducible refine (impl_ParentOf.calls k2 ((rd_T75 l1_0 x36_2).f0) t269 _ ?side1 A40.out).mono ?_
              (case side1 => exact DoorOk.below HD.out tq_5)
              rintro e w51 ⟨rfl, hb⟩
              refine ⟨_, rfl, ?_⟩
              have n0_ := Aside0.mk (Kd.R_below tq_41 hb)
              have n1_ := Aside0.mk (blk_below (g := gb256) (o := .cells #[.int .i64 a0_0, .int .i64 a0_1, .int .i64 a0_2, .int .i64 a0_3] 58 (0, 0)) tq_10 hb)
              have n2_ := Aside0.mk (blk_below (g := gb257) (o := .cells #[.slice (some ad263) l1_0.length c1_0] 37 (0, 0)) tq_13 hb)
              have n3_ := Aside0.mk (blk_below (g := gb264) (o := .cells #[.string ((rd_T75 l1_0 x36_2).f0), .bool ((rd_T75 l1_0 x36_2).f1), .string ((rd_T75 l1_0 x36_2).f2)] 75 (0, 0)) tq_28 hb)
              have n4_ := Aside0.mk (below_step tq_5 hb)
              clear HO268
              clear BK256
              clear BK257
              clear BK264
              clear HB
              have HO268 := n0_
              have BK256 := n1_
              have BK257 := n2_
              have BK264 := n3_
              have HB := n4_
              clear n0_ n1_ n2_ n3_ n4_
              (try clear hb)
              (try clear hb2)
              (try clear hk)
              (try clear hi)
              refine hK.out _ _ ⟨(blk_cell BK264.out 0).trans rfl, (blk_cell BK264.out 1).trans rfl, (blk_cell BK264.out 2).trans rfl, (blk_cell BK257.out 0).trans rfl⟩ (fun hHeld => ?_)
              clear hK K
              refine norm_ (a' := ?_) ?_ ?_
              rotate_left
              ·show Act.put _ (some 58) _ = _
               simp only [Act.put, List.setIfInBounds_toArray, List.set_cons_zero, List.set_cons_succ, i64_w, i32_w]
               rfl
              refine one_ (i := 12) (N := some 59) bq_47 rfl rfl (one_of HT_.out (by kernel_rfl)) (by decide) (fun K hK => ?_)
              refine goes_ Tryd.func79 (by kernel_rfl) rfl #[.agg #[.slice (some ad263) l1_0.length c1_0], .string t269] (by rfl) rfl rfl tq_1 ?_
              with_reducible refine (impl_isDirIn.calls _ _ l1_0 t269 true _ ?side1 ?side2 A41.out).mono ?_
              (case side1 => exact tq_4)
              (case side2 => exact HC1_0.out)
              rintro e w52 ⟨rfl, hb⟩
              refine ⟨_, rfl, ?_⟩
              have n0_ := Aside0.mk (Kd.R_below tq_41 hb)
              have n1_ := Aside0.mk (blk_below (g := gb256) (o := .cells #[.int .i64 a0_0, .int .i64 a0_1, .int .i64 a0_2, .int .i64 a0_3] 58 (0, 0)) tq_10 hb)
              have n2_ := Aside0.mk (blk_below (g := gb257) (o := .cells #[.slice (some ad263) l1_0.length c1_0] 37 (0, 0)) tq_13 hb)
              have n3_ := Aside0.mk (blk_below (g := gb264) (o := .cells #[.string ((rd_T75 l1_0 x36_2).f0), .bool ((rd_T75 l1_0 x36_2).f1), .string ((rd_T75 l1_0 x36_2).f2)] 75 (0, 0)) tq_28 hb)
              have n4_ := Aside0.mk (below_step tq_5 hb)
              clear HO268
              clear BK256
              clear BK257
              clear BK264
              clear HB
              have HO268 := n0_
              have BK256 := n1_
              have BK257 := n2_
              have BK264 := n3_
              have HB := n4_
              clear n0_ n1_ n2_ n3_ n4_
              (try clear hb)
              (try clear hb2)
              (try clear hk)
              (try clear hi)
              refine hK.out _ _ ⟨(blk_cell BK264.out 0).trans rfl, (blk_cell BK264.out 1).trans rfl, (blk_cell BK264.out 2).trans rfl, (blk_cell BK257.out 0).trans rfl⟩ (fun hHeld => ?_)
              clear hK K
              refine norm_ (a' := ?_) ?_ ?_
              rotate_left
              ·show Act.put _ (some 59) _ = _
               simp only [Act.put, List.setIfInBounds_toArray, List.set_cons_zero, List.set_cons_succ, i64_w, i32_w]
               rfl
              refine yq_ (i := 13) (N := some 60) bq_48 (any_of HT_.out (by kernel_rfl)) ?_
              refine yq_ (i := 14) (N := some 61) bq_49 (any_of HT_.out (by kernel_rfl)) ?_
              refine yq_ (i := 15) (N := some 62) bq_50 (any_of HT_.out (by kernel_rfl)) ?_
              refine yq_ (i := 16) (N := some 63) bq_51 (any_of HT_.out (by kernel_rfl)) ?_
              refine yq_ (i := 17) (N := some 64) bq_52 (any_of HT_.out (by kernel_rfl)) ?_
              refine yq_ (i := 18) (N := some 65) bq_53 (any_of HT_.out (by kernel_rfl)) ?_
              refine uq_ (i := 19) (N := some 66) bq_54 (any_of HT_.out (by kernel_rfl)) ?_
              refine uq_ (i := 20) (N := some 67) bq_93 (any_of HT_.out (by kernel_rfl)) ?_
              refine uq_ (i := 21) (N := some 68) bq_94 (any_of HT_.out (by kernel_rfl)) ?_
              refine uq_ (i := 22) (N := some 69) bq_95 (any_of HT_.out (by kernel_rfl)) ?_
              refine uq_ (i := 23) (N := some 70) bq_96 (any_of HT_.out (by kernel_rfl)) ?_
              refine uq_ (i := 24) (N := some 71) bq_55 (any_of HT_.out (by kernel_rfl)) ?_
              refine uq_ (i := 25) (N := some 72) bq_56 (any_of HT_.out (by kernel_rfl)) ?_
              refine uq_ (i := 26) (N := some 73) bq_57 (any_of HT_.out (by kernel_rfl)) ?_
              refine uq_ (i := 27) (N := some 74) bq_58 (any_of HT_.out (by kernel_rfl)) ?_
              refine uq_ (i := 28) (N := some 75) bq_59 (any_of HT_.out (by kernel_rfl)) ?_
              refine yq_ (i := 29) (N := some 76) bq_60 (any_of HT_.out (by kernel_rfl)) ?_
              refine yq_ (i := 30) (N := some 77) bq_61 (any_of HT_.out (by kernel_rfl)) ?_
              refine done_ (done_of HT_.out (by kernel_rfl)) ?_
              try go_wp2
              go_meet
              case rel => exact ⟨_, (false), tq_8, H', ⟨by have := HJ2.out; have := HK2.out; first | omega | exact Nat.le_refl _⟩, ⟨by (with_reducible repeat (first | refine blk_drewN ?_ _ | refine blk_drew ?_ | refine blk_alloc ?_ _)); exact BK256.out⟩, ⟨by (with_reducible repeat (first | refine blk_drewN ?_ _ | refine blk_drew ?_ | refine blk_alloc ?_ _)); exact BK257.out⟩, ⟨by (with_reducible repeat (first | refine blk_drewN ?_ _ | refine blk_drew ?_ | refine blk_alloc ?_ _)); exact BK264.out⟩, ⟨by repeat (first | (with_reducible first | exact HB.out | apply below_alloc | apply pw_below_drewN | apply below_drew1 | refine below_set ?_ GE256.out | refine below_set ?_ GE257.out | refine below_set ?_ GE264.out) | exact HB.out)⟩⟩
            ·replace c42 := Bool.eq_false_iff.mpr c42
             subst c42
             have H1 : (impl_ViewOk.j2 k2 l1_0 (l1_0.length : Int) x36_2 true l1_0 ((rd_T75 l1_0 x36_2).f0) ((rd_T75 l1_0 x36_2).f1) ((rd_T75 l1_0 x36_2).f2)) = some r := by rw [if_neg (show ¬ (false = true) by decide)] at H; exact H
             clear H
             have H := H1
             clear H1
             have H' := Aside0.mk H
             clear H
             try go_wp2
             have n0_ := Aside0.mk (Kd.R_drew HO268.out)
             have n1_ := Aside0.mk (blk_drew BK256.out)
             have n2_ := Aside0.mk (blk_drew BK257.out)
             have n3_ := Aside0.mk (blk_drew BK264.out)
             have n4_ := Aside0.mk (below_drew1 HB.out)
             clear HO268
             clear BK256
             clear BK257
             clear BK264
             clear HB
             have HO268 := n0_
             have BK256 := n1_
             have BK257 := n2_
             have BK264 := n3_
             have HB := n4_
             clear n0_ n1_ n2_ n3_ n4_
             refine start_ (n := 31) (S := fun w' => w'.cell? ⟨gb264, 0, none⟩ = some (.string ((rd_T75 l1_0 x36_2).f0)) ∧ w'.cell? ⟨gb264, 1, none⟩ = some (.bool ((rd_T75 l1_0 x36_2).f1)) ∧ w'.cell? ⟨gb264, 2, none⟩ = some (.string ((rd_T75 l1_0 x36_2).f2)) ∧ w'.cell? ⟨gb257, 0, none⟩ = some (.slice (some ad263) l1_0.length c1_0)) (ds := []) bq_35 (by kernel_rfl) rfl rfl ⟨(blk_cell BK264.out 0).trans rfl, (blk_cell BK264.out 1).trans rfl, (blk_cell BK264.out 2).trans rfl, (blk_cell BK257.out 0).trans rfl⟩ (fun hHeld => ?_); refine with_tabW impl_ViewOk.tab7 impl_ViewOk.bits7 (fun HT_ HW_ => ?_)
             generalize w36.drew = w53 at HO268 BK256 BK257 BK264 HB hHeld ⊢
             refine yq_ (i := 0) (N := some 47) bq_36 (any_of HT_.out (by kernel_rfl)) ?_
             refine yq_ (i := 1) (N := some 48) bq_37 (any_of HT_.out (by kernel_rfl)) ?_
             refine yq_ (i := 2) (N := some 49) bq_38 (any_of HT_.out (by kernel_rfl)) ?_
             refine yq_ (i := 3) (N := some 50) bq_39 (any_of HT_.out (by kernel_rfl)) ?_
             refine take_ (i := 4) (N := some 51) (v := ?_) (a' := ?_) bq_40 rfl rfl (take_ofW HT_.out HW_.out (by kernel_rfl)) (fun _ _ _ h => h) (Or.inl ⟨by rfl, ?_⟩) hHeld ?_ ?_
             rotate_left
             ·rintro w' ⟨s0, s1, s2, s3⟩
              go_simp
              with_reducible rfl
             rotate_left
             ·simp only [Act.put, List.setIfInBounds_toArray, List.set_cons_zero, List.set_cons_succ, i64_w, i32_w]
              rfl
             refine yq_ (i := 5) (N := some 52) bq_41 (any_of HT_.out (by kernel_rfl)) ?_
             refine yq_ (i := 6) (N := some 53) bq_42 (any_of HT_.out (by kernel_rfl)) ?_
             refine yq_ (i := 7) (N := some 54) bq_43 (any_of HT_.out (by kernel_rfl)) ?_
             refine yq_ (i := 9) (N := some 56) bq_100 (any_of HT_.out (by kernel_rfl)) ?_
             refine take_ (i := 8) (N := some 55) (v := ?_) (a' := ?_) bq_44 rfl rfl (take_ofW HT_.out HW_.out (by kernel_rfl)) (fun _ _ _ h => h) (Or.inl ⟨by rfl, ?_⟩) hHeld ?_ ?_
             rotate_left
             ·rintro w' ⟨s0, s1, s2, s3⟩
              go_simp
              with_reducible rfl
             rotate_left
             ·simp only [Act.put, List.setIfInBounds_toArray, List.set_cons_zero, List.set_cons_succ, i64_w, i32_w]
              rfl
             refine take_ (i := 10) (N := some 57) (v := ?_) (a' := ?_) bq_45 rfl rfl (take_ofW HT_.out HW_.out (by kernel_rfl)) (fun _ _ _ h => h) (Or.inl ⟨by rfl, ?_⟩) hHeld ?_ ?_
             rotate_left
             ·rintro w' ⟨s0, s1, s2, s3⟩
              go_simp
              with_reducible rfl
             rotate_left
             ·simp only [Act.put, List.setIfInBounds_toArray, List.set_cons_zero, List.set_cons_succ, i64_w, i32_w]
              rfl
             refine one_ (i := 11) (N := some 58) bq_46 rfl rfl (one_of HT_.out (by kernel_rfl)) (by decide) (fun K hK => ?_)
             refine goes_ Tryd.func23 (by kernel_rfl) rfl #[.string ((rd_T75 l1_0 x36_2).f0)] (by rfl) rfl rfl tq_1 ?_
             with_reducible refine (impl_ParentOf.calls k2 ((rd_T75 l1_0 x36_2).f0) t269 _ ?side1 A40.out).mono ?_
             (case side1 => exact DoorOk.below HD.out tq_5)
             rintro e w54 ⟨rfl, hb⟩
             refine ⟨_, rfl, ?_⟩
             have n0_ := Aside0.mk (Kd.R_below tq_41 hb)
             have n1_ := Aside0.mk (blk_below (g := gb256) (o := .cells #[.int .i64 a0_0, .int .i64 a0_1, .int .i64 a0_2, .int .i64 a0_3] 58 (0, 0)) tq_10 hb)
             have n2_ := Aside0.mk (blk_below (g := gb257) (o := .cells #[.slice (some ad263) l1_0.length c1_0] 37 (0, 0)) tq_13 hb)
             have n3_ := Aside0.mk (blk_below (g := gb264) (o := .cells #[.string ((rd_T75 l1_0 x36_2).f0), .bool ((rd_T75 l1_0 x36_2).f1), .string ((rd_T75 l1_0 x36_2).f2)] 75 (0, 0)) tq_28 hb)
             have n4_ := Aside0.mk (below_step tq_5 hb)
             clear HO268
             clear BK256
             clear BK257
             clear BK264
             clear HB
             have HO268 := n0_
             have BK256 := n1_
             have BK257 := n2_
             have BK264 := n3_
             have HB := n4_
             clear n0_ n1_ n2_ n3_ n4_
             (try clear hb)
             (try clear hb2)
             (try clear hk)
             (try clear hi)
             refine hK.out _ _ ⟨(blk_cell BK264.out 0).trans rfl, (blk_cell BK264.out 1).trans rfl, (blk_cell BK264.out 2).trans rfl, (blk_cell BK257.out 0).trans rfl⟩ (fun hHeld => ?_)
             clear hK K
             refine norm_ (a' := ?_) ?_ ?_
             rotate_left
             ·show Act.put _ (some 58) _ = _
              simp only [Act.put, List.setIfInBounds_toArray, List.set_cons_zero, List.set_cons_succ, i64_w, i32_w]
              rfl
             refine one_ (i := 12) (N := some 59) bq_47 rfl rfl (one_of HT_.out (by kernel_rfl)) (by decide) (fun K hK => ?_)
             refine goes_ Tryd.func79 (by kernel_rfl) rfl #[.agg #[.slice (some ad263) l1_0.length c1_0], .string t269] (by rfl) rfl rfl tq_1 ?_
             with_reducible refine (impl_isDirIn.calls _ _ l1_0 t269 false _ ?side1 ?side2 A41.out).mono ?_
             (case side1 => exact tq_4)
             (case side2 => exact HC1_0.out)
             rintro e w55 ⟨rfl, hb⟩
             refine ⟨_, rfl, ?_⟩
             have n0_ := Aside0.mk (Kd.R_below tq_41 hb)
             have n1_ := Aside0.mk (blk_below (g := gb256) (o := .cells #[.int .i64 a0_0, .int .i64 a0_1, .int .i64 a0_2, .int .i64 a0_3] 58 (0, 0)) tq_10 hb)
             have n2_ := Aside0.mk (blk_below (g := gb257) (o := .cells #[.slice (some ad263) l1_0.length c1_0] 37 (0, 0)) tq_13 hb)
             have n3_ := Aside0.mk (blk_below (g := gb264) (o := .cells #[.string ((rd_T75 l1_0 x36_2).f0), .bool ((rd_T75 l1_0 x36_2).f1), .string ((rd_T75 l1_0 x36_2).f2)] 75 (0, 0)) tq_28 hb)
             have n4_ := Aside0.mk (below_step tq_5 hb)
             clear HO268
             clear BK256
             clear BK257
             clear BK264
             clear HB
             have HO268 := n0_
             have BK256 := n1_
             have BK257 := n2_
             have BK264 := n3_
             have HB := n4_
             clear n0_ n1_ n2_ n3_ n4_
             (try clear hb)
             (try clear hb2)
             (try clear hk)
             (try clear hi)
             refine hK.out _ _ ⟨(blk_cell BK264.out 0).trans rfl, (blk_cell BK264.out 1).trans rfl, (blk_cell BK264.out 2).trans rfl, (blk_cell BK257.out 0).trans rfl⟩ (fun hHeld => ?_)
             clear hK K
             refine norm_ (a' := ?_) ?_ ?_
             rotate_left
             ·show Act.put _ (some 59) _ = _
              simp only [Act.put, List.setIfInBounds_toArray, List.set_cons_zero, List.set_cons_succ, i64_w, i32_w]
              rfl
             refine yq_ (i := 13) (N := some 60) bq_48 (any_of HT_.out (by kernel_rfl)) ?_
             refine yq_ (i := 14) (N := some 61) bq_49 (any_of HT_.out (by kernel_rfl)) ?_
             refine yq_ (i := 15) (N := some 62) bq_50 (any_of HT_.out (by kernel_rfl)) ?_
             refine uq_ (i := 16) (N := some 63) bq_51 (any_of HT_.out (by kernel_rfl)) ?_
             refine uq_ (i := 17) (N := some 64) bq_52 (any_of HT_.out (by kernel_rfl)) ?_
             refine uq_ (i := 18) (N := some 65) bq_53 (any_of HT_.out (by kernel_rfl)) ?_
             refine uq_ (i := 19) (N := some 66) bq_54 (any_of HT_.out (by kernel_rfl)) ?_
             refine uq_ (i := 20) (N := some 67) bq_93 (any_of HT_.out (by kernel_rfl)) ?_
             refine uq_ (i := 21) (N := some 68) bq_94 (any_of HT_.out (by kernel_rfl)) ?_
             refine uq_ (i := 22) (N := some 69) bq_95 (any_of HT_.out (by kernel_rfl)) ?_
             refine uq_ (i := 23) (N := some 70) bq_96 (any_of HT_.out (by kernel_rfl)) ?_
             refine uq_ (i := 24) (N := some 71) bq_55 (any_of HT_.out (by kernel_rfl)) ?_
             refine uq_ (i := 25) (N := some 72) bq_56 (any_of HT_.out (by kernel_rfl)) ?_
             refine uq_ (i := 26) (N := some 73) bq_57 (any_of HT_.out (by kernel_rfl)) ?_
             refine uq_ (i := 27) (N := some 74) bq_58 (any_of HT_.out (by kernel_rfl)) ?_
             refine uq_ (i := 28) (N := some 75) bq_59 (any_of HT_.out (by kernel_rfl)) ?_
             refine uq_ (i := 29) (N := some 76) bq_60 (any_of HT_.out (by kernel_rfl)) ?_
             refine yq_ (i := 30) (N := some 77) bq_61 (any_of HT_.out (by kernel_rfl)) ?_
             refine done_ (done_of HT_.out (by kernel_rfl)) ?_
             try go_wp2
             go_meet
             case rel => exact ⟨_, (true), tq_8, H', ⟨by have := HJ2.out; have := HK2.out; first | omega | exact Nat.le_refl _⟩, ⟨by (with_reducible repeat (first | refine blk_drewN ?_ _ | refine blk_drew ?_ | refine blk_alloc ?_ _)); exact BK256.out⟩, ⟨by (with_reducible repeat (first | refine blk_drewN ?_ _ | refine blk_drew ?_ | refine blk_alloc ?_ _)); exact BK257.out⟩, ⟨by (with_reducible repeat (first | refine blk_drewN ?_ _ | refine blk_drew ?_ | refine blk_alloc ?_ _)); exact BK264.out⟩, ⟨by repeat (first | (with_reducible first | exact HB.out | apply below_alloc | apply pw_below_drewN | apply below_drew1 | refine below_set ?_ GE256.out | refine below_set ?_ GE257.out | refine below_set ?_ GE264.out) | exact HB.out)⟩⟩
          ·rw [if_neg c37] at H
           have c37b0 : (t266 == 0) = false := beq_eq_false_iff_ne.mpr c37
           have c37b1 : (t266 != 0) = true := bne_iff_ne.mpr c37
           (first | rw [c37b0] | (simp only [i64_w, i32_w]; rw [c37b0]) | skip)
           have H' := Aside0.mk H
           clear H
           try go_wp2
           have n0_ := Aside0.mk (Kd.R_drew HO268.out)
           have n1_ := Aside0.mk (blk_drew BK256.out)
           have n2_ := Aside0.mk (blk_drew BK257.out)
           have n3_ := Aside0.mk (blk_drew BK264.out)
           have n4_ := Aside0.mk (below_drew1 HB.out)
           clear HO268
           clear BK256
           clear BK257
           clear BK264
           clear HB
           have HO268 := n0_
           have BK256 := n1_
           have BK257 := n2_
           have BK264 := n3_
           have HB := n4_
           clear n0_ n1_ n2_ n3_ n4_
           refine start_ (n := 31) (S := fun w' => True) (ds := []) bq_35 (by kernel_rfl) rfl rfl trivial (fun hHeld => ?_); refine with_tabW impl_ViewOk.tab7 impl_ViewOk.bits7 (fun HT_ HW_ => ?_)
           generalize w36.drew = w56 at HO268 BK256 BK257 BK264 HB hHeld ⊢
           refine yq_ (i := 0) (N := some 47) bq_36 (any_of HT_.out (by kernel_rfl)) ?_
           refine yq_ (i := 1) (N := some 48) bq_37 (any_of HT_.out (by kernel_rfl)) ?_
           refine yq_ (i := 2) (N := some 49) bq_38 (any_of HT_.out (by kernel_rfl)) ?_
           refine uq_ (i := 3) (N := some 50) bq_39 (any_of HT_.out (by kernel_rfl)) ?_
           refine uq_ (i := 4) (N := some 51) bq_40 (any_of HT_.out (by kernel_rfl)) ?_
           refine uq_ (i := 5) (N := some 52) bq_41 (any_of HT_.out (by kernel_rfl)) ?_
           refine yq_ (i := 6) (N := some 53) bq_42 (any_of HT_.out (by kernel_rfl)) ?_
           refine yq_ (i := 7) (N := some 54) bq_43 (any_of HT_.out (by kernel_rfl)) ?_
           refine uq_ (i := 8) (N := some 55) bq_127 (any_of HT_.out (by kernel_rfl)) ?_
           refine uq_ (i := 9) (N := some 56) bq_44 (any_of HT_.out (by kernel_rfl)) ?_
           refine uq_ (i := 10) (N := some 57) bq_45 (any_of HT_.out (by kernel_rfl)) ?_
           refine uq_ (i := 11) (N := some 58) bq_46 (any_of HT_.out (by kernel_rfl)) ?_
           refine uq_ (i := 12) (N := some 59) bq_47 (any_of HT_.out (by kernel_rfl)) ?_
           refine uq_ (i := 13) (N := some 60) bq_48 (any_of HT_.out (by kernel_rfl)) ?_
           refine yq_ (i := 14) (N := some 61) bq_49 (any_of HT_.out (by kernel_rfl)) ?_
           refine yq_ (i := 15) (N := some 62) bq_50 (any_of HT_.out (by kernel_rfl)) ?_
           refine uq_ (i := 16) (N := some 63) bq_51 (any_of HT_.out (by kernel_rfl)) ?_
           refine uq_ (i := 17) (N := some 64) bq_52 (any_of HT_.out (by kernel_rfl)) ?_
           refine uq_ (i := 18) (N := some 65) bq_53 (any_of HT_.out (by kernel_rfl)) ?_
           refine uq_ (i := 19) (N := some 66) bq_54 (any_of HT_.out (by kernel_rfl)) ?_
           refine uq_ (i := 20) (N := some 67) bq_93 (any_of HT_.out (by kernel_rfl)) ?_
           refine uq_ (i := 21) (N := some 68) bq_94 (any_of HT_.out (by kernel_rfl)) ?_
           refine uq_ (i := 22) (N := some 69) bq_95 (any_of HT_.out (by kernel_rfl)) ?_
           refine uq_ (i := 23) (N := some 70) bq_96 (any_of HT_.out (by kernel_rfl)) ?_
           refine uq_ (i := 24) (N := some 71) bq_55 (any_of HT_.out (by kernel_rfl)) ?_
           refine uq_ (i := 25) (N := some 72) bq_56 (any_of HT_.out (by kernel_rfl)) ?_
           refine uq_ (i := 26) (N := some 73) bq_57 (any_of HT_.out (by kernel_rfl)) ?_
           refine uq_ (i := 27) (N := some 74) bq_58 (any_of HT_.out (by kernel_rfl)) ?_
           refine uq_ (i := 28) (N := some 75) bq_59 (any_of HT_.out (by kernel_rfl)) ?_
           refine uq_ (i := 29) (N := some 76) bq_60 (any_of HT_.out (by kernel_rfl)) ?_
           refine yq_ (i := 30) (N := some 77) bq_61 (any_of HT_.out (by kernel_rfl)) ?_
           refine done_ (done_of HT_.out (by kernel_rfl)) ?_
           try go_wp2
           go_meet
           case rel => exact ⟨_, (true), tq_8, H', ⟨by have := HJ2.out; have := HK2.out; first | omega | exact Nat.le_refl _⟩, ⟨by (with_reducible repeat (first | refine blk_drewN ?_ _ | refine blk_drew ?_ | refine blk_alloc ?_ _)); exact BK256.out⟩, ⟨by (with_reducible repeat (first | refine blk_drewN ?_ _ | refine blk_drew ?_ | refine blk_alloc ?_ _)); exact BK257.out⟩, ⟨by (with_reducible repeat (first | refine blk_drewN ?_ _ | refine blk_drew ?_ | refine blk_alloc ?_ _)); exact BK264.out⟩, ⟨by repeat (first | (with_reducible first | exact HB.out | apply below_alloc | apply pw_below_drewN | apply below_drew1 | refine below_set ?_ GE256.out | refine below_set ?_ GE257.out | refine below_set ?_ GE264.out) | exact HB.out)⟩⟩
         case rest =>
          clear HC31
          try clear c1
          try clear c2
          try clear p2
          try clear c3
          try clear c4
          try clear c7
          try clear c23
          try clear c37
          try clear c37b0
          try clear c37b1
          try clear c42
          obtain ⟨kq, x77_30, rfl, HA, HJ30, BK256, BK257, BK264, HB⟩ := hcut
          cases kq with
          | zero => exact absurd HA.out (by simp [impl_ViewOk.j2])
          | succ kj30 =>
           have H := HA.out
           clear HA
           simp only [impl_ViewOk.j2] at H
           by_cases c57 : x77_30 = true
           ·subst c57
            have H1 : (some false) = some r := by rw [if_pos rfl] at H; exact H
            clear H
            have H := H1
            clear H1
            obtain rfl := Option.some.inj H
            go_wp2
            go_ret
            exact ⟨by first | rfl | (simp [errW_none, errW_some] <;> rfl) | (simp [*, errW_none, errW_some] <;> rfl), by repeat (first | (with_reducible first | exact HB.out | apply below_alloc | apply pw_below_drewN | apply below_drew1 | refine below_set ?_ GE256.out | refine below_set ?_ GE257.out | refine below_set ?_ GE264.out) | exact HB.out)⟩
           ·replace c57 := Bool.eq_false_iff.mpr c57
            subst c57
            have H1 : (if ((rd_T75 l1_0 x36_2).f1) = true then (if ((rd_T75 l1_0 x36_2).f2).toList = ([] : List UInt8) then ((impl_KidsOf.f kj30 l1_0 ((rd_T75 l1_0 x36_2).f0)).bind fun t272 => (if (t272.length : Int) > 6 then (some false) else (if (((rd_T75 l1_0 x36_2).f2).size : Int) > 128 then (some false) else (impl_ViewOk.l0 kj30 l1_0 (l1_0.length : Int) (wrap64 (x36_2 + 1)) l1_0)))) else (some false)) else (if (((rd_T75 l1_0 x36_2).f2).size : Int) > 128 then (some false) else (impl_ViewOk.l0 kj30 l1_0 (l1_0.length : Int) (wrap64 (x36_2 + 1)) l1_0))) = some r := by rw [if_neg (show ¬ (false = true) by decide)] at H; exact H
            clear H
            have H := H1
            clear H1
            by_cases c58 : ((rd_T75 l1_0 x36_2).f1) = true
            ·rw [if_pos c58] at H
             have c58b0 : ((rd_T75 l1_0 x36_2).f1) = true := c58
             clear c58
             by_cases c59 : ((rd_T75 l1_0 x36_2).f2).toList = ([] : List UInt8)
             ·rw [if_pos c59] at H
              have c59b0 : (((rd_T75 l1_0 x36_2).f2).toList == ([] : List UInt8)) = true := beq_iff_eq.mpr c59
              have c59b1 : (((rd_T75 l1_0 x36_2).f2).toList != ([] : List UInt8)) = false := bne_eq_false_iff_eq.mpr c59
              clear c59
              replace H := Option.bind_eq_some_iff.mp H
              obtain ⟨t272, A600, H⟩ := H
              replace H : (if (t272.length : Int) > 6 then (some false) else (if (((rd_T75 l1_0 x36_2).f2).size : Int) > 128 then (some false) else (impl_ViewOk.l0 kj30 l1_0 (l1_0.length : Int) (wrap64 (x36_2 + 1)) l1_0))) = some r := H
              have A60 := Aside0.mk A600
              clear A600
              by_cases c61 : (t272.length : Int) > 6
              ·rw [if_pos c61] at H
               have c61b0 : decide (6 < (t272.length : Int)) = true := decide_eq_true c61
               have c61b1 : decide (6 < t272.length) = true := decide_eq_true (by omega)
               clear c61
               obtain rfl := Option.some.inj H
               have hnb62 := NB264_256.out
               have hnc62 := NB256_264.out
               have hnb63 := NB264_257.out
               have hnc63 := NB257_264.out
               have hcz64_0 : wc.cell? ⟨gb264, 0, none⟩ = some (.string ((rd_T75 l1_0 x36_2).f0)) := (blk_cell BK264.out 0).trans rfl
               have hcz64_1 : wc.cell? ⟨gb264, 1, none⟩ = some (.bool ((rd_T75 l1_0 x36_2).f1)) := (blk_cell BK264.out 1).trans rfl
               have hcz64_2 : wc.cell? ⟨gb264, 2, none⟩ = some (.string ((rd_T75 l1_0 x36_2).f2)) := (blk_cell BK264.out 2).trans rfl
               have hfz64_0 := blk_frozen BK264.out 0
               have hfz64_1 := blk_frozen BK264.out 1
               have hfz64_2 := blk_frozen BK264.out 2
               have hnb65 := NB257_256.out
               have hnc65 := NB256_257.out
               have hcz66_0 : wc.cell? ⟨gb257, 0, none⟩ = some (.slice (some ad263) l1_0.length c1_0) := (blk_cell BK257.out 0).trans rfl
               have hfz66_0 := blk_frozen BK257.out 0
               go_wp2_with (first | (go_at_call 30; (with_reducible refine (impl_KidsOf.calls kj30 _ _ l1_0 ((rd_T75 l1_0 x36_2).f0) t272 _ ?side1 ?side2 ?side3 A60.out).mono ?_); (case side1 => exact DoorOk.below HD.out tq_5); (case side2 => exact tq_4); (case side3 => exact HC1_0.out); rintro e w67 ⟨v273, rfl, ho0, hb⟩; have n0_ := Aside0.mk (Kd.R_lower ho0 (below_size tq_5)); have n1_ := Aside0.mk (blk_below (g := gb256) (o := .cells #[.int .i64 a0_0, .int .i64 a0_1, .int .i64 a0_2, .int .i64 a0_3] 58 (0, 0)) tq_10 hb); have n2_ := Aside0.mk (blk_below (g := gb257) (o := .cells #[.slice (some ad263) l1_0.length c1_0] 37 (0, 0)) tq_13 hb); have n3_ := Aside0.mk (blk_below (g := gb264) (o := .cells #[.string ((rd_T75 l1_0 x36_2).f0), .bool ((rd_T75 l1_0 x36_2).f1), .string ((rd_T75 l1_0 x36_2).f2)] 75 (0, 0)) tq_28 hb); have n4_ := Aside0.mk (below_step tq_5 hb); clear BK256; clear BK257; clear BK264; clear HB; have HO274 := n0_; have BK256 := n1_; have BK257 := n2_; have BK264 := n3_; have HB := n4_; clear n0_ n1_ n2_ n3_ n4_; (try clear hb); (try clear hb2); (try clear hk); (try clear hi); (try clear ho0); obtain ⟨Ao68, co68, eo68⟩ := Kd.R_slice HO274.out; subst eo68))
               go_ret
               exact ⟨by first | rfl | (simp [errW_none, errW_some] <;> rfl) | (simp [*, errW_none, errW_some] <;> rfl), by repeat (first | (with_reducible first | exact HB.out | apply below_alloc | apply pw_below_drewN | apply below_drew1 | refine below_set ?_ GE256.out | refine below_set ?_ GE257.out | refine below_set ?_ GE264.out) | exact HB.out)⟩
              ·rw [if_neg c61] at H
               have c61b0 : decide (6 < (t272.length : Int)) = false := decide_eq_false c61
               have c61b1 : decide (6 < t272.length) = false := decide_eq_false (by omega)
               clear c61
               by_cases c69 : (((rd_T75 l1_0 x36_2).f2).size : Int) > 128
               ·rw [if_pos c69] at H
                have c69b0 : decide (128 < (((rd_T75 l1_0 x36_2).f2).size : Int)) = true := decide_eq_true c69
                have c69b1 : decide (128 < ((rd_T75 l1_0 x36_2).f2).size) = true := decide_eq_true (by omega)
                clear c69
                obtain rfl := Option.some.inj H
                have hnb70 := NB264_256.out
                have hnc70 := NB256_264.out
                have hnb71 := NB264_257.out
                have hnc71 := NB257_264.out
                have hcz72_0 : wc.cell? ⟨gb264, 0, none⟩ = some (.string ((rd_T75 l1_0 x36_2).f0)) := (blk_cell BK264.out 0).trans rfl
                have hcz72_1 : wc.cell? ⟨gb264, 1, none⟩ = some (.bool ((rd_T75 l1_0 x36_2).f1)) := (blk_cell BK264.out 1).trans rfl
                have hcz72_2 : wc.cell? ⟨gb264, 2, none⟩ = some (.string ((rd_T75 l1_0 x36_2).f2)) := (blk_cell BK264.out 2).trans rfl
                have hfz72_0 := blk_frozen BK264.out 0
                have hfz72_1 := blk_frozen BK264.out 1
                have hfz72_2 := blk_frozen BK264.out 2
                have hnb73 := NB257_256.out
                have hnc73 := NB256_257.out
                have hcz74_0 : wc.cell? ⟨gb257, 0, none⟩ = some (.slice (some ad263) l1_0.length c1_0) := (blk_cell BK257.out 0).trans rfl
                have hfz74_0 := blk_frozen BK257.out 0
                go_wp2_with (first | (go_at_call 30; (with_reducible refine (impl_KidsOf.calls kj30 _ _ l1_0 ((rd_T75 l1_0 x36_2).f0) t272 _ ?side1 ?side2 ?side3 A60.out).mono ?_); (case side1 => exact DoorOk.below HD.out tq_5); (case side2 => exact tq_4); (case side3 => exact HC1_0.out); rintro e w75 ⟨v273, rfl, ho0, hb⟩; have n0_ := Aside0.mk (Kd.R_lower ho0 (below_size tq_5)); have n1_ := Aside0.mk (blk_below (g := gb256) (o := .cells #[.int .i64 a0_0, .int .i64 a0_1, .int .i64 a0_2, .int .i64 a0_3] 58 (0, 0)) tq_10 hb); have n2_ := Aside0.mk (blk_below (g := gb257) (o := .cells #[.slice (some ad263) l1_0.length c1_0] 37 (0, 0)) tq_13 hb); have n3_ := Aside0.mk (blk_below (g := gb264) (o := .cells #[.string ((rd_T75 l1_0 x36_2).f0), .bool ((rd_T75 l1_0 x36_2).f1), .string ((rd_T75 l1_0 x36_2).f2)] 75 (0, 0)) tq_28 hb); have n4_ := Aside0.mk (below_step tq_5 hb); clear BK256; clear BK257; clear BK264; clear HB; have HO274 := n0_; have BK256 := n1_; have BK257 := n2_; have BK264 := n3_; have HB := n4_; clear n0_ n1_ n2_ n3_ n4_; (try clear hb); (try clear hb2); (try clear hk); (try clear hi); (try clear ho0); obtain ⟨Ao76, co76, eo76⟩ := Kd.R_slice HO274.out; subst eo76; have hcz77_0 : w75.cell? ⟨gb264, 0, none⟩ = some (.string ((rd_T75 l1_0 x36_2).f0)) := (blk_cell BK264.out 0).trans rfl; have hcz77_1 : w75.cell? ⟨gb264, 1, none⟩ = some (.bool ((rd_T75 l1_0 x36_2).f1)) := (blk_cell BK264.out 1).trans rfl; have hcz77_2 : w75.cell? ⟨gb264, 2, none⟩ = some (.string ((rd_T75 l1_0 x36_2).f2)) := (blk_cell BK264.out 2).trans rfl; have hfz77_0 := blk_frozen BK264.out 0; have hfz77_1 := blk_frozen BK264.out 1; have hfz77_2 := blk_frozen BK264.out 2))
                go_ret
                exact ⟨by first | rfl | (simp [errW_none, errW_some] <;> rfl) | (simp [*, errW_none, errW_some] <;> rfl), by repeat (first | (with_reducible first | exact HB.out | apply below_alloc | apply pw_below_drewN | apply below_drew1 | refine below_set ?_ GE256.out | refine below_set ?_ GE257.out | refine below_set ?_ GE264.out) | exact HB.out)⟩
               ·rw [if_neg c69] at H
                have c69b0 : decide (128 < (((rd_T75 l1_0 x36_2).f2).size : Int)) = false := decide_eq_false c69
                have c69b1 : decide (128 < ((rd_T75 l1_0 x36_2).f2).size) = false := decide_eq_false (by omega)
                clear c69
                have H' := Aside0.mk H
                clear H
                have hnb78 := NB264_256.out
                have hnc78 := NB256_264.out
                have hnb79 := NB264_257.out
                have hnc79 := NB257_264.out
                have hcz80_0 : wc.cell? ⟨gb264, 0, none⟩ = some (.string ((rd_T75 l1_0 x36_2).f0)) := (blk_cell BK264.out 0).trans rfl
                have hcz80_1 : wc.cell? ⟨gb264, 1, none⟩ = some (.bool ((rd_T75 l1_0 x36_2).f1)) := (blk_cell BK264.out 1).trans rfl
                have hcz80_2 : wc.cell? ⟨gb264, 2, none⟩ = some (.string ((rd_T75 l1_0 x36_2).f2)) := (blk_cell BK264.out 2).trans rfl
                have hfz80_0 := blk_frozen BK264.out 0
                have hfz80_1 := blk_frozen BK264.out 1
                have hfz80_2 := blk_frozen BK264.out 2
                have hnb81 := NB257_256.out
                have hnc81 := NB256_257.out
                have hcz82_0 : wc.cell? ⟨gb257, 0, none⟩ = some (.slice (some ad263) l1_0.length c1_0) := (blk_cell BK257.out 0).trans rfl
                have hfz82_0 := blk_frozen BK257.out 0
                go_wp2_with (first | (go_at_call 30; (with_reducible refine (impl_KidsOf.calls kj30 _ _ l1_0 ((rd_T75 l1_0 x36_2).f0) t272 _ ?side1 ?side2 ?side3 A60.out).mono ?_); (case side1 => exact DoorOk.below HD.out tq_5); (case side2 => exact tq_4); (case side3 => exact HC1_0.out); rintro e w83 ⟨v273, rfl, ho0, hb⟩; have n0_ := Aside0.mk (Kd.R_lower ho0 (below_size tq_5)); have n1_ := Aside0.mk (blk_below (g := gb256) (o := .cells #[.int .i64 a0_0, .int .i64 a0_1, .int .i64 a0_2, .int .i64 a0_3] 58 (0, 0)) tq_10 hb); have n2_ := Aside0.mk (blk_below (g := gb257) (o := .cells #[.slice (some ad263) l1_0.length c1_0] 37 (0, 0)) tq_13 hb); have n3_ := Aside0.mk (blk_below (g := gb264) (o := .cells #[.string ((rd_T75 l1_0 x36_2).f0), .bool ((rd_T75 l1_0 x36_2).f1), .string ((rd_T75 l1_0 x36_2).f2)] 75 (0, 0)) tq_28 hb); have n4_ := Aside0.mk (below_step tq_5 hb); clear BK256; clear BK257; clear BK264; clear HB; have HO274 := n0_; have BK256 := n1_; have BK257 := n2_; have BK264 := n3_; have HB := n4_; clear n0_ n1_ n2_ n3_ n4_; (try clear hb); (try clear hb2); (try clear hk); (try clear hi); (try clear ho0); obtain ⟨Ao84, co84, eo84⟩ := Kd.R_slice HO274.out; subst eo84; have hcz85_0 : w83.cell? ⟨gb264, 0, none⟩ = some (.string ((rd_T75 l1_0 x36_2).f0)) := (blk_cell BK264.out 0).trans rfl; have hcz85_1 : w83.cell? ⟨gb264, 1, none⟩ = some (.bool ((rd_T75 l1_0 x36_2).f1)) := (blk_cell BK264.out 1).trans rfl; have hcz85_2 : w83.cell? ⟨gb264, 2, none⟩ = some (.string ((rd_T75 l1_0 x36_2).f2)) := (blk_cell BK264.out 2).trans rfl; have hfz85_0 := blk_frozen BK264.out 0; have hfz85_1 := blk_frozen BK264.out 1; have hfz85_2 := blk_frozen BK264.out 2))
                go_roundg kj30
                case measure => have := HJ2.out; have := HK2.out; have := HJ30.out; omega
                case rel => exact ⟨(wrap64 (x36_2 + 1)), tq_8, H', ⟨by have := HJ2.out; have := HK2.out; have := HJ30.out; omega⟩, ⟨by (with_reducible repeat (first | refine blk_drewN ?_ _ | refine blk_drew ?_ | refine blk_alloc ?_ _)); exact BK256.out⟩, ⟨by (with_reducible repeat (first | refine blk_drewN ?_ _ | refine blk_drew ?_ | refine blk_alloc ?_ _)); exact BK257.out⟩, ⟨by repeat (first | (with_reducible first | exact HB.out | apply below_alloc | apply pw_below_drewN | apply below_drew1 | refine below_set ?_ GE256.out | refine below_set ?_ GE257.out | refine below_set ?_ GE264.out) | exact HB.out)⟩⟩
             ·rw [if_neg c59] at H
              have c59b0 : (((rd_T75 l1_0 x36_2).f2).toList == ([] : List UInt8)) = false := beq_eq_false_iff_ne.mpr c59
              have c59b1 : (((rd_T75 l1_0 x36_2).f2).toList != ([] : List UInt8)) = true := bne_iff_ne.mpr c59
              obtain rfl := Option.some.inj H
              have hnb86 := NB264_256.out
              have hnc86 := NB256_264.out
              have hnb87 := NB264_257.out
              have hnc87 := NB257_264.out
              have hcz88_0 : wc.cell? ⟨gb264, 0, none⟩ = some (.string ((rd_T75 l1_0 x36_2).f0)) := (blk_cell BK264.out 0).trans rfl
              have hcz88_1 : wc.cell? ⟨gb264, 1, none⟩ = some (.bool ((rd_T75 l1_0 x36_2).f1)) := (blk_cell BK264.out 1).trans rfl
              have hcz88_2 : wc.cell? ⟨gb264, 2, none⟩ = some (.string ((rd_T75 l1_0 x36_2).f2)) := (blk_cell BK264.out 2).trans rfl
              have hfz88_0 := blk_frozen BK264.out 0
              have hfz88_1 := blk_frozen BK264.out 1
              have hfz88_2 := blk_frozen BK264.out 2
              go_wp2
              go_ret
              exact ⟨by first | rfl | (simp [errW_none, errW_some] <;> rfl) | (simp [*, errW_none, errW_some] <;> rfl), by repeat (first | (with_reducible first | exact HB.out | apply below_alloc | apply pw_below_drewN | apply below_drew1 | refine below_set ?_ GE256.out | refine below_set ?_ GE257.out | refine below_set ?_ GE264.out) | exact HB.out)⟩
            ·rw [if_neg c58] at H
             have c58b0 : ((rd_T75 l1_0 x36_2).f1) = false := by simpa using c58
             clear c58
             by_cases c89 : (((rd_T75 l1_0 x36_2).f2).size : Int) > 128
             ·rw [if_pos c89] at H
              have c89b0 : decide (128 < (((rd_T75 l1_0 x36_2).f2).size : Int)) = true := decide_eq_true c89
              have c89b1 : decide (128 < ((rd_T75 l1_0 x36_2).f2).size) = true := decide_eq_true (by omega)
              clear c89
              obtain rfl := Option.some.inj H
              have hnb90 := NB264_256.out
              have hnc90 := NB256_264.out
              have hnb91 := NB264_257.out
              have hnc91 := NB257_264.out
              have hcz92_0 : wc.cell? ⟨gb264, 0, none⟩ = some (.string ((rd_T75 l1_0 x36_2).f0)) := (blk_cell BK264.out 0).trans rfl
              have hcz92_1 : wc.cell? ⟨gb264, 1, none⟩ = some (.bool ((rd_T75 l1_0 x36_2).f1)) := (blk_cell BK264.out 1).trans rfl
              have hcz92_2 : wc.cell? ⟨gb264, 2, none⟩ = some (.string ((rd_T75 l1_0 x36_2).f2)) := (blk_cell BK264.out 2).trans rfl
              have hfz92_0 := blk_frozen BK264.out 0
              have hfz92_1 := blk_frozen BK264.out 1
              have hfz92_2 := blk_frozen BK264.out 2
              go_wp2
              go_ret
              exact ⟨by first | rfl | (simp [errW_none, errW_some] <;> rfl) | (simp [*, errW_none, errW_some] <;> rfl), by repeat (first | (with_reducible first | exact HB.out | apply below_alloc | apply pw_below_drewN | apply below_drew1 | refine below_set ?_ GE256.out | refine below_set ?_ GE257.out | refine below_set ?_ GE264.out) | exact HB.out)⟩
             ·rw [if_neg c89] at H
              have c89b0 : decide (128 < (((rd_T75 l1_0 x36_2).f2).size : Int)) = false := decide_eq_false c89
              have c89b1 : decide (128 < ((rd_T75 l1_0 x36_2).f2).size) = false := decide_eq_false (by omega)
              clear c89
              have H' := Aside0.mk H
              clear H
              have hnb93 := NB264_256.out
              have hnc93 := NB256_264.out
              have hnb94 := NB264_257.out
              have hnc94 := NB257_264.out
              have hcz95_0 : wc.cell? ⟨gb264, 0, none⟩ = some (.string ((rd_T75 l1_0 x36_2).f0)) := (blk_cell BK264.out 0).trans rfl
              have hcz95_1 : wc.cell? ⟨gb264, 1, none⟩ = some (.bool ((rd_T75 l1_0 x36_2).f1)) := (blk_cell BK264.out 1).trans rfl
              have hcz95_2 : wc.cell? ⟨gb264, 2, none⟩ = some (.string ((rd_T75 l1_0 x36_2).f2)) := (blk_cell BK264.out 2).trans rfl
              have hfz95_0 := blk_frozen BK264.out 0
              have hfz95_1 := blk_frozen BK264.out 1
              have hfz95_2 := blk_frozen BK264.out 2
              go_wp2
              go_roundg kj30
              case measure => have := HJ2.out; have := HK2.out; have := HJ30.out; omega
              case rel => exact ⟨(wrap64 (x36_2 + 1)), tq_8, H', ⟨by have := HJ2.out; have := HK2.out; have := HJ30.out; omega⟩, ⟨by (with_reducible repeat (first | refine blk_drewN ?_ _ | refine blk_drew ?_ | refine blk_alloc ?_ _)); exact BK256.out⟩, ⟨by (with_reducible repeat (first | refine blk_drewN ?_ _ | refine blk_drew ?_ | refine blk_alloc ?_ _)); exact BK257.out⟩, ⟨by repeat (first | (with_reducible first | exact HB.out | apply below_alloc | apply pw_below_drewN | apply below_drew1 | refine below_set ?_ GE256.out | refine below_set ?_ GE257.out | refine below_set ?_ GE264.out) | exact HB.out)⟩⟩
        ·rw [if_neg c29] at H
         exact absurd H (by simp)
       ·rw [if_neg c28] at H
        exact absurd H (by simp)
      ·rw [if_neg c27] at H
       have c27b0 : decide (x36_2 < (l1_0.length : Int)) = false := decide_eq_false c27
       clear c27
       obtain rfl := Option.some.inj H
       go_wp2
       go_ret
       exact ⟨by first | rfl | (simp [errW_none, errW_some] <;> rfl) | (simp [*, errW_none, errW_some] <;> rfl), by repeat (first | (with_reducible first | exact HB.out | apply below_alloc | apply pw_below_drewN | apply below_drew1 | refine below_set ?_ GE256.out | refine below_set ?_ GE257.out) | exact HB.out)⟩

end Go.Proofs.YtabgpbmaoelohaaDoor.PFnExactViewOk
