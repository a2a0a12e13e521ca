/- Contracts of Go functions, written by a program of ours over the print of the kit: each says that the call returns what the Lean function beside it computes. Conditions: as each theorem states them. -/
import Derived.Test.YtmddplifammohaaDoorPkFnExactMovedItems
import Derived.Test.YtmddplifammohaaDoorPFnExactMovedItemsx0
import Derived.Test.YtmddplifammohaaDoorPFnExactMovedItemsx5
import Derived.Test.YtmddplifammohaaDoorPFnExactMovedItemsx7
namespace Go.Proofs.YtmddplifammohaaDoor.PFnExactMovedItems
open Go.RowKit Go.Proofs.YtmddplifammohaaDoorW.PrintWords Go.Proofs.YtmddplifammohaaDoorW.PrintLast Go.Proofs.YtmddplifammohaaDoorW.PrintMore
attribute [local go_sem] max2_int min2_int max_two min_two max_three min_three max_four min_four   -- for this text's walks alone
set_option linter.unusedVariables false
set_option linter.unusedSimpArgs false

/-! ### slices_symMergeCmpFunc_Item: function 43 -/
mutual
def slices_symMergeCmpFunc_Item.l0 : Nat → List (S36) → Int → Int → Int → Option ((List (S36)))
 | 0, _, _, _, _ => none
 | k + 1, x0, x1, x10, x11 => if x10 < x11 then (if 0 ≤ (wrap64 ((IntKind.u64.wrap (wrap64 (x10 + x11))) / 2)) then (if (wrap64 ((IntKind.u64.wrap (wrap64 (x10 + x11))) / 2)) < (x0.length : Int) then (if 0 ≤ x1 then (if x1 < (x0.length : Int) then ((impl_MovedItems_1.f ((rd_T36 x0 (wrap64 ((IntKind.u64.wrap (wrap64 (x10 + x11))) / 2))).f0) ((rd_T36 x0 (wrap64 ((IntKind.u64.wrap (wrap64 (x10 + x11))) / 2))).f1) ((rd_T36 x0 (wrap64 ((IntKind.u64.wrap (wrap64 (x10 + x11))) / 2))).f2) ((rd_T36 x0 x1).f0) ((rd_T36 x0 x1).f1) ((rd_T36 x0 x1).f2)).bind fun t259 => (if t259 < 0 then (slices_symMergeCmpFunc_Item.l0 k x0 x1 (wrap64 ((wrap64 ((IntKind.u64.wrap (wrap64 (x10 + x11))) / 2)) + 1)) x11) else (slices_symMergeCmpFunc_Item.l0 k x0 x1 x10 (wrap64 ((IntKind.u64.wrap (wrap64 (x10 + x11))) / 2))))) else (none)) else (none)) else (none)) else (none)) else (slices_symMergeCmpFunc_Item.l1 k x0 x10 x1)
def slices_symMergeCmpFunc_Item.l1 : Nat → List (S36) → Int → Int → Option ((List (S36)))
 | 0, _, _, _ => none
 | k + 1, x0, x10, x13 => if x13 < (wrap64 (x10 - 1)) then (if 0 ≤ (wrap64 (x13 + 1)) then (if (wrap64 (x13 + 1)) < (x0.length : Int) then (if 0 ≤ x13 then (if x13 < (x0.length : Int) then (slices_symMergeCmpFunc_Item.l1 k ((x0.set (x13 : Int).toNat (⟨(rd_T36 x0 (wrap64 (x13 + 1))).f0, (rd_T36 x0 (wrap64 (x13 + 1))).f1, (rd_T36 x0 (wrap64 (x13 + 1))).f2⟩ : S36)).set ((wrap64 (x13 + 1)) : Int).toNat (⟨(rd_T36 x0 x13).f0, (rd_T36 x0 x13).f1, (rd_T36 x0 x13).f2⟩ : S36)) x10 (wrap64 (x13 + 1))) else (none)) else (none)) else (none)) else (none)) else (some x0)
def slices_symMergeCmpFunc_Item.l2 : Nat → List (S36) → Int → Int → Int → Option ((List (S36)))
 | 0, _, _, _, _ => none
 | k + 1, x0, x2, x14, x15 => if x14 < x15 then (if 0 ≤ x2 then (if x2 < (x0.length : Int) then (if 0 ≤ (wrap64 ((IntKind.u64.wrap (wrap64 (x14 + x15))) / 2)) then (if (wrap64 ((IntKind.u64.wrap (wrap64 (x14 + x15))) / 2)) < (x0.length : Int) then ((impl_MovedItems_1.f ((rd_T36 x0 x2).f0) ((rd_T36 x0 x2).f1) ((rd_T36 x0 x2).f2) ((rd_T36 x0 (wrap64 ((IntKind.u64.wrap (wrap64 (x14 + x15))) / 2))).f0) ((rd_T36 x0 (wrap64 ((IntKind.u64.wrap (wrap64 (x14 + x15))) / 2))).f1) ((rd_T36 x0 (wrap64 ((IntKind.u64.wrap (wrap64 (x14 + x15))) / 2))).f2)).bind fun t266 => (if t266 < 0 then (slices_symMergeCmpFunc_Item.l2 k x0 x2 x14 (wrap64 ((IntKind.u64.wrap (wrap64 (x14 + x15))) / 2))) else (slices_symMergeCmpFunc_Item.l2 k x0 x2 (wrap64 ((wrap64 ((IntKind.u64.wrap (wrap64 (x14 + x15))) / 2)) + 1)) x15))) else (none)) else (none)) else (none)) else (none)) else (slices_symMergeCmpFunc_Item.l3 k x0 x14 x2)
def slices_symMergeCmpFunc_Item.l3 : Nat → List (S36) → Int → Int → Option ((List (S36)))
 | 0, _, _, _ => none
 | k + 1, x0, x14, x17 => if x17 > x14 then (if 0 ≤ (wrap64 (x17 - 1)) then (if (wrap64 (x17 - 1)) < (x0.length : Int) then (if 0 ≤ x17 then (if x17 < (x0.length : Int) then (slices_symMergeCmpFunc_Item.l3 k ((x0.set (x17 : Int).toNat (⟨(rd_T36 x0 (wrap64 (x17 - 1))).f0, (rd_T36 x0 (wrap64 (x17 - 1))).f1, (rd_T36 x0 (wrap64 (x17 - 1))).f2⟩ : S36)).set ((wrap64 (x17 - 1)) : Int).toNat (⟨(rd_T36 x0 x17).f0, (rd_T36 x0 x17).f1, (rd_T36 x0 x17).f2⟩ : S36)) x14 (wrap64 (x17 - 1))) else (none)) else (none)) else (none)) else (none)) else (some x0)
def slices_symMergeCmpFunc_Item.j4 : Nat → List (S36) → Int → Int → Int → Unit → Int → Int → Int → Int → Option ((List (S36)))
 | 0, _, _, _, _, _, _, _, _, _ => none
 | k + 1, x0, x1, x2, x3, x4, x18, x19, x20, x21 => slices_symMergeCmpFunc_Item.l4 k x0 x1 x2 x3 x4 x18 x19 x20 x21 (wrap64 (x19 - 1))
def slices_symMergeCmpFunc_Item.l4 : Nat → List (S36) → Int → Int → Int → Unit → Int → Int → Int → Int → Int → Option ((List (S36)))
 | 0, _, _, _, _, _, _, _, _, _, _ => none
 | k + 1, x0, x1, x2, x3, x4, x18, x19, x20, x21, x22 => if x20 < x21 then (if 0 ≤ (wrap64 (x22 - (wrap64 ((IntKind.u64.wrap (wrap64 (x20 + x21))) / 2)))) then (if (wrap64 (x22 - (wrap64 ((IntKind.u64.wrap (wrap64 (x20 + x21))) / 2)))) < (x0.length : Int) then (if 0 ≤ (wrap64 ((IntKind.u64.wrap (wrap64 (x20 + x21))) / 2)) then (if (wrap64 ((IntKind.u64.wrap (wrap64 (x20 + x21))) / 2)) < (x0.length : Int) then ((impl_MovedItems_1.f ((rd_T36 x0 (wrap64 (x22 - (wrap64 ((IntKind.u64.wrap (wrap64 (x20 + x21))) / 2))))).f0) ((rd_T36 x0 (wrap64 (x22 - (wrap64 ((IntKind.u64.wrap (wrap64 (x20 + x21))) / 2))))).f1) ((rd_T36 x0 (wrap64 (x22 - (wrap64 ((IntKind.u64.wrap (wrap64 (x20 + x21))) / 2))))).f2) ((rd_T36 x0 (wrap64 ((IntKind.u64.wrap (wrap64 (x20 + x21))) / 2))).f0) ((rd_T36 x0 (wrap64 ((IntKind.u64.wrap (wrap64 (x20 + x21))) / 2))).f1) ((rd_T36 x0 (wrap64 ((IntKind.u64.wrap (wrap64 (x20 + x21))) / 2))).f2)).bind fun t273 => (if t273 < 0 then (slices_symMergeCmpFunc_Item.l4 k x0 x1 x2 x3 x4 x18 x19 x20 (wrap64 ((IntKind.u64.wrap (wrap64 (x20 + x21))) / 2)) x22) else (slices_symMergeCmpFunc_Item.l4 k x0 x1 x2 x3 x4 x18 x19 (wrap64 ((wrap64 ((IntKind.u64.wrap (wrap64 (x20 + x21))) / 2)) + 1)) x21 x22))) else (none)) else (none)) else (none)) else (none)) else (if x20 < x2 then (slices_symMergeCmpFunc_Item.j6 k x0 x1 x2 x3 x4 x18 x20 (wrap64 (x19 - x20)) (decide (x2 < (wrap64 (x19 - x20))))) else (slices_symMergeCmpFunc_Item.j6 k x0 x1 x2 x3 x4 x18 x20 (wrap64 (x19 - x20)) false))
def slices_symMergeCmpFunc_Item.j6 : Nat → List (S36) → Int → Int → Int → Unit → Int → Int → Int → Bool → Option ((List (S36)))
 | 0, _, _, _, _, _, _, _, _, _ => none
 | k + 1, x0, x1, x2, x3, x4, x18, x20, x24, x185 => if x185 = true then ((slices_rotateCmpFunc_Item.f k x0 x20 x2 x24 x4).bind fun t274 => (slices_symMergeCmpFunc_Item.j7 k t274 x1 x3 x4 x18 x20 x24)) else (slices_symMergeCmpFunc_Item.j7 k x0 x1 x3 x4 x18 x20 x24)
def slices_symMergeCmpFunc_Item.j7 : Nat → List (S36) → Int → Int → Unit → Int → Int → Int → Option ((List (S36)))
 | 0, _, _, _, _, _, _, _ => none
 | k + 1, x0, x1, x3, x4, x18, x20, x24 => if x1 < x20 then (slices_symMergeCmpFunc_Item.j8 k x0 x1 x3 x4 x18 x20 x24 (decide (x20 < x18))) else (slices_symMergeCmpFunc_Item.j8 k x0 x1 x3 x4 x18 x20 x24 false)
def slices_symMergeCmpFunc_Item.j8 : Nat → List (S36) → Int → Int → Unit → Int → Int → Int → Bool → Option ((List (S36)))
 | 0, _, _, _, _, _, _, _, _ => none
 | k + 1, x0, x1, x3, x4, x18, x20, x24, x199 => if x199 = true then ((slices_symMergeCmpFunc_Item.f k x0 x1 x20 x18 x4).bind fun t275 => (if x18 < x24 then (if x24 < x3 then ((slices_symMergeCmpFunc_Item.f k t275 x18 x24 x3 x4).bind fun t276 => (some t276)) else (some t275)) else (some t275))) else (if x18 < x24 then (if x24 < x3 then ((slices_symMergeCmpFunc_Item.f k x0 x18 x24 x3 x4).bind fun t277 => (some t277)) else (some x0)) else (some x0))
def slices_symMergeCmpFunc_Item.f : Nat → List (S36) → Int → Int → Int → Unit → Option ((List (S36)))
 | 0, _, _, _, _, _ => none
 | k + 1, l0, a1, a2, a3, a4 => if (wrap64 (a2 - a1)) = 1 then (slices_symMergeCmpFunc_Item.l0 k l0 a1 a2 a3) else (if (wrap64 (a3 - a2)) = 1 then (slices_symMergeCmpFunc_Item.l2 k l0 a2 a1 a2) else (if a2 > (wrap64 ((IntKind.u64.wrap (wrap64 (a1 + a3))) / 2)) then (slices_symMergeCmpFunc_Item.j4 k l0 a1 a2 a3 a4 (wrap64 ((IntKind.u64.wrap (wrap64 (a1 + a3))) / 2)) (wrap64 ((wrap64 ((IntKind.u64.wrap (wrap64 (a1 + a3))) / 2)) + a2)) (wrap64 ((wrap64 ((wrap64 ((IntKind.u64.wrap (wrap64 (a1 + a3))) / 2)) + a2)) - a3)) (wrap64 ((IntKind.u64.wrap (wrap64 (a1 + a3))) / 2))) else (slices_symMergeCmpFunc_Item.j4 k l0 a1 a2 a3 a4 (wrap64 ((IntKind.u64.wrap (wrap64 (a1 + a3))) / 2)) (wrap64 ((wrap64 ((IntKind.u64.wrap (wrap64 (a1 + a3))) / 2)) + a2)) a1 a2)))
end
theorem slices_symMergeCmpFunc_Item.mono_l : ∀ k, (∀ y0 y1 y2 y3 y4, LeO (slices_symMergeCmpFunc_Item.f k y0 y1 y2 y3 y4) (slices_symMergeCmpFunc_Item.f (k + 1) y0 y1 y2 y3 y4)) ∧ (∀ y0 y1 y2 y3, LeO (slices_symMergeCmpFunc_Item.l0 k y0 y1 y2 y3) (slices_symMergeCmpFunc_Item.l0 (k + 1) y0 y1 y2 y3)) ∧ (∀ y0 y1 y2, LeO (slices_symMergeCmpFunc_Item.l1 k y0 y1 y2) (slices_symMergeCmpFunc_Item.l1 (k + 1) y0 y1 y2)) ∧ (∀ y0 y1 y2 y3, LeO (slices_symMergeCmpFunc_Item.l2 k y0 y1 y2 y3) (slices_symMergeCmpFunc_Item.l2 (k + 1) y0 y1 y2 y3)) ∧ (∀ y0 y1 y2, LeO (slices_symMergeCmpFunc_Item.l3 k y0 y1 y2) (slices_symMergeCmpFunc_Item.l3 (k + 1) y0 y1 y2)) ∧ (∀ y0 y1 y2 y3 y4 y5 y6 y7 y8, LeO (slices_symMergeCmpFunc_Item.j4 k y0 y1 y2 y3 y4 y5 y6 y7 y8) (slices_symMergeCmpFunc_Item.j4 (k + 1) y0 y1 y2 y3 y4 y5 y6 y7 y8)) ∧ (∀ y0 y1 y2 y3 y4 y5 y6 y7 y8 y9, LeO (slices_symMergeCmpFunc_Item.l4 k y0 y1 y2 y3 y4 y5 y6 y7 y8 y9) (slices_symMergeCmpFunc_Item.l4 (k + 1) y0 y1 y2 y3 y4 y5 y6 y7 y8 y9)) ∧ (∀ y0 y1 y2 y3 y4 y5 y6 y7 y8, LeO (slices_symMergeCmpFunc_Item.j6 k y0 y1 y2 y3 y4 y5 y6 y7 y8) (slices_symMergeCmpFunc_Item.j6 (k + 1) y0 y1 y2 y3 y4 y5 y6 y7 y8)) ∧ (∀ y0 y1 y2 y3 y4 y5 y6, LeO (slices_symMergeCmpFunc_Item.j7 k y0 y1 y2 y3 y4 y5 y6) (slices_symMergeCmpFunc_Item.j7 (k + 1) y0 y1 y2 y3 y4 y5 y6)) ∧ (∀ y0 y1 y2 y3 y4 y5 y6 y7, LeO (slices_symMergeCmpFunc_Item.j8 k y0 y1 y2 y3 y4 y5 y6 y7) (slices_symMergeCmpFunc_Item.j8 (k + 1) y0 y1 y2 y3 y4 y5 y6 y7))
 | 0 => ⟨fun _ _ _ _ _ r h => by simp [slices_symMergeCmpFunc_Item.f] at h, fun _ _ _ _ r h => by simp [slices_symMergeCmpFunc_Item.l0] at h, fun _ _ _ r h => by simp [slices_symMergeCmpFunc_Item.l1] at h, fun _ _ _ _ r h => by simp [slices_symMergeCmpFunc_Item.l2] at h, fun _ _ _ r h => by simp [slices_symMergeCmpFunc_Item.l3] at h, fun _ _ _ _ _ _ _ _ _ r h => by simp [slices_symMergeCmpFunc_Item.j4] at h, fun _ _ _ _ _ _ _ _ _ _ r h => by simp [slices_symMergeCmpFunc_Item.l4] at h, fun _ _ _ _ _ _ _ _ _ r h => by simp [slices_symMergeCmpFunc_Item.j6] at h, fun _ _ _ _ _ _ _ r h => by simp [slices_symMergeCmpFunc_Item.j7] at h, fun _ _ _ _ _ _ _ _ r h => by simp [slices_symMergeCmpFunc_Item.j8] at h⟩
 | k + 1 => by
  obtain ⟨ih0, ih1, ih2, ih3, ih4, ih5, ih6, ih7, ih8, ih9⟩ := slices_symMergeCmpFunc_Item.mono_l k
  refine ⟨?_, ?_, ?_, ?_, ?_, ?_, ?_, ?_, ?_, ?_⟩
  ·intro y0 y1 y2 y3 y4
   unfold slices_symMergeCmpFunc_Item.f
   exact mo_5
  ·intro y0 y1 y2 y3
   unfold slices_symMergeCmpFunc_Item.l0
   exact mo_5
  ·intro y0 y1 y2
   unfold slices_symMergeCmpFunc_Item.l1
   exact mo_5
  ·intro y0 y1 y2 y3
   unfold slices_symMergeCmpFunc_Item.l2
   exact mo_5
  ·intro y0 y1 y2
   unfold slices_symMergeCmpFunc_Item.l3
   exact mo_5
  ·intro y0 y1 y2 y3 y4 y5 y6 y7 y8
   unfold slices_symMergeCmpFunc_Item.j4
   exact mo_5
  ·intro y0 y1 y2 y3 y4 y5 y6 y7 y8 y9
   unfold slices_symMergeCmpFunc_Item.l4
   exact mo_5
  ·intro y0 y1 y2 y3 y4 y5 y6 y7 y8
   unfold slices_symMergeCmpFunc_Item.j6
   exact mo_5
  ·intro y0 y1 y2 y3 y4 y5 y6
   unfold slices_symMergeCmpFunc_Item.j7
   exact mo_5
  ·intro y0 y1 y2 y3 y4 y5 y6 y7
   unfold slices_symMergeCmpFunc_Item.j8
   exact mo_5
theorem slices_symMergeCmpFunc_Item.mono : ∀ a0 a1 a2 a3 a4 k, LeO (slices_symMergeCmpFunc_Item.f k a0 a1 a2 a3 a4) (slices_symMergeCmpFunc_Item.f (k + 1) a0 a1 a2 a3 a4) := by
 intro a0 a1 a2 a3 a4 k
 obtain ⟨ih0, ih1, ih2, ih3, ih4, ih5, ih6, ih7, ih8, ih9⟩ := slices_symMergeCmpFunc_Item.mono_l k
 exact ih0 a0 a1 a2 a3 a4
def slices_symMergeCmpFunc_Item.T5 : Bool × List (List Nat × List Nat) := (true, [([], []), ([], []), ([], []), ([1, 2], [1, 2]), ([3], [3]), ([], []), ([], []), ([5, 6], [5, 6]), ([7], [7]), ([0, 4, 8], [0, 4, 8]), ([9], [9])])
def slices_symMergeCmpFunc_Item.B5 : List Nat := [0, 0, 0, 6, 14, 0, 0, 96, 224, 511, 1023]
theorem slices_symMergeCmpFunc_Item.tab5 : rtab .any (opsOf Tryd.f43 5) = slices_symMergeCmpFunc_Item.T5 := by kernel_rfl
theorem slices_symMergeCmpFunc_Item.bits5 : waitsOk slices_symMergeCmpFunc_Item.T5.2 slices_symMergeCmpFunc_Item.B5 = true := by kernel_rfl
def slices_symMergeCmpFunc_Item.T11 : Bool × List (List Nat × List Nat) := (true, [([], []), ([], []), ([], []), ([], []), ([3], [3]), ([], []), ([], []), ([6], [6]), ([5, 7], [5, 7]), ([8], [8]), ([], []), ([], []), ([10, 11], [10, 11]), ([12], [12]), ([0, 1, 0, 1, 5, 6, 7, 8, 9, 13], [0, 1]), ([14, 9, 0, 1, 5, 6, 7, 8, 9, 13], [9, 14]), ([2, 4, 0, 1, 2, 3, 4, 5, 6, 7, 8, 9, 10, 11, 12, 13, 14, 15], [2, 4]), ([16, 13, 15, 0, 1, 2, 3, 4, 5, 6, 7, 8, 9, 10, 11, 12, 13, 14, 15], [13, 16])])
def slices_symMergeCmpFunc_Item.B11 : List Nat := [0, 0, 0, 0, 8, 0, 0, 64, 224, 480, 0, 0, 3072, 7168, 16355, 32739, 65535, 131071]
theorem slices_symMergeCmpFunc_Item.tab11 : rtab .any (opsOf Tryd.f43 11) = slices_symMergeCmpFunc_Item.T11 := by kernel_rfl
theorem slices_symMergeCmpFunc_Item.bits11 : waitsOk slices_symMergeCmpFunc_Item.T11.2 slices_symMergeCmpFunc_Item.B11 = true := by kernel_rfl
def slices_symMergeCmpFunc_Item.T17 : Bool × List (List Nat × List Nat) := (true, [([], []), ([], []), ([], []), ([1, 2], [1, 2]), ([3], [3]), ([], []), ([], []), ([5, 6], [5, 6]), ([7], [7]), ([0, 4, 8], [0, 4, 8]), ([9], [9]), ([10], [10])])
def slices_symMergeCmpFunc_Item.B17 : List Nat := [0, 0, 0, 6, 14, 0, 0, 96, 224, 511, 1023, 2047]
theorem slices_symMergeCmpFunc_Item.tab17 : rtab .any (opsOf Tryd.f43 17) = slices_symMergeCmpFunc_Item.T17 := by kernel_rfl
theorem slices_symMergeCmpFunc_Item.bits17 : waitsOk slices_symMergeCmpFunc_Item.T17.2 slices_symMergeCmpFunc_Item.B17 = true := by kernel_rfl
def slices_symMergeCmpFunc_Item.T23 : Bool × List (List Nat × List Nat) := (true, [([], []), ([], []), ([], []), ([], []), ([3], [3]), ([], []), ([], []), ([6], [6]), ([5, 7], [5, 7]), ([8], [8]), ([], []), ([], []), ([10, 11], [10, 11]), ([12], [12]), ([0, 1, 0, 1, 5, 6, 7, 8, 9, 13], [0, 1]), ([14, 9, 0, 1, 5, 6, 7, 8, 9, 13], [9, 14]), ([2, 4, 0, 1, 2, 3, 4, 5, 6, 7, 8, 9, 10, 11, 12, 13, 14, 15], [2, 4]), ([16, 13, 15, 0, 1, 2, 3, 4, 5, 6, 7, 8, 9, 10, 11, 12, 13, 14, 15], [13, 16])])
def slices_symMergeCmpFunc_Item.B23 : List Nat := [0, 0, 0, 0, 8, 0, 0, 64, 224, 480, 0, 0, 3072, 7168, 16355, 32739, 65535, 131071]
theorem slices_symMergeCmpFunc_Item.tab23 : rtab .any (opsOf Tryd.f43 23) = slices_symMergeCmpFunc_Item.T23 := by kernel_rfl
theorem slices_symMergeCmpFunc_Item.bits23 : waitsOk slices_symMergeCmpFunc_Item.T23.2 slices_symMergeCmpFunc_Item.B23 = true := by kernel_rfl
def slices_symMergeCmpFunc_Item.T35 : Bool × List (List Nat × List Nat) := (true, [([], []), ([], []), ([], []), ([], []), ([2, 3], [2, 3]), ([1, 4], [1, 4]), ([5], [5]), ([], []), ([], []), ([7, 8], [7, 8]), ([9], [9]), ([0, 6, 10], [0, 6, 10]), ([11], [11]), ([12], [12])])
def slices_symMergeCmpFunc_Item.B35 : List Nat := [0, 0, 0, 0, 12, 30, 62, 0, 0, 384, 896, 2047, 4095, 8191]
theorem slices_symMergeCmpFunc_Item.tab35 : rtab .any (opsOf Tryd.f43 35) = slices_symMergeCmpFunc_Item.T35 := by kernel_rfl
theorem slices_symMergeCmpFunc_Item.bits35 : waitsOk slices_symMergeCmpFunc_Item.T35.2 slices_symMergeCmpFunc_Item.B35 = true := by kernel_rfl
set_option maxHeartbeats 8000000 in
set_option maxRecDepth 100000 in
theorem slices_symMergeCmpFunc_Item.calls (k : Nat) : ∀ (P0_ : Nat → Prop) (u9000_ : Value) (l0 : List (S36)) (a1 : Int) (a2 : Int) (a3 : Int) (a4 : Unit) (r : List (S36)) (w0 w : World) (hB : Below w0.heap.size w0 w) (ho0 : Kd.R k36 36 w w0.heap.size P0_ u9000_ l0) (h : slices_symMergeCmpFunc_Item.f k l0 a1 a2 a3 a4 = some r),
  Calls Tryd.prog 43 #[u9000_, .int .i64 a1, .int .i64 a2, .int .i64 a3, .func (.func 17) #[] #[]] w fun e w' => e = .returned (.tuple #[]) ∧ Kd.R k36 36 w' w0.heap.size (fun k_ => (P0_ k_ ∨ w.heap.size ≤ k_)) u9000_ r ∧ Below w0.heap.size w0 w' ∧ Kept w w' (fun k_ => P0_ k_) := by
 induction k using Nat.strongRecOn with
 | _ k ih =>
 intro P0_ u9000_ l0 a1 a2 a3 a4 r w0 w hB ho0 h
 cases k with
 | zero => exact absurd h (by simp [slices_symMergeCmpFunc_Item.f])
 | succ k =>
 simp only [slices_symMergeCmpFunc_Item.f] at h
 have hu36 := Tryd.underlying36
 have HO0 := Aside0.mk (show Kd.R k36 36 w w0.heap.size (fun k_ => (P0_ k_ ∨ w.heap.size ≤ k_)) u9000_ l0 from Kd.R_mono ho0 (fun k_ hk => (.inl hk)))
 have HK := Aside0.mk (Kept.refl w (fun k_ => P0_ k_))
 have HW0 := Aside0.mk hB.size
 have HB := Aside0.mk hB
 clear hB
 have H := h
 clear h
 by_cases c6 : (wrap64 (a2 - a1)) = 1
 ·rw [if_pos c6] at H
  have c6b0 := beq_iff_eq.mpr c6
  have c6b1 := bne_eq_false_iff_eq.mpr c6
  clear c6
  have H' := Aside0.mk H
  clear H
  go_enter Tryd.func43, Tryd.ntmps43
  go_wp2
  go_loopg [10, 11] k (fun kq v10 v11 w' => ∃ (x10_1 : Int) (x11_1 : Int), v10 = .int .i64 x10_1 ∧ v11 = .int .i64 x11_1 ∧ Aside0 (slices_symMergeCmpFunc_Item.l0 kq l0 a1 x10_1 x11_1 = some r) ∧ Aside0 (kq ≤ k) ∧ Aside0 (Kd.R k36 36 w' w0.heap.size (fun k_ => (P0_ k_ ∨ w.heap.size ≤ k_)) u9000_ l0) ∧ Aside0 (Kept w w' (fun k_ => P0_ k_)) ∧ Aside0 (Below w0.heap.size w0 w'))
  case atStart => exact ⟨(a2), (a3), tq_4, tq_4, H', ⟨Nat.le_refl _⟩, ⟨(raR_ HO0)⟩, ⟨tq_0⟩, ⟨th_⟩⟩
  case round => as_aux_lemma =>
   clear H'
   try clear p2; try clear c4; try clear c6; try clear c6b0; try clear c6b1; try clear p6
   obtain ⟨x10_1, x11_1, rfl, rfl, HA, HK1, HO_0, HK, HB⟩ := hrel
   cases gk with
   | zero => exact absurd HA.out (by simp [slices_symMergeCmpFunc_Item.l0])
   | succ k1 =>
   have H := HA.out
   clear HA
   simp only [slices_symMergeCmpFunc_Item.l0] at H
   by_cases c7 : x10_1 < x11_1
   ·rw [if_pos c7] at H
    have c7b0 := decide_eq_true c7
    clear c7
    obtain ⟨ji8, hji8⟩ : ∃ j_ : Int, (wrap64 ((IntKind.u64.wrap (wrap64 (x10_1 + x11_1))) / 2)) = j_ := ⟨_, rfl⟩
    replace H : (if 0 ≤ (ji8) then (if (ji8) < (l0.length : Int) then (if 0 ≤ a1 then (if a1 < (l0.length : Int) then ((impl_MovedItems_1.f ((rd_T36 l0 (ji8)).f0) ((rd_T36 l0 (ji8)).f1) ((rd_T36 l0 (ji8)).f2) ((rd_T36 l0 a1).f0) ((rd_T36 l0 a1).f1) ((rd_T36 l0 a1).f2)).bind fun t259 => (if t259 < 0 then (slices_symMergeCmpFunc_Item.l0 k1 l0 a1 (wrap64 ((ji8) + 1)) x11_1) else (slices_symMergeCmpFunc_Item.l0 k1 l0 a1 x10_1 ji8))) else (none)) else (none)) else (none)) else (none)) = some r := by first | (rw [hji8] at H; exact H) | (simp only [hji8] at H ⊢; exact H)
    have hji8w : (IntKind.i64.wrap ((IntKind.u64.wrap (wrap64 (x10_1 + x11_1))) / 2)) = ji8 := (i64_w _).trans hji8
    obtain ⟨c9, H⟩ := fc_ H
    have c9b0 := decide_eq_true c9
    clear c9
    obtain ⟨c10, H⟩ := fc_ H
    have c10b0 := decide_eq_true c10
    clear c10
    obtain ⟨c11, H⟩ := fc_ H
    have c11b0 := decide_eq_true c11
    clear c11
    obtain ⟨c12, H⟩ := fc_ H
    have c12b0 := decide_eq_true c12
    clear c12
    obtain ⟨t259, A13, H⟩ := bd_ H
    have HC14 := Aside0.mk H
    clear H
    try go_wp2
    have z_ := p_ (Kd.R_drew HO_0.out) <| p_ (Kept.drew HK.out) <| a_ (below_drew1 HB.out)
    clear HO_0 HK HB
    obtain ⟨HO_0, HK, HB⟩ := z_
    obtain ⟨Ao16, co16, eo16⟩ := Kd.R_slice HO_0.out
    (first | subst eo16 | (injection eo16 with f1_ f2_ f3_; have f4_ := f1_.symm; have f5_ := f3_.symm; clear f1_ f2_ f3_; subst f4_; subst f5_))
    have p257 : 0 ≤ ((ji8) : Int) := of_decide_eq_true tq_1
    have q257 : (ji8) < (l0.length : Int) := of_decide_eq_true tq_1
    obtain ⟨ad257, e257, hx257_0, hx257_1, hx257_2⟩ := at_T36 (Kd.R_reads' HO_0.out).2.2 (ji8) p257 q257
    cases e257
    replace p257 := eq_true p257
    replace q257 := eq_true q257
    have p258 : 0 ≤ (a1 : Int) := of_decide_eq_true tq_1
    have q258 : a1 < (l0.length : Int) := of_decide_eq_true tq_1
    obtain ⟨ad258, e258, hx258_0, hx258_1, hx258_2⟩ := at_T36 (Kd.R_reads' HO_0.out).2.2 a1 p258 q258
    obtain rfl : ad257 = ad258 := (by injection e258)
    replace p258 := eq_true p258
    replace q258 := eq_true q258
    refine start_ (n := 11) (S := fun w' => w'.cell? (ad257.add (((ji8)).toNat * 3)) = some (.string ((rd_T36 l0 (ji8)).f0)) ∧ w'.cell? ⟨(ad257.add (((ji8)).toNat * 3)).block, (ad257.add (((ji8)).toNat * 3)).off + 1, none⟩ = some (.bool ((rd_T36 l0 (ji8)).f1)) ∧ w'.cell? ⟨(ad257.add (((ji8)).toNat * 3)).block, (ad257.add (((ji8)).toNat * 3)).off + 2, none⟩ = some (.string ((rd_T36 l0 (ji8)).f2)) ∧ w'.cell? (ad257.add ((a1).toNat * 3)) = some (.string ((rd_T36 l0 a1).f0)) ∧ w'.cell? ⟨(ad257.add ((a1).toNat * 3)).block, (ad257.add ((a1).toNat * 3)).off + 1, none⟩ = some (.bool ((rd_T36 l0 a1).f1)) ∧ w'.cell? ⟨(ad257.add ((a1).toNat * 3)).block, (ad257.add ((a1).toNat * 3)).off + 2, none⟩ = some (.string ((rd_T36 l0 a1).f2))) (ds := []) #[false, false, false, false, false, false, false, false, false, false, false] (by kernel_rfl) rfl rfl ⟨hx257_0, hx257_1, hx257_2, hx258_0, hx258_1, hx258_2⟩ (fun hHeld => ?_); refine with_tabW slices_symMergeCmpFunc_Item.tab5 slices_symMergeCmpFunc_Item.bits5 (fun HT_ HW_ => ?_)
    generalize wr.drew = w15 at HO_0 HK HB hx257_0 hx257_1 hx257_2 hx258_0 hx258_1 hx258_2 hHeld ⊢
    refine yr_ 0 40 #[true, false, false, false, false, false, false, false, false, false, false] HT_ ?_
    refine yr_ 1 41 #[true, true, false, false, false, false, false, false, false, false, false] HT_ ?_
    refine yr_ 2 42 #[true, true, true, false, false, false, false, false, false, false, false] HT_ ?_
    refine yr_ 3 43 #[true, true, true, true, false, false, false, false, false, false, false] HT_ ?_
    refine yr_ 5 45 #[true, true, true, true, false, true, false, false, false, false, false] HT_ ?_
    refine yr_ 6 46 #[true, true, true, true, false, true, true, false, false, false, false] HT_ ?_
    refine yr_ 7 47 #[true, true, true, true, false, true, true, true, false, false, false] HT_ ?_
    refine tr_ 4 44 #[true, true, true, true, true, true, true, true, false, false, false] HT_ HW_ hHeld ?_
    refine tr_ 8 48 #[true, true, true, true, true, true, true, true, true, false, false] HT_ HW_ hHeld ?_
    refine one_ (i := 9) (N := some 49) #[true, true, true, true, true, true, true, true, true, true, false] rfl rfl (one_of HT_.out (by kernel_rfl)) (by decide) (fun K hK => ?_)
    refine goesv_ Tryd.func17 (by kernel_rfl) rfl #[.agg #[.string ((rd_T36 l0 (ji8)).f0), .bool ((rd_T36 l0 (ji8)).f1), .string ((rd_T36 l0 (ji8)).f2)], .agg #[.string ((rd_T36 l0 a1).f0), .bool ((rd_T36 l0 a1).f1), .string ((rd_T36 l0 a1).f2)]] (by rfl) rfl rfl (by rfl) (by (try simp only [List.map_toArray, List.map_cons, List.map_nil]); first | done | (simp only [hji8]; rfl) | rfl | (simp only [List.length_drop, List.length_take]; rfl)) ?_
    with_reducible refine (impl_MovedItems_1.calls ((rd_T36 l0 (ji8)).f0) ((rd_T36 l0 (ji8)).f1) ((rd_T36 l0 (ji8)).f2) ((rd_T36 l0 a1).f0) ((rd_T36 l0 a1).f1) ((rd_T36 l0 a1).f2) t259 _ A13.out).mono ?_
    rintro e w17 ⟨rfl, hb⟩
    have HS0_ := (hb.cell (World.block_lt_of_cell? _ _ (hHeld.1))).trans (hHeld.1)
    have HS1_ := (hb.cell (World.block_lt_of_cell? _ _ (hHeld.2.1))).trans (hHeld.2.1)
    have HS2_ := (hb.cell (World.block_lt_of_cell? _ _ (hHeld.2.2.1))).trans (hHeld.2.2.1)
    have HS3_ := (hb.cell (World.block_lt_of_cell? _ _ (hHeld.2.2.2.1))).trans (hHeld.2.2.2.1)
    have HS4_ := (hb.cell (World.block_lt_of_cell? _ _ (hHeld.2.2.2.2.1))).trans (hHeld.2.2.2.2.1)
    have HS5_ := (hb.cell (World.block_lt_of_cell? _ _ (hHeld.2.2.2.2.2))).trans (hHeld.2.2.2.2.2)
    refine ⟨_, rfl, ?_⟩
    have z_ := p_ (Kd.R_below (raR_ HO_0) hb) <| p_ (Kept.below (S := (fun k_ => P0_ k_)) tq_0 hb) <| a_ (below_step th_ hb)
    clear HO_0 HK HB
    obtain ⟨HO_0, HK, HB⟩ := z_
    (try clear hb)
    refine hK.out _ _ ⟨HS0_, HS1_, HS2_, HS3_, HS4_, HS5_⟩ (fun hHeld => ?_)
    clear hK K
    refine nm_ (some 49) ?_
    refine yr_ 10 50 #[true, true, true, true, true, true, true, true, true, true, true] HT_ ?_
    refine done_ (done_of HT_.out (by kernel_rfl)) ?_
    go_upto_if 50 with (fail)
    (try clear hx257_0 hx257_1 hx257_2)
    (try clear hx258_0 hx258_1 hx258_2)
    have H := HC14.out
    clear HC14
    by_cases c18 : t259 < 0
    rotate_left
    ·rw [if_neg c18] at H
     have c18b0 := decide_eq_false c18
     clear c18
     (first | rw [c18b0] | (simp only [i64_w, i32_w]; rw [c18b0]) | skip)
     have H' := Aside0.mk H
     clear H
     go_wp2
     go_roundg k1
     case measure => have := HK1.out; omega
     case rel => exact ⟨(x10_1), (ji8), tq_4, (by first | rfl | (simp; done) | (simp only [← hji8] <;> (first | rfl | simp)) | (simp [*]; done)), H', ⟨tq_22⟩, ⟨(raR_ HO_0)⟩, ⟨tq_0⟩, ⟨th_⟩⟩
    rw [if_pos c18] at H
    have c18b0 := decide_eq_true c18
    clear c18
    (first | rw [c18b0] | (simp only [i64_w, i32_w]; rw [c18b0]) | skip)
    have H' := Aside0.mk H
    clear H
    go_wp2
    go_roundg k1
    case measure => have := HK1.out; omega
    case rel => exact ⟨(wrap64 ((ji8) + 1)), (x11_1), (by first | rfl | (simp; done) | (simp only [← hji8] <;> (first | rfl | simp)) | (simp [*]; done)), tq_4, H', ⟨tq_22⟩, ⟨(raR_ HO_0)⟩, ⟨tq_0⟩, ⟨th_⟩⟩
   rw [if_neg c7] at H
   have c7b0 := decide_eq_false c7
   clear c7
   have H' := Aside0.mk H
   clear H
   go_wp2
   go_loopg [13] k1 (fun kq v13 w' => ∃ (x0_2 : List (S36)) (x13_2 : Int), v13 = .int .i64 x13_2 ∧ Aside0 (slices_symMergeCmpFunc_Item.l1 kq x0_2 x10_1 x13_2 = some r) ∧ Aside0 (kq ≤ k1) ∧ Aside0 (Kd.R k36 36 w' w0.heap.size (fun k_ => (P0_ k_ ∨ w.heap.size ≤ k_)) u9000_ x0_2) ∧ Aside0 (Kept w w' (fun k_ => P0_ k_)) ∧ Aside0 (Below w0.heap.size w0 w'))
   case atStart => exact ⟨(l0), (a1), tq_4, H', ⟨Nat.le_refl _⟩, ⟨(raR_ HO_0)⟩, ⟨tq_0⟩, ⟨th_⟩⟩
   case round => as_aux_lemma =>
    clear H'
    try clear c1; try clear p2; try clear q2; try clear hx2; try clear c4; try clear c6; try clear c6b0; try clear c6b1; try clear p6; try clear c7; try clear c7b0; try clear c9; try clear c9b0; try clear c10; try clear c10b0; try clear c11; try clear c11b0; try clear c12; try clear c12b0; try clear c17; try clear c18; try clear c18b0; try clear hx257_0; try clear hx257_1; try clear hx257_2; try clear hx258_0; try clear hx258_1; try clear hx258_2; try clear p2; try clear p257; try clear p258; try clear p6; try clear q257; try clear q258
    obtain ⟨x0_2, x13_2, rfl, HA, HK2, HO_0, HK, HB⟩ := hrel
    cases gk with
    | zero => exact absurd HA.out (by simp [slices_symMergeCmpFunc_Item.l1])
    | succ k2 =>
    have H := HA.out
    clear HA
    simp only [slices_symMergeCmpFunc_Item.l1] at H
    by_cases c19 : x13_2 < (wrap64 (x10_1 - 1))
    rotate_left
    ·rw [if_neg c19] at H
     have c19b0 := decide_eq_false c19
     clear c19
     obtain rfl := Option.some.inj H
     go_wp2
     first | go_end0 | ((try simp only [Exit.inBlock, Exit.then]); refine bodyPost_ret (results_none rfl _ _ _) rfl ?_)
     exact ⟨tq_3, (raR_ HO_0), th_, tq_0⟩
    rw [if_pos c19] at H
    have c19b0 := decide_eq_true c19
    clear c19
    obtain ⟨ji20, hji20⟩ : ∃ j_ : Int, (wrap64 (x13_2 + 1)) = j_ := ⟨_, rfl⟩
    replace H : (if 0 ≤ (ji20) then (if (ji20) < (x0_2.length : Int) then (if 0 ≤ x13_2 then (if x13_2 < (x0_2.length : Int) then (slices_symMergeCmpFunc_Item.l1 k2 ((x0_2.set (x13_2 : Int).toNat (⟨(rd_T36 x0_2 (ji20)).f0, (rd_T36 x0_2 (ji20)).f1, (rd_T36 x0_2 (ji20)).f2⟩ : S36)).set ((ji20) : Int).toNat (⟨(rd_T36 x0_2 x13_2).f0, (rd_T36 x0_2 x13_2).f1, (rd_T36 x0_2 x13_2).f2⟩ : S36)) x10_1 ji20) else (none)) else (none)) else (none)) else (none)) = some r := by first | (rw [hji20] at H; exact H) | (simp only [hji20] at H ⊢; exact H)
    have hji20w : (IntKind.i64.wrap (x13_2 + 1)) = ji20 := (i64_w _).trans hji20
    obtain ⟨c21, H⟩ := fc_ H
    have c21b0 := decide_eq_true c21
    clear c21
    obtain ⟨c22, H⟩ := fc_ H
    have c22b0 := decide_eq_true c22
    clear c22
    obtain ⟨c23, H⟩ := fc_ H
    have c23b0 := decide_eq_true c23
    clear c23
    obtain ⟨c24, H⟩ := fc_ H
    have c24b0 := decide_eq_true c24
    clear c24
    obtain ⟨y262, hy262⟩ : ∃ y_ : List (S36), y_ = (x0_2.set (x13_2 : Int).toNat (⟨(rd_T36 x0_2 (ji20)).f0, (rd_T36 x0_2 (ji20)).f1, (rd_T36 x0_2 (ji20)).f2⟩ : S36)) := ⟨_, rfl⟩
    replace H : (slices_symMergeCmpFunc_Item.l1 k2 (y262.set ((ji20) : Int).toNat (⟨(rd_T36 x0_2 x13_2).f0, (rd_T36 x0_2 x13_2).f1, (rd_T36 x0_2 x13_2).f2⟩ : S36)) x10_1 ji20) = some r := by first | (rw [hy262]; with_reducible exact H) | (have H2_ := (Option.bind_some _ _).symm.trans H; rw [hy262]; with_reducible exact H2_) | (have H2_ := (Option.bind_some _ _).symm.trans H; with_reducible exact H2_) | with_reducible exact H | (rw [hy262]; exact H) | exact H
    have Ny262 := Aside0.mk hy262
    clear hy262
    obtain ⟨y263, hy263⟩ : ∃ y_ : List (S36), y_ = (y262.set ((ji20) : Int).toNat (⟨(rd_T36 x0_2 x13_2).f0, (rd_T36 x0_2 x13_2).f1, (rd_T36 x0_2 x13_2).f2⟩ : S36)) := ⟨_, rfl⟩
    replace H : (slices_symMergeCmpFunc_Item.l1 k2 y263 x10_1 ji20) = some r := by first | (rw [hy263]; with_reducible exact H) | (have H2_ := (Option.bind_some _ _).symm.trans H; rw [hy263]; with_reducible exact H2_) | (have H2_ := (Option.bind_some _ _).symm.trans H; with_reducible exact H2_) | with_reducible exact H | (rw [hy263]; exact H) | exact H
    have Ny263 := Aside0.mk hy263
    clear hy263
    have H' := Aside0.mk H
    clear H
    try go_wp2
    have z_ := p_ (Kd.R_drew HO_0.out) <| p_ (Kept.drew HK.out) <| a_ (below_drew1 HB.out)
    clear HO_0 HK HB
    obtain ⟨HO_0, HK, HB⟩ := z_
    obtain ⟨Ao28, co28, eo28⟩ := Kd.R_slice HO_0.out
    (first | subst eo28 | (injection eo28 with f1_ f2_ f3_; have f4_ := f1_.symm; have f5_ := f3_.symm; clear f1_ f2_ f3_; subst f4_; subst f5_))
    have p260 : 0 ≤ ((ji20) : Int) := of_decide_eq_true tq_1
    have q260 : (ji20) < (x0_2.length : Int) := of_decide_eq_true tq_1
    obtain ⟨ad260, e260, hx260_0, hx260_1, hx260_2⟩ := at_T36 (Kd.R_reads' HO_0.out).2.2 (ji20) p260 q260
    cases e260
    replace p260 := eq_true p260
    replace q260 := eq_true q260
    have p261 : 0 ≤ (x13_2 : Int) := of_decide_eq_true tq_1
    have q261 : x13_2 < (x0_2.length : Int) := of_decide_eq_true tq_1
    obtain ⟨ad261, e261, hx261_0, hx261_1, hx261_2⟩ := at_T36 (Kd.R_reads' HO_0.out).2.2 x13_2 p261 q261
    obtain rfl : ad260 = ad261 := (by injection e261)
    replace p261 := eq_true p261
    replace q261 := eq_true q261
    have p25 : 0 ≤ (x13_2 : Int) := of_decide_eq_true tq_1
    have q25 : (x13_2 : Int) < ((x0_2.length : Int) : Int) := of_decide_eq_true tq_1
    obtain ⟨go25, co25, eo25, gb25, gl25, cl25, HG25⟩ := Kd.R_form HO_0.out (by omega)
    (first | cases eo25 | (injection eo25 with ea_ en_ ec_; (first | subst ea_ | (injection ea_ with ea_; subst ea_)); subst ec_; clear en_))
    have GB25 := Aside0.mk gb25
    have GG25 := Aside0.mk HG25
    clear gb25 gl25 HG25
    have HMgo25 := Aside0.mk (show (P0_ go25 ∨ w.heap.size ≤ go25) from (HO_0.out.1 _ rfl))
    (first | simp only [add_plain] at hx260_0 | skip)
    (first | simp only [add_plain] at hx260_1 | skip)
    (first | simp only [add_plain] at hx260_2 | skip)
    (first | simp only [add_plain] at hx261_0 | skip)
    (first | simp only [add_plain] at hx261_1 | skip)
    (first | simp only [add_plain] at hx261_2 | skip)
    obtain ⟨ce25, hcl25, hM25, hcc25, hfr25⟩ := Kd.R_elem HO_0.out z36 (x13_2 : Int) p25 q25
    obtain rfl := k36_openM hM25
    have hx25_0 : World.cell? _ ⟨go25, (x13_2 : Int).toNat * 3, none⟩ = some (.string ((rd_T36 x0_2 x13_2).f0)) := hcc25 0 _ rfl
    have hx25_1 : World.cell? _ ⟨go25, (x13_2 : Int).toNat * 3 + 1, none⟩ = some (.bool ((rd_T36 x0_2 x13_2).f1)) := hcc25 1 _ rfl
    have hx25_2 : World.cell? _ ⟨go25, (x13_2 : Int).toNat * 3 + 2, none⟩ = some (.string ((rd_T36 x0_2 x13_2).f2)) := hcc25 2 _ rfl
    have hf25_0 : World.frozen? _ ⟨go25, (x13_2 : Int).toNat * 3, none⟩ = false := hfr25 0
    have hf25_1 : World.frozen? _ ⟨go25, (x13_2 : Int).toNat * 3 + 1, none⟩ = false := hfr25 1
    have hf25_2 : World.frozen? _ ⟨go25, (x13_2 : Int).toNat * 3 + 2, none⟩ = false := hfr25 2
    clear hcl25 hcc25 hfr25 hM25
    replace p25 := eq_true p25
    replace q25 := eq_true q25
    obtain ⟨ce29, hcl29, hM29, hcc29, hfr29⟩ := Kd.R_elem HO_0.out z36 (x13_2 : Int) (of_decide_eq_true tq_1) (by have h_ : (x13_2 : Int) < ((x0_2.length : Int) : Int) := of_decide_eq_true tq_1; first | exact h_ | (have e_ := (Kd.R_reads' HO_0.out).1; omega) | simpa using h_)
    obtain rfl := k36_openM hM29
    have HP29 := (Kd.R_seg HO_0.out (x13_2 : Int) (of_decide_eq_true tq_1) (by have h_ : (x13_2 : Int) < ((x0_2.length : Int) : Int) := of_decide_eq_true tq_1; first | exact h_ | (have e_ := (Kd.R_reads' HO_0.out).1; omega) | simpa using h_) (seg := [.string ((rd_T36 x0_2 (ji20)).f0), .bool ((rd_T36 x0_2 (ji20)).f1), .string ((rd_T36 x0_2 (ji20)).f2)]) (j := 0) hcl29 hcc29 (show 3 ≤ 3 from by decide) (x' := (⟨(rd_T36 x0_2 (ji20)).f0, (rd_T36 x0_2 (ji20)).f1, (rd_T36 x0_2 (ji20)).f2⟩ : S36)) (k36_mkM _ _ _ (⟨(rd_T36 x0_2 (ji20)).f0, (rd_T36 x0_2 (ji20)).f1, (rd_T36 x0_2 (ji20)).f2⟩ : S36) ) (fun _ hk => hk)).1
    rw [← Ny262.out] at HP29
    have HQ29 := Aside0.mk HP29
    clear hcl29 hcc29 hfr29 hM29 HP29
    have p26 : 0 ≤ ((ji20) : Int) := of_decide_eq_true tq_1
    have q26 : ((ji20) : Int) < ((x0_2.length : Int) : Int) := of_decide_eq_true tq_1
    obtain ⟨ce26, hcl26, hM26, hcc26, hfr26⟩ := Kd.R_elem HQ29.out z36 ((ji20) : Int) p26 q26
    obtain rfl := k36_openM hM26
    have hx26_0 : World.cell? _ ⟨go25, ((ji20) : Int).toNat * 3, none⟩ = some (.string ((rd_T36 y262 (ji20)).f0)) := hcc26 0 _ rfl
    have hx26_1 : World.cell? _ ⟨go25, ((ji20) : Int).toNat * 3 + 1, none⟩ = some (.bool ((rd_T36 y262 (ji20)).f1)) := hcc26 1 _ rfl
    have hx26_2 : World.cell? _ ⟨go25, ((ji20) : Int).toNat * 3 + 2, none⟩ = some (.string ((rd_T36 y262 (ji20)).f2)) := hcc26 2 _ rfl
    have hf26_0 : World.frozen? _ ⟨go25, ((ji20) : Int).toNat * 3, none⟩ = false := hfr26 0
    have hf26_1 : World.frozen? _ ⟨go25, ((ji20) : Int).toNat * 3 + 1, none⟩ = false := hfr26 1
    have hf26_2 : World.frozen? _ ⟨go25, ((ji20) : Int).toNat * 3 + 2, none⟩ = false := hfr26 2
    clear hcl26 hcc26 hfr26 hM26
    replace p26 := eq_true p26
    replace q26 := eq_true q26
    obtain ⟨ce30, hcl30, hM30, hcc30, hfr30⟩ := Kd.R_elem HQ29.out z36 ((ji20) : Int) (of_decide_eq_true tq_1) (by have h_ : ((ji20) : Int) < ((x0_2.length : Int) : Int) := of_decide_eq_true tq_1; first | exact h_ | (have e_ := (Kd.R_reads' HO_0.out).1; omega) | simpa using h_)
    obtain rfl := k36_openM hM30
    have HP30 := (Kd.R_seg HQ29.out ((ji20) : Int) (of_decide_eq_true tq_1) (by have h_ : ((ji20) : Int) < ((x0_2.length : Int) : Int) := of_decide_eq_true tq_1; first | exact h_ | (have e_ := (Kd.R_reads' HO_0.out).1; omega) | simpa using h_) (seg := [.string ((rd_T36 x0_2 x13_2).f0), .bool ((rd_T36 x0_2 x13_2).f1), .string ((rd_T36 x0_2 x13_2).f2)]) (j := 0) hcl30 hcc30 (show 3 ≤ 3 from by decide) (x' := (⟨(rd_T36 x0_2 x13_2).f0, (rd_T36 x0_2 x13_2).f1, (rd_T36 x0_2 x13_2).f2⟩ : S36)) (k36_mkM _ _ _ (⟨(rd_T36 x0_2 x13_2).f0, (rd_T36 x0_2 x13_2).f1, (rd_T36 x0_2 x13_2).f2⟩ : S36) ) (fun _ hk => hk)).1
    rw [← Ny263.out] at HP30
    have HQ30 := Aside0.mk HP30
    clear hcl30 hcc30 hfr30 hM30 HP30
    refine start_ (n := 18) (S := fun w' => w'.cell? ⟨go25, ((ji20)).toNat * 3, none⟩ = some (.string ((rd_T36 x0_2 (ji20)).f0)) ∧ w'.cell? ⟨go25, ((ji20)).toNat * 3 + 1, none⟩ = some (.bool ((rd_T36 x0_2 (ji20)).f1)) ∧ w'.cell? ⟨go25, ((ji20)).toNat * 3 + 2, none⟩ = some (.string ((rd_T36 x0_2 (ji20)).f2)) ∧ w'.cell? ⟨go25, ((x13_2).toNat * 3), none⟩ = some (.string ((rd_T36 x0_2 x13_2).f0)) ∧ w'.cell? ⟨go25, ((x13_2).toNat * 3) + 1, none⟩ = some (.bool ((rd_T36 x0_2 x13_2).f1)) ∧ w'.cell? ⟨go25, ((x13_2).toNat * 3) + 2, none⟩ = some (.string ((rd_T36 x0_2 x13_2).f2))) (ds := [15, 17]) bq_15 (by kernel_rfl) rfl rfl ⟨hx260_0, hx260_1, hx260_2, hx261_0, hx261_1, hx261_2⟩ (fun hHeld => ?_); refine with_tabW slices_symMergeCmpFunc_Item.tab11 slices_symMergeCmpFunc_Item.bits11 (fun HT_ HW_ => ?_)
    generalize wr.drew = w27 at HO_0 HK HB GG25 HQ29 HQ30 hf25_0 hf25_1 hf25_2 hf26_0 hf26_1 hf26_2 hx25_0 hx25_1 hx25_2 hx260_0 hx260_1 hx260_2 hx261_0 hx261_1 hx261_2 hx26_0 hx26_1 hx26_2 hHeld ⊢
    refine yr_ 0 61 bq_16 HT_ ?_
    refine yr_ 1 62 bq_17 HT_ ?_
    refine yr_ 2 63 bq_18 HT_ ?_
    refine yr_ 3 64 bq_19 HT_ ?_
    refine yr_ 4 65 bq_20 HT_ ?_
    refine yr_ 5 66 bq_21 HT_ ?_
    refine yr_ 6 67 bq_22 HT_ ?_
    refine yr_ 7 68 bq_23 HT_ ?_
    refine yr_ 8 69 bq_24 HT_ ?_
    refine yr_ 10 71 bq_25 HT_ ?_
    refine yr_ 11 72 bq_26 HT_ ?_
    refine yr_ 12 73 bq_27 HT_ ?_
    refine tr_ 9 70 bq_28 HT_ HW_ hHeld ?_
    refine tr_ 13 74 bq_29 HT_ HW_ hHeld ?_
    refine yr_ 14 75 bq_30 HT_ ?_
    refine last_ (i := 15) (N := none) bq_31 rfl rfl (one_of HT_.out (by kernel_rfl)) (by decide) (fun K hK => ?_)
    refine skip_ (w1 := ?_) (by rfl) rfl ?_ ?_
    rotate_left
    ·go_simp
     rfl
    refine hK.out _ _ ?_
    clear hK K
    refine yr_ 16 76 bq_32 HT_ ?_
    refine last_ (i := 17) (N := none) bq_33 rfl rfl (one_of HT_.out (by kernel_rfl)) (by decide) (fun K hK => ?_)
    refine skip_ (w1 := ?_) (by rfl) rfl ?_ ?_
    rotate_left
    ·obtain ⟨ceS, hclS, hMS, hccS, hfrS⟩ := Kd.R_elem HO_0.out z36 ((ji20) : Int) (of_eq_true p26) (of_eq_true q26)
     obtain rfl := k36_openM hMS
     have gS_0 : World.frozen? _ ⟨go25, ((ji20) : Int).toNat * 3, none⟩ = false := hfrS 0
     have tS_0 : World.cell? _ ⟨go25, ((ji20) : Int).toNat * 3, none⟩ = some _ := hccS 0 _ rfl
     obtain ⟨_, fS_0_0⟩ := cell?_setCell_some (p := ⟨go25, (x13_2 : Int).toNat * 3, none⟩) (x := .string ((rd_T36 x0_2 (ji20)).f0)) tS_0
     have gS_1 : World.frozen? _ ⟨go25, ((ji20) : Int).toNat * 3 + 1, none⟩ = false := hfrS 1
     have tS_1 : World.cell? _ ⟨go25, ((ji20) : Int).toNat * 3 + 1, none⟩ = some _ := hccS 1 _ rfl
     obtain ⟨_, fS_1_0⟩ := cell?_setCell_some (p := ⟨go25, (x13_2 : Int).toNat * 3, none⟩) (x := .string ((rd_T36 x0_2 (ji20)).f0)) tS_1
     obtain ⟨_, fS_1_1⟩ := cell?_setCell_some (p := ⟨go25, (x13_2 : Int).toNat * 3 + 1, none⟩) (x := .bool ((rd_T36 x0_2 (ji20)).f1)) fS_1_0
     have gS_2 : World.frozen? _ ⟨go25, ((ji20) : Int).toNat * 3 + 2, none⟩ = false := hfrS 2
     have tS_2 : World.cell? _ ⟨go25, ((ji20) : Int).toNat * 3 + 2, none⟩ = some _ := hccS 2 _ rfl
     obtain ⟨_, fS_2_0⟩ := cell?_setCell_some (p := ⟨go25, (x13_2 : Int).toNat * 3, none⟩) (x := .string ((rd_T36 x0_2 (ji20)).f0)) tS_2
     obtain ⟨_, fS_2_1⟩ := cell?_setCell_some (p := ⟨go25, (x13_2 : Int).toNat * 3 + 1, none⟩) (x := .bool ((rd_T36 x0_2 (ji20)).f1)) fS_2_0
     obtain ⟨_, fS_2_2⟩ := cell?_setCell_some (p := ⟨go25, (x13_2 : Int).toNat * 3 + 2, none⟩) (x := .string ((rd_T36 x0_2 (ji20)).f2)) fS_2_1
     go_simp
     rfl
    refine hK.out _ _ ?_
    clear hK K
    refine done_ (done_of HT_.out (by kernel_rfl)) ?_
    try go_wp2
    go_roundg k2
    case measure => have := HK1.out; have := HK2.out; omega
    case rel => exact ⟨(y263), (ji20), (by first | rfl | (simp; done) | (simp only [← hji20] <;> (first | rfl | simp)) | (simp [*]; done)), H', ⟨tq_51⟩, ⟨(raR_ HQ30)⟩, ⟨(by repeat (first | (with_reducible first | exact HK.out | apply Kept.alloc | apply Kept.drewN | apply Kept.drew | refine Kept.setCell ?_ HMgo25.out _ | refine Kept.setCell ?_ HMgo25.out _ | refine Kept.setCell ?_ HMgo25.out _ | refine Kept.setCell ?_ HMgo25.out _ | refine Kept.setCell ?_ HMgo25.out _ | refine Kept.setCell ?_ HMgo25.out _) | exact HK.out))⟩, ⟨(by repeat (first | (with_reducible first | exact HB.out | apply below_alloc | apply pw_below_drewN | apply below_drew1 | refine below_set ?_ GB25.out | refine below_set ?_ GB25.out | refine below_set ?_ GB25.out | refine below_set ?_ GB25.out | refine below_set ?_ GB25.out | refine below_set ?_ GB25.out) | exact HB.out))⟩⟩
 rw [if_neg c6] at H
 have c6b0 := beq_eq_false_iff_ne.mpr c6
 have c6b1 := bne_iff_ne.mpr c6
 by_cases c31 : (wrap64 (a3 - a2)) = 1
 ·rw [if_pos c31] at H
  have c31b0 := beq_iff_eq.mpr c31
  have c31b1 := bne_eq_false_iff_eq.mpr c31
  clear c31
  have H' := Aside0.mk H
  clear H
  go_enter Tryd.func43, Tryd.ntmps43
  go_wp2
  go_loopg [14, 15] k (fun kq v14 v15 w' => ∃ (x14_1 : Int) (x15_1 : Int), v14 = .int .i64 x14_1 ∧ v15 = .int .i64 x15_1 ∧ Aside0 (slices_symMergeCmpFunc_Item.l2 kq l0 a2 x14_1 x15_1 = some r) ∧ Aside0 (kq ≤ k) ∧ Aside0 (Kd.R k36 36 w' w0.heap.size (fun k_ => (P0_ k_ ∨ w.heap.size ≤ k_)) u9000_ l0) ∧ Aside0 (Kept w w' (fun k_ => P0_ k_)) ∧ Aside0 (Below w0.heap.size w0 w'))
  case atStart => exact ⟨(a1), (a2), tq_4, tq_4, H', ⟨Nat.le_refl _⟩, ⟨(raR_ HO0)⟩, ⟨tq_0⟩, ⟨th_⟩⟩
  case round => as_aux_lemma =>
   clear H'
   try clear c1; try clear c2; try clear p2; try clear q2; try clear hx2; try clear c3; try clear c4; try clear c6; try clear c6b0; try clear c6b1; try clear p6; try clear c7; try clear c7b0; try clear c9; try clear c9b0; try clear c10; try clear c10b0; try clear c11; try clear c11b0; try clear c12; try clear c12b0; try clear c17; try clear c18; try clear c18b0; try clear c19; try clear c19b0; try clear c21; try clear c21b0; try clear c22; try clear c22b0; try clear c23; try clear c23b0; try clear c24; try clear c24b0; try clear c25; try clear p25; try clear q25; try clear hx25; try clear hf25; try clear c26; try clear p26; try clear q26; try clear hx26; try clear hf26; try clear c29; try clear c30; try clear c31; try clear c31b0; try clear c31b1; try clear hx257_0; try clear hx257_1; try clear hx257_2; try clear hx258_0; try clear hx258_1; try clear hx258_2; try clear hx25_0; try clear hx25_1; try clear hx25_2; try clear hx260_0; try clear hx260_1; try clear hx260_2; try clear hx261_0; try clear hx261_1; try clear hx261_2; try clear hx26_0; try clear hx26_1; try clear hx26_2; try clear p2; try clear p25; try clear p257; try clear p258; try clear p26; try clear p260; try clear p261; try clear p6; try clear q2; try clear q25; try clear q257; try clear q258; try clear q26; try clear q260; try clear q261
   obtain ⟨x14_1, x15_1, rfl, rfl, HA, HK1, HO_0, HK, HB⟩ := hrel
   cases gk with
   | zero => exact absurd HA.out (by simp [slices_symMergeCmpFunc_Item.l2])
   | succ k1 =>
   have H := HA.out
   clear HA
   simp only [slices_symMergeCmpFunc_Item.l2] at H
   by_cases c32 : x14_1 < x15_1
   ·rw [if_pos c32] at H
    have c32b0 := decide_eq_true c32
    clear c32
    obtain ⟨c33, H⟩ := fc_ H
    have c33b0 := decide_eq_true c33
    clear c33
    obtain ⟨c34, H⟩ := fc_ H
    have c34b0 := decide_eq_true c34
    clear c34
    obtain ⟨ji35, hji35⟩ : ∃ j_ : Int, (wrap64 ((IntKind.u64.wrap (wrap64 (x14_1 + x15_1))) / 2)) = j_ := ⟨_, rfl⟩
    replace H : (if 0 ≤ (ji35) then (if (ji35) < (l0.length : Int) then ((impl_MovedItems_1.f ((rd_T36 l0 a2).f0) ((rd_T36 l0 a2).f1) ((rd_T36 l0 a2).f2) ((rd_T36 l0 (ji35)).f0) ((rd_T36 l0 (ji35)).f1) ((rd_T36 l0 (ji35)).f2)).bind fun t266 => (if t266 < 0 then (slices_symMergeCmpFunc_Item.l2 k1 l0 a2 x14_1 ji35) else (slices_symMergeCmpFunc_Item.l2 k1 l0 a2 (wrap64 ((ji35) + 1)) x15_1))) else (none)) else (none)) = some r := by first | (rw [hji35] at H; exact H) | (simp only [hji35] at H ⊢; exact H)
    have hji35w : (IntKind.i64.wrap ((IntKind.u64.wrap (wrap64 (x14_1 + x15_1))) / 2)) = ji35 := (i64_w _).trans hji35
    obtain ⟨c36, H⟩ := fc_ H
    have c36b0 := decide_eq_true c36
    clear c36
    obtain ⟨c37, H⟩ := fc_ H
    have c37b0 := decide_eq_true c37
    clear c37
    obtain ⟨t266, A38, H⟩ := bd_ H
    have HC39 := Aside0.mk H
    clear H
    try go_wp2
    have z_ := p_ (Kd.R_drew HO_0.out) <| p_ (Kept.drew HK.out) <| a_ (below_drew1 HB.out)
    clear HO_0 HK HB
    obtain ⟨HO_0, HK, HB⟩ := z_
    obtain ⟨Ao41, co41, eo41⟩ := Kd.R_slice HO_0.out
    (first | subst eo41 | (injection eo41 with f1_ f2_ f3_; have f4_ := f1_.symm; have f5_ := f3_.symm; clear f1_ f2_ f3_; subst f4_; subst f5_))
    have p264 : 0 ≤ (a2 : Int) := of_decide_eq_true tq_1
    have q264 : a2 < (l0.length : Int) := of_decide_eq_true tq_1
    obtain ⟨ad264, e264, hx264_0, hx264_1, hx264_2⟩ := at_T36 (Kd.R_reads' HO_0.out).2.2 a2 p264 q264
    cases e264
    replace p264 := eq_true p264
    replace q264 := eq_true q264
    have p265 : 0 ≤ ((ji35) : Int) := of_decide_eq_true tq_1
    have q265 : (ji35) < (l0.length : Int) := of_decide_eq_true tq_1
    obtain ⟨ad265, e265, hx265_0, hx265_1, hx265_2⟩ := at_T36 (Kd.R_reads' HO_0.out).2.2 (ji35) p265 q265
    obtain rfl : ad264 = ad265 := (by injection e265)
    replace p265 := eq_true p265
    replace q265 := eq_true q265
    refine start_ (n := 12) (S := fun w' => w'.cell? (ad264.add ((a2).toNat * 3)) = some (.string ((rd_T36 l0 a2).f0)) ∧ w'.cell? ⟨(ad264.add ((a2).toNat * 3)).block, (ad264.add ((a2).toNat * 3)).off + 1, none⟩ = some (.bool ((rd_T36 l0 a2).f1)) ∧ w'.cell? ⟨(ad264.add ((a2).toNat * 3)).block, (ad264.add ((a2).toNat * 3)).off + 2, none⟩ = some (.string ((rd_T36 l0 a2).f2)) ∧ w'.cell? (ad264.add (((ji35)).toNat * 3)) = some (.string ((rd_T36 l0 (ji35)).f0)) ∧ w'.cell? ⟨(ad264.add (((ji35)).toNat * 3)).block, (ad264.add (((ji35)).toNat * 3)).off + 1, none⟩ = some (.bool ((rd_T36 l0 (ji35)).f1)) ∧ w'.cell? ⟨(ad264.add (((ji35)).toNat * 3)).block, (ad264.add (((ji35)).toNat * 3)).off + 2, none⟩ = some (.string ((rd_T36 l0 (ji35)).f2))) (ds := []) #[false, false, false, false, false, false, false, false, false, false, false, false] (by kernel_rfl) rfl rfl ⟨hx264_0, hx264_1, hx264_2, hx265_0, hx265_1, hx265_2⟩ (fun hHeld => ?_); refine with_tabW slices_symMergeCmpFunc_Item.tab17 slices_symMergeCmpFunc_Item.bits17 (fun HT_ HW_ => ?_)
    generalize wr.drew = w40 at HO_0 HK HB hx264_0 hx264_1 hx264_2 hx265_0 hx265_1 hx265_2 hHeld ⊢
    refine yr_ 0 92 #[true, false, false, false, false, false, false, false, false, false, false, false] HT_ ?_
    refine yr_ 1 93 #[true, true, false, false, false, false, false, false, false, false, false, false] HT_ ?_
    refine yr_ 2 94 #[true, true, true, false, false, false, false, false, false, false, false, false] HT_ ?_
    refine yr_ 3 95 #[true, true, true, true, false, false, false, false, false, false, false, false] HT_ ?_
    refine yr_ 5 97 #[true, true, true, true, false, true, false, false, false, false, false, false] HT_ ?_
    refine yr_ 6 98 #[true, true, true, true, false, true, true, false, false, false, false, false] HT_ ?_
    refine yr_ 7 99 #[true, true, true, true, false, true, true, true, false, false, false, false] HT_ ?_
    refine tr_ 4 96 #[true, true, true, true, true, true, true, true, false, false, false, false] HT_ HW_ hHeld ?_
    refine tr_ 8 100 #[true, true, true, true, true, true, true, true, true, false, false, false] HT_ HW_ hHeld ?_
    refine one_ (i := 9) (N := some 101) #[true, true, true, true, true, true, true, true, true, true, false, false] rfl rfl (one_of HT_.out (by kernel_rfl)) (by decide) (fun K hK => ?_)
    refine goesv_ Tryd.func17 (by kernel_rfl) rfl #[.agg #[.string ((rd_T36 l0 a2).f0), .bool ((rd_T36 l0 a2).f1), .string ((rd_T36 l0 a2).f2)], .agg #[.string ((rd_T36 l0 (ji35)).f0), .bool ((rd_T36 l0 (ji35)).f1), .string ((rd_T36 l0 (ji35)).f2)]] (by rfl) rfl rfl (by rfl) (by (try simp only [List.map_toArray, List.map_cons, List.map_nil]); first | done | (simp only [hji35]; rfl) | rfl | (simp only [List.length_drop, List.length_take]; rfl)) ?_
    with_reducible refine (impl_MovedItems_1.calls ((rd_T36 l0 a2).f0) ((rd_T36 l0 a2).f1) ((rd_T36 l0 a2).f2) ((rd_T36 l0 (ji35)).f0) ((rd_T36 l0 (ji35)).f1) ((rd_T36 l0 (ji35)).f2) t266 _ A38.out).mono ?_
    rintro e w42 ⟨rfl, hb⟩
    have HS0_ := (hb.cell (World.block_lt_of_cell? _ _ (hHeld.1))).trans (hHeld.1)
    have HS1_ := (hb.cell (World.block_lt_of_cell? _ _ (hHeld.2.1))).trans (hHeld.2.1)
    have HS2_ := (hb.cell (World.block_lt_of_cell? _ _ (hHeld.2.2.1))).trans (hHeld.2.2.1)
    have HS3_ := (hb.cell (World.block_lt_of_cell? _ _ (hHeld.2.2.2.1))).trans (hHeld.2.2.2.1)
    have HS4_ := (hb.cell (World.block_lt_of_cell? _ _ (hHeld.2.2.2.2.1))).trans (hHeld.2.2.2.2.1)
    have HS5_ := (hb.cell (World.block_lt_of_cell? _ _ (hHeld.2.2.2.2.2))).trans (hHeld.2.2.2.2.2)
    refine ⟨_, rfl, ?_⟩
    have z_ := p_ (Kd.R_below (raR_ HO_0) hb) <| p_ (Kept.below (S := (fun k_ => P0_ k_)) tq_0 hb) <| a_ (below_step th_ hb)
    clear HO_0 HK HB
    obtain ⟨HO_0, HK, HB⟩ := z_
    (try clear hb)
    refine hK.out _ _ ⟨HS0_, HS1_, HS2_, HS3_, HS4_, HS5_⟩ (fun hHeld => ?_)
    clear hK K
    refine nm_ (some 101) ?_
    refine yr_ 10 102 #[true, true, true, true, true, true, true, true, true, true, true, false] HT_ ?_
    refine yr_ 11 103 #[true, true, true, true, true, true, true, true, true, true, true, true] HT_ ?_
    refine done_ (done_of HT_.out (by kernel_rfl)) ?_
    go_upto_if 103 with (fail)
    (try clear hx264_0 hx264_1 hx264_2)
    (try clear hx265_0 hx265_1 hx265_2)
    have H := HC39.out
    clear HC39
    by_cases c43 : t266 < 0
    ·rw [if_pos c43] at H
     have c43b0 := decide_eq_true c43
     clear c43
     (first | rw [c43b0] | (simp only [i64_w, i32_w]; rw [c43b0]) | skip)
     have H' := Aside0.mk H
     clear H
     go_wp2
     go_roundg k1
     case measure => have := HK1.out; omega
     case rel => exact ⟨(x14_1), (ji35), tq_4, (by first | rfl | (simp; done) | (simp only [← hji35] <;> (first | rfl | simp)) | (simp [*]; done)), H', ⟨tq_22⟩, ⟨(raR_ HO_0)⟩, ⟨tq_0⟩, ⟨th_⟩⟩
    rw [if_neg c43] at H
    have c43b0 := decide_eq_false c43
    clear c43
    (first | rw [c43b0] | (simp only [i64_w, i32_w]; rw [c43b0]) | skip)
    have H' := Aside0.mk H
    clear H
    go_wp2
    go_roundg k1
    case measure => have := HK1.out; omega
    case rel => exact ⟨(wrap64 ((ji35) + 1)), (x15_1), (by first | rfl | (simp; done) | (simp only [← hji35] <;> (first | rfl | simp)) | (simp [*]; done)), tq_4, H', ⟨tq_22⟩, ⟨(raR_ HO_0)⟩, ⟨tq_0⟩, ⟨th_⟩⟩
   rw [if_neg c32] at H
   have c32b0 := decide_eq_false c32
   clear c32
   have H' := Aside0.mk H
   clear H
   go_wp2
   go_loopg [17] k1 (fun kq v17 w' => ∃ (x0_2 : List (S36)) (x17_2 : Int), v17 = .int .i64 x17_2 ∧ Aside0 (slices_symMergeCmpFunc_Item.l3 kq x0_2 x14_1 x17_2 = some r) ∧ Aside0 (kq ≤ k1) ∧ Aside0 (Kd.R k36 36 w' w0.heap.size (fun k_ => (P0_ k_ ∨ w.heap.size ≤ k_)) u9000_ x0_2) ∧ Aside0 (Kept w w' (fun k_ => P0_ k_)) ∧ Aside0 (Below w0.heap.size w0 w'))
   case atStart => exact ⟨(l0), (a2), tq_4, H', ⟨Nat.le_refl _⟩, ⟨(raR_ HO_0)⟩, ⟨tq_0⟩, ⟨th_⟩⟩
   case round => as_aux_lemma =>
    clear H'
    try clear c1; try clear c2; try clear p2; try clear q2; try clear hx2; try clear c3; try clear c4; try clear c6; try clear c6b0; try clear c6b1; try clear p6; try clear c7; try clear c7b0; try clear c9; try clear c9b0; try clear c10; try clear c10b0; try clear c11; try clear c11b0; try clear c12; try clear c12b0; try clear c17; try clear c18; try clear c18b0; try clear c19; try clear c19b0; try clear c21; try clear c21b0; try clear c22; try clear c22b0; try clear c23; try clear c23b0; try clear c24; try clear c24b0; try clear c25; try clear p25; try clear q25; try clear hx25; try clear hf25; try clear c26; try clear p26; try clear q26; try clear hx26; try clear hf26; try clear c29; try clear c30; try clear c31; try clear c31b0; try clear c31b1; try clear c32; try clear c32b0; try clear c33; try clear c33b0; try clear c34; try clear c34b0; try clear c36; try clear c36b0; try clear c37; try clear c37b0; try clear c43; try clear c43b0; try clear hx257_0; try clear hx257_1; try clear hx257_2; try clear hx258_0; try clear hx258_1; try clear hx258_2; try clear hx25_0; try clear hx25_1; try clear hx25_2; try clear hx260_0; try clear hx260_1; try clear hx260_2; try clear hx261_0; try clear hx261_1; try clear hx261_2; try clear hx264_0; try clear hx264_1; try clear hx264_2; try clear hx265_0; try clear hx265_1; try clear hx265_2; try clear hx26_0; try clear hx26_1; try clear hx26_2; try clear p2; try clear p25; try clear p257; try clear p258; try clear p26; try clear p260; try clear p261; try clear p264; try clear p265; try clear p6; try clear q2; try clear q25; try clear q257; try clear q258; try clear q26; try clear q260; try clear q261; try clear q264; try clear q265
    obtain ⟨x0_2, x17_2, rfl, HA, HK2, HO_0, HK, HB⟩ := hrel
    cases gk with
    | zero => exact absurd HA.out (by simp [slices_symMergeCmpFunc_Item.l3])
    | succ k2 =>
    have H := HA.out
    clear HA
    simp only [slices_symMergeCmpFunc_Item.l3] at H
    by_cases c44 : x17_2 > x14_1
    rotate_left
    ·rw [if_neg c44] at H
     have c44b0 := decide_eq_false c44
     clear c44
     obtain rfl := Option.some.inj H
     go_wp2
     first | go_end0 | ((try simp only [Exit.inBlock, Exit.then]); refine bodyPost_ret (results_none rfl _ _ _) rfl ?_)
     exact ⟨tq_3, (raR_ HO_0), th_, tq_0⟩
    rw [if_pos c44] at H
    have c44b0 := decide_eq_true c44
    clear c44
    obtain ⟨ji45, hji45⟩ : ∃ j_ : Int, (wrap64 (x17_2 - 1)) = j_ := ⟨_, rfl⟩
    replace H : (if 0 ≤ (ji45) then (if (ji45) < (x0_2.length : Int) then (if 0 ≤ x17_2 then (if x17_2 < (x0_2.length : Int) then (slices_symMergeCmpFunc_Item.l3 k2 ((x0_2.set (x17_2 : Int).toNat (⟨(rd_T36 x0_2 (ji45)).f0, (rd_T36 x0_2 (ji45)).f1, (rd_T36 x0_2 (ji45)).f2⟩ : S36)).set ((ji45) : Int).toNat (⟨(rd_T36 x0_2 x17_2).f0, (rd_T36 x0_2 x17_2).f1, (rd_T36 x0_2 x17_2).f2⟩ : S36)) x14_1 ji45) else (none)) else (none)) else (none)) else (none)) = some r := by first | (rw [hji45] at H; exact H) | (simp only [hji45] at H ⊢; exact H)
    have hji45w : (IntKind.i64.wrap (x17_2 - 1)) = ji45 := (i64_w _).trans hji45
    obtain ⟨c46, H⟩ := fc_ H
    have c46b0 := decide_eq_true c46
    clear c46
    obtain ⟨c47, H⟩ := fc_ H
    have c47b0 := decide_eq_true c47
    clear c47
    obtain ⟨c48, H⟩ := fc_ H
    have c48b0 := decide_eq_true c48
    clear c48
    obtain ⟨c49, H⟩ := fc_ H
    have c49b0 := decide_eq_true c49
    clear c49
    obtain ⟨y269, hy269⟩ : ∃ y_ : List (S36), y_ = (x0_2.set (x17_2 : Int).toNat (⟨(rd_T36 x0_2 (ji45)).f0, (rd_T36 x0_2 (ji45)).f1, (rd_T36 x0_2 (ji45)).f2⟩ : S36)) := ⟨_, rfl⟩
    replace H : (slices_symMergeCmpFunc_Item.l3 k2 (y269.set ((ji45) : Int).toNat (⟨(rd_T36 x0_2 x17_2).f0, (rd_T36 x0_2 x17_2).f1, (rd_T36 x0_2 x17_2).f2⟩ : S36)) x14_1 ji45) = some r := by first | (rw [hy269]; with_reducible exact H) | (have H2_ := (Option.bind_some _ _).symm.trans H; rw [hy269]; with_reducible exact H2_) | (have H2_ := (Option.bind_some _ _).symm.trans H; with_reducible exact H2_) | with_reducible exact H | (rw [hy269]; exact H) | exact H
    have Ny269 := Aside0.mk hy269
    clear hy269
    obtain ⟨y270, hy270⟩ : ∃ y_ : List (S36), y_ = (y269.set ((ji45) : Int).toNat (⟨(rd_T36 x0_2 x17_2).f0, (rd_T36 x0_2 x17_2).f1, (rd_T36 x0_2 x17_2).f2⟩ : S36)) := ⟨_, rfl⟩
    replace H : (slices_symMergeCmpFunc_Item.l3 k2 y270 x14_1 ji45) = some r := by first | (rw [hy270]; with_reducible exact H) | (have H2_ := (Option.bind_some _ _).symm.trans H; rw [hy270]; with_reducible exact H2_) | (have H2_ := (Option.bind_some _ _).symm.trans H; with_reducible exact H2_) | with_reducible exact H | (rw [hy270]; exact H) | exact H
    have Ny270 := Aside0.mk hy270
    clear hy270
    have H' := Aside0.mk H
    clear H
    try go_wp2
    have z_ := p_ (Kd.R_drew HO_0.out) <| p_ (Kept.drew HK.out) <| a_ (below_drew1 HB.out)
    clear HO_0 HK HB
    obtain ⟨HO_0, HK, HB⟩ := z_
    obtain ⟨Ao53, co53, eo53⟩ := Kd.R_slice HO_0.out
    (first | subst eo53 | (injection eo53 with f1_ f2_ f3_; have f4_ := f1_.symm; have f5_ := f3_.symm; clear f1_ f2_ f3_; subst f4_; subst f5_))
    have p267 : 0 ≤ ((ji45) : Int) := of_decide_eq_true tq_1
    have q267 : (ji45) < (x0_2.length : Int) := of_decide_eq_true tq_1
    obtain ⟨ad267, e267, hx267_0, hx267_1, hx267_2⟩ := at_T36 (Kd.R_reads' HO_0.out).2.2 (ji45) p267 q267
    cases e267
    replace p267 := eq_true p267
    replace q267 := eq_true q267
    have p268 : 0 ≤ (x17_2 : Int) := of_decide_eq_true tq_1
    have q268 : x17_2 < (x0_2.length : Int) := of_decide_eq_true tq_1
    obtain ⟨ad268, e268, hx268_0, hx268_1, hx268_2⟩ := at_T36 (Kd.R_reads' HO_0.out).2.2 x17_2 p268 q268
    obtain rfl : ad267 = ad268 := (by injection e268)
    replace p268 := eq_true p268
    replace q268 := eq_true q268
    have p50 : 0 ≤ (x17_2 : Int) := of_decide_eq_true tq_1
    have q50 : (x17_2 : Int) < ((x0_2.length : Int) : Int) := of_decide_eq_true tq_1
    obtain ⟨go50, co50, eo50, gb50, gl50, cl50, HG50⟩ := Kd.R_form HO_0.out (by omega)
    (first | cases eo50 | (injection eo50 with ea_ en_ ec_; (first | subst ea_ | (injection ea_ with ea_; subst ea_)); subst ec_; clear en_))
    have GB50 := Aside0.mk gb50
    have GG50 := Aside0.mk HG50
    clear gb50 gl50 HG50
    have HMgo50 := Aside0.mk (show (P0_ go50 ∨ w.heap.size ≤ go50) from (HO_0.out.1 _ rfl))
    (first | simp only [add_plain] at hx267_0 | skip)
    (first | simp only [add_plain] at hx267_1 | skip)
    (first | simp only [add_plain] at hx267_2 | skip)
    (first | simp only [add_plain] at hx268_0 | skip)
    (first | simp only [add_plain] at hx268_1 | skip)
    (first | simp only [add_plain] at hx268_2 | skip)
    obtain ⟨ce50, hcl50, hM50, hcc50, hfr50⟩ := Kd.R_elem HO_0.out z36 (x17_2 : Int) p50 q50
    obtain rfl := k36_openM hM50
    have hx50_0 : World.cell? _ ⟨go50, (x17_2 : Int).toNat * 3, none⟩ = some (.string ((rd_T36 x0_2 x17_2).f0)) := hcc50 0 _ rfl
    have hx50_1 : World.cell? _ ⟨go50, (x17_2 : Int).toNat * 3 + 1, none⟩ = some (.bool ((rd_T36 x0_2 x17_2).f1)) := hcc50 1 _ rfl
    have hx50_2 : World.cell? _ ⟨go50, (x17_2 : Int).toNat * 3 + 2, none⟩ = some (.string ((rd_T36 x0_2 x17_2).f2)) := hcc50 2 _ rfl
    have hf50_0 : World.frozen? _ ⟨go50, (x17_2 : Int).toNat * 3, none⟩ = false := hfr50 0
    have hf50_1 : World.frozen? _ ⟨go50, (x17_2 : Int).toNat * 3 + 1, none⟩ = false := hfr50 1
    have hf50_2 : World.frozen? _ ⟨go50, (x17_2 : Int).toNat * 3 + 2, none⟩ = false := hfr50 2
    clear hcl50 hcc50 hfr50 hM50
    replace p50 := eq_true p50
    replace q50 := eq_true q50
    obtain ⟨ce54, hcl54, hM54, hcc54, hfr54⟩ := Kd.R_elem HO_0.out z36 (x17_2 : Int) (of_decide_eq_true tq_1) (by have h_ : (x17_2 : Int) < ((x0_2.length : Int) : Int) := of_decide_eq_true tq_1; first | exact h_ | (have e_ := (Kd.R_reads' HO_0.out).1; omega) | simpa using h_)
    obtain rfl := k36_openM hM54
    have HP54 := (Kd.R_seg HO_0.out (x17_2 : Int) (of_decide_eq_true tq_1) (by have h_ : (x17_2 : Int) < ((x0_2.length : Int) : Int) := of_decide_eq_true tq_1; first | exact h_ | (have e_ := (Kd.R_reads' HO_0.out).1; omega) | simpa using h_) (seg := [.string ((rd_T36 x0_2 (ji45)).f0), .bool ((rd_T36 x0_2 (ji45)).f1), .string ((rd_T36 x0_2 (ji45)).f2)]) (j := 0) hcl54 hcc54 (show 3 ≤ 3 from by decide) (x' := (⟨(rd_T36 x0_2 (ji45)).f0, (rd_T36 x0_2 (ji45)).f1, (rd_T36 x0_2 (ji45)).f2⟩ : S36)) (k36_mkM _ _ _ (⟨(rd_T36 x0_2 (ji45)).f0, (rd_T36 x0_2 (ji45)).f1, (rd_T36 x0_2 (ji45)).f2⟩ : S36) ) (fun _ hk => hk)).1
    rw [← Ny269.out] at HP54
    have HQ54 := Aside0.mk HP54
    clear hcl54 hcc54 hfr54 hM54 HP54
    have p51 : 0 ≤ ((ji45) : Int) := of_decide_eq_true tq_1
    have q51 : ((ji45) : Int) < ((x0_2.length : Int) : Int) := of_decide_eq_true tq_1
    obtain ⟨ce51, hcl51, hM51, hcc51, hfr51⟩ := Kd.R_elem HQ54.out z36 ((ji45) : Int) p51 q51
    obtain rfl := k36_openM hM51
    have hx51_0 : World.cell? _ ⟨go50, ((ji45) : Int).toNat * 3, none⟩ = some (.string ((rd_T36 y269 (ji45)).f0)) := hcc51 0 _ rfl
    have hx51_1 : World.cell? _ ⟨go50, ((ji45) : Int).toNat * 3 + 1, none⟩ = some (.bool ((rd_T36 y269 (ji45)).f1)) := hcc51 1 _ rfl
    have hx51_2 : World.cell? _ ⟨go50, ((ji45) : Int).toNat * 3 + 2, none⟩ = some (.string ((rd_T36 y269 (ji45)).f2)) := hcc51 2 _ rfl
    have hf51_0 : World.frozen? _ ⟨go50, ((ji45) : Int).toNat * 3, none⟩ = false := hfr51 0
    have hf51_1 : World.frozen? _ ⟨go50, ((ji45) : Int).toNat * 3 + 1, none⟩ = false := hfr51 1
    have hf51_2 : World.frozen? _ ⟨go50, ((ji45) : Int).toNat * 3 + 2, none⟩ = false := hfr51 2
    clear hcl51 hcc51 hfr51 hM51
    replace p51 := eq_true p51
    replace q51 := eq_true q51
    obtain ⟨ce55, hcl55, hM55, hcc55, hfr55⟩ := Kd.R_elem HQ54.out z36 ((ji45) : Int) (of_decide_eq_true tq_1) (by have h_ : ((ji45) : Int) < ((x0_2.length : Int) : Int) := of_decide_eq_true tq_1; first | exact h_ | (have e_ := (Kd.R_reads' HO_0.out).1; omega) | simpa using h_)
    obtain rfl := k36_openM hM55
    have HP55 := (Kd.R_seg HQ54.out ((ji45) : Int) (of_decide_eq_true tq_1) (by have h_ : ((ji45) : Int) < ((x0_2.length : Int) : Int) := of_decide_eq_true tq_1; first | exact h_ | (have e_ := (Kd.R_reads' HO_0.out).1; omega) | simpa using h_) (seg := [.string ((rd_T36 x0_2 x17_2).f0), .bool ((rd_T36 x0_2 x17_2).f1), .string ((rd_T36 x0_2 x17_2).f2)]) (j := 0) hcl55 hcc55 (show 3 ≤ 3 from by decide) (x' := (⟨(rd_T36 x0_2 x17_2).f0, (rd_T36 x0_2 x17_2).f1, (rd_T36 x0_2 x17_2).f2⟩ : S36)) (k36_mkM _ _ _ (⟨(rd_T36 x0_2 x17_2).f0, (rd_T36 x0_2 x17_2).f1, (rd_T36 x0_2 x17_2).f2⟩ : S36) ) (fun _ hk => hk)).1
    rw [← Ny270.out] at HP55
    have HQ55 := Aside0.mk HP55
    clear hcl55 hcc55 hfr55 hM55 HP55
    refine start_ (n := 18) (S := fun w' => w'.cell? ⟨go50, ((ji45)).toNat * 3, none⟩ = some (.string ((rd_T36 x0_2 (ji45)).f0)) ∧ w'.cell? ⟨go50, ((ji45)).toNat * 3 + 1, none⟩ = some (.bool ((rd_T36 x0_2 (ji45)).f1)) ∧ w'.cell? ⟨go50, ((ji45)).toNat * 3 + 2, none⟩ = some (.string ((rd_T36 x0_2 (ji45)).f2)) ∧ w'.cell? ⟨go50, ((x17_2).toNat * 3), none⟩ = some (.string ((rd_T36 x0_2 x17_2).f0)) ∧ w'.cell? ⟨go50, ((x17_2).toNat * 3) + 1, none⟩ = some (.bool ((rd_T36 x0_2 x17_2).f1)) ∧ w'.cell? ⟨go50, ((x17_2).toNat * 3) + 2, none⟩ = some (.string ((rd_T36 x0_2 x17_2).f2))) (ds := [15, 17]) bq_15 (by kernel_rfl) rfl rfl ⟨hx267_0, hx267_1, hx267_2, hx268_0, hx268_1, hx268_2⟩ (fun hHeld => ?_); refine with_tabW slices_symMergeCmpFunc_Item.tab23 slices_symMergeCmpFunc_Item.bits23 (fun HT_ HW_ => ?_)
    generalize wr.drew = w52 at HO_0 HK HB GG50 HQ54 HQ55 hf50_0 hf50_1 hf50_2 hf51_0 hf51_1 hf51_2 hx267_0 hx267_1 hx267_2 hx268_0 hx268_1 hx268_2 hx50_0 hx50_1 hx50_2 hx51_0 hx51_1 hx51_2 hHeld ⊢
    refine yr_ 0 113 bq_16 HT_ ?_
    refine yr_ 1 114 bq_17 HT_ ?_
    refine yr_ 2 115 bq_18 HT_ ?_
    refine yr_ 3 116 bq_19 HT_ ?_
    refine yr_ 4 117 bq_20 HT_ ?_
    refine yr_ 5 118 bq_21 HT_ ?_
    refine yr_ 6 119 bq_22 HT_ ?_
    refine yr_ 7 120 bq_23 HT_ ?_
    refine yr_ 8 121 bq_24 HT_ ?_
    refine yr_ 10 123 bq_25 HT_ ?_
    refine yr_ 11 124 bq_26 HT_ ?_
    refine yr_ 12 125 bq_27 HT_ ?_
    refine tr_ 9 122 bq_28 HT_ HW_ hHeld ?_
    refine tr_ 13 126 bq_29 HT_ HW_ hHeld ?_
    refine yr_ 14 127 bq_30 HT_ ?_
    refine last_ (i := 15) (N := none) bq_31 rfl rfl (one_of HT_.out (by kernel_rfl)) (by decide) (fun K hK => ?_)
    refine skip_ (w1 := ?_) (by rfl) rfl ?_ ?_
    rotate_left
    ·go_simp
     rfl
    refine hK.out _ _ ?_
    clear hK K
    refine yr_ 16 128 bq_32 HT_ ?_
    refine last_ (i := 17) (N := none) bq_33 rfl rfl (one_of HT_.out (by kernel_rfl)) (by decide) (fun K hK => ?_)
    refine skip_ (w1 := ?_) (by rfl) rfl ?_ ?_
    rotate_left
    ·obtain ⟨ceS, hclS, hMS, hccS, hfrS⟩ := Kd.R_elem HO_0.out z36 ((ji45) : Int) (of_eq_true p51) (of_eq_true q51)
     obtain rfl := k36_openM hMS
     have gS_0 : World.frozen? _ ⟨go50, ((ji45) : Int).toNat * 3, none⟩ = false := hfrS 0
     have tS_0 : World.cell? _ ⟨go50, ((ji45) : Int).toNat * 3, none⟩ = some _ := hccS 0 _ rfl
     obtain ⟨_, fS_0_0⟩ := cell?_setCell_some (p := ⟨go50, (x17_2 : Int).toNat * 3, none⟩) (x := .string ((rd_T36 x0_2 (ji45)).f0)) tS_0
     have gS_1 : World.frozen? _ ⟨go50, ((ji45) : Int).toNat * 3 + 1, none⟩ = false := hfrS 1
     have tS_1 : World.cell? _ ⟨go50, ((ji45) : Int).toNat * 3 + 1, none⟩ = some _ := hccS 1 _ rfl
     obtain ⟨_, fS_1_0⟩ := cell?_setCell_some (p := ⟨go50, (x17_2 : Int).toNat * 3, none⟩) (x := .string ((rd_T36 x0_2 (ji45)).f0)) tS_1
     obtain ⟨_, fS_1_1⟩ := cell?_setCell_some (p := ⟨go50, (x17_2 : Int).toNat * 3 + 1, none⟩) (x := .bool ((rd_T36 x0_2 (ji45)).f1)) fS_1_0
     have gS_2 : World.frozen? _ ⟨go50, ((ji45) : Int).toNat * 3 + 2, none⟩ = false := hfrS 2
     have tS_2 : World.cell? _ ⟨go50, ((ji45) : Int).toNat * 3 + 2, none⟩ = some _ := hccS 2 _ rfl
     obtain ⟨_, fS_2_0⟩ := cell?_setCell_some (p := ⟨go50, (x17_2 : Int).toNat * 3, none⟩) (x := .string ((rd_T36 x0_2 (ji45)).f0)) tS_2
     obtain ⟨_, fS_2_1⟩ := cell?_setCell_some (p := ⟨go50, (x17_2 : Int).toNat * 3 + 1, none⟩) (x := .bool ((rd_T36 x0_2 (ji45)).f1)) fS_2_0
     obtain ⟨_, fS_2_2⟩ := cell?_setCell_some (p := ⟨go50, (x17_2 : Int).toNat * 3 + 2, none⟩) (x := .string ((rd_T36 x0_2 (ji45)).f2)) fS_2_1
     go_simp
     rfl
    refine hK.out _ _ ?_
    clear hK K
    refine done_ (done_of HT_.out (by kernel_rfl)) ?_
    try go_wp2
    go_roundg k2
    case measure => have := HK1.out; have := HK2.out; omega
    case rel => exact ⟨(y270), (ji45), (by first | rfl | (simp; done) | (simp only [← hji45] <;> (first | rfl | simp)) | (simp [*]; done)), H', ⟨tq_51⟩, ⟨(raR_ HQ55)⟩, ⟨(by repeat (first | (with_reducible first | exact HK.out | apply Kept.alloc | apply Kept.drewN | apply Kept.drew | refine Kept.setCell ?_ HMgo50.out _ | refine Kept.setCell ?_ HMgo50.out _ | refine Kept.setCell ?_ HMgo50.out _ | refine Kept.setCell ?_ HMgo50.out _ | refine Kept.setCell ?_ HMgo50.out _ | refine Kept.setCell ?_ HMgo50.out _) | exact HK.out))⟩, ⟨(by repeat (first | (with_reducible first | exact HB.out | apply below_alloc | apply pw_below_drewN | apply below_drew1 | refine below_set ?_ GB50.out | refine below_set ?_ GB50.out | refine below_set ?_ GB50.out | refine below_set ?_ GB50.out | refine below_set ?_ GB50.out | refine below_set ?_ GB50.out) | exact HB.out))⟩⟩
 rw [if_neg c31] at H
 have c31b0 := beq_eq_false_iff_ne.mpr c31
 have c31b1 := bne_iff_ne.mpr c31
 have HC56 := Aside0.mk H
 clear H
 go_enter Tryd.func43, Tryd.ntmps43
 go_upto_if 140 with (fail)
 go_cut [20, 21] (fun v20 v21 wc => ∃ (kq : Nat) (x20_55 : Int) (x21_55 : Int), v20 = .int .i64 x20_55 ∧ v21 = .int .i64 x21_55 ∧ Aside0 (slices_symMergeCmpFunc_Item.j4 kq l0 a1 a2 a3 a4 (wrap64 ((IntKind.u64.wrap (wrap64 (a1 + a3))) / 2)) (wrap64 ((wrap64 ((IntKind.u64.wrap (wrap64 (a1 + a3))) / 2)) + a2)) x20_55 x21_55 = some r) ∧ Aside0 (kq ≤ k) ∧ Aside0 (Kd.R k36 36 wc w0.heap.size (fun k_ => (P0_ k_ ∨ w.heap.size ≤ k_)) u9000_ l0) ∧ Aside0 (Kept w wc (fun k_ => P0_ k_)) ∧ Aside0 (Below w0.heap.size w0 wc))
 case first =>
  have H := HC56.out
  clear HC56
  by_cases c57 : a2 > (wrap64 ((IntKind.u64.wrap (wrap64 (a1 + a3))) / 2))
  rotate_left
  ·rw [if_neg c57] at H
   have c57b0 := decide_eq_false c57
   clear c57
   (first | rw [c57b0] | (simp only [i64_w, i32_w]; rw [c57b0]) | skip)
   have H' := Aside0.mk H
   clear H
   go_wp2
   go_meet
   case rel => exact ⟨_, (a1), (a2), tq_4, tq_4, H', ⟨tq_17⟩, ⟨(raR_ HO0)⟩, ⟨tq_0⟩, ⟨th_⟩⟩
  rw [if_pos c57] at H
  have c57b0 := decide_eq_true c57
  clear c57
  (first | rw [c57b0] | (simp only [i64_w, i32_w]; rw [c57b0]) | skip)
  have H' := Aside0.mk H
  clear H
  go_wp2
  go_meet
  case rel => exact ⟨_, (wrap64 ((wrap64 ((wrap64 ((IntKind.u64.wrap (wrap64 (a1 + a3))) / 2)) + a2)) - a3)), (wrap64 ((IntKind.u64.wrap (wrap64 (a1 + a3))) / 2)), tq_4, tq_4, H', ⟨tq_17⟩, ⟨(raR_ HO0)⟩, ⟨tq_0⟩, ⟨th_⟩⟩
 case rest =>
 clear HC56
 try clear c1; try clear c2; try clear p2; try clear q2; try clear hx2; try clear c3; try clear c4; try clear c5; try clear p5; try clear q5; try clear hx5; try clear hf5; try clear c6; try clear c6b0; try clear c6b1; try clear p6; try clear c7; try clear c7b0; try clear c9; try clear c9b0; try clear c10; try clear c10b0; try clear c11; try clear c11b0; try clear c12; try clear c12b0; try clear c17; try clear c18; try clear c18b0; try clear c19; try clear c19b0; try clear c21; try clear c21b0; try clear c22; try clear c22b0; try clear c23; try clear c23b0; try clear c24; try clear c24b0; try clear c25; try clear p25; try clear q25; try clear hx25; try clear hf25; try clear c26; try clear p26; try clear q26; try clear hx26; try clear hf26; try clear c29; try clear c30; try clear c31; try clear c31b0; try clear c31b1; try clear c32; try clear c32b0; try clear c33; try clear c33b0; try clear c34; try clear c34b0; try clear c36; try clear c36b0; try clear c37; try clear c37b0; try clear c43; try clear c43b0; try clear c44; try clear c44b0; try clear c46; try clear c46b0; try clear c47; try clear c47b0; try clear c48; try clear c48b0; try clear c49; try clear c49b0; try clear c50; try clear p50; try clear q50; try clear hx50; try clear hf50; try clear c51; try clear p51; try clear q51; try clear hx51; try clear hf51; try clear c54; try clear c55; try clear c57; try clear c57b0; try clear hx257_0; try clear hx257_1; try clear hx257_2; try clear hx258_0; try clear hx258_1; try clear hx258_2; try clear hx25_0; try clear hx25_1; try clear hx25_2; try clear hx260_0; try clear hx260_1; try clear hx260_2; try clear hx261_0; try clear hx261_1; try clear hx261_2; try clear hx264_0; try clear hx264_1; try clear hx264_2; try clear hx265_0; try clear hx265_1; try clear hx265_2; try clear hx267_0; try clear hx267_1; try clear hx267_2; try clear hx268_0; try clear hx268_1; try clear hx268_2; try clear hx26_0; try clear hx26_1; try clear hx26_2; try clear hx50_0; try clear hx50_1; try clear hx50_2; try clear hx51_0; try clear hx51_1; try clear hx51_2; try clear p2; try clear p25; try clear p257; try clear p258; try clear p26; try clear p260; try clear p261; try clear p264; try clear p265; try clear p267; try clear p268; try clear p50; try clear p51; try clear p6; try clear q2; try clear q25; try clear q257; try clear q258; try clear q26; try clear q260; try clear q261; try clear q264; try clear q265; try clear q267; try clear q268; try clear q50; try clear q51
 obtain ⟨kq, x20_55, x21_55, rfl, rfl, HA, HJ55, HO_0, HK, HB⟩ := hcut
 cases kq with
 | zero => exact absurd HA.out (by simp [slices_symMergeCmpFunc_Item.j4])
 | succ kj55 =>
 have H := HA.out
 clear HA
 simp only [slices_symMergeCmpFunc_Item.j4] at H
 have H' := Aside0.mk H
 clear H
 go_wp2
 go_loopg [20, 21] kj55 (fun kq v20 v21 w' => ∃ (x20_2 : Int) (x21_2 : Int), v20 = .int .i64 x20_2 ∧ v21 = .int .i64 x21_2 ∧ Aside0 (slices_symMergeCmpFunc_Item.l4 kq l0 a1 a2 a3 a4 (wrap64 ((IntKind.u64.wrap (wrap64 (a1 + a3))) / 2)) (wrap64 ((wrap64 ((IntKind.u64.wrap (wrap64 (a1 + a3))) / 2)) + a2)) x20_2 x21_2 (wrap64 ((wrap64 ((wrap64 ((IntKind.u64.wrap (wrap64 (a1 + a3))) / 2)) + a2)) - 1)) = some r) ∧ Aside0 (kq ≤ kj55) ∧ Aside0 (Kd.R k36 36 w' w0.heap.size (fun k_ => (P0_ k_ ∨ w.heap.size ≤ k_)) u9000_ l0) ∧ Aside0 (Kept w w' (fun k_ => P0_ k_)) ∧ Aside0 (Below w0.heap.size w0 w'))
 case atStart => exact ⟨(x20_55), (x21_55), tq_4, tq_4, H', ⟨Nat.le_refl _⟩, ⟨(raR_ HO_0)⟩, ⟨tq_0⟩, ⟨th_⟩⟩
 case round => as_aux_lemma =>
  clear H'
  try clear c1; try clear c2; try clear p2; try clear q2; try clear hx2; try clear c3; try clear c4; try clear c5; try clear p5; try clear q5; try clear hx5; try clear hf5; try clear c6; try clear c6b0; try clear c6b1; try clear p6; try clear c7; try clear c7b0; try clear c9; try clear c9b0; try clear c10; try clear c10b0; try clear c11; try clear c11b0; try clear c12; try clear c12b0; try clear c17; try clear c18; try clear c18b0; try clear c19; try clear c19b0; try clear c21; try clear c21b0; try clear c22; try clear c22b0; try clear c23; try clear c23b0; try clear c24; try clear c24b0; try clear c25; try clear p25; try clear q25; try clear hx25; try clear hf25; try clear c26; try clear p26; try clear q26; try clear hx26; try clear hf26; try clear c29; try clear c30; try clear c31; try clear c31b0; try clear c31b1; try clear c32; try clear c32b0; try clear c33; try clear c33b0; try clear c34; try clear c34b0; try clear c36; try clear c36b0; try clear c37; try clear c37b0; try clear c43; try clear c43b0; try clear c44; try clear c44b0; try clear c46; try clear c46b0; try clear c47; try clear c47b0; try clear c48; try clear c48b0; try clear c49; try clear c49b0; try clear c50; try clear p50; try clear q50; try clear hx50; try clear hf50; try clear c51; try clear p51; try clear q51; try clear hx51; try clear hf51; try clear c54; try clear c55; try clear c57; try clear c57b0; try clear hx257_0; try clear hx257_1; try clear hx257_2; try clear hx258_0; try clear hx258_1; try clear hx258_2; try clear hx25_0; try clear hx25_1; try clear hx25_2; try clear hx260_0; try clear hx260_1; try clear hx260_2; try clear hx261_0; try clear hx261_1; try clear hx261_2; try clear hx264_0; try clear hx264_1; try clear hx264_2; try clear hx265_0; try clear hx265_1; try clear hx265_2; try clear hx267_0; try clear hx267_1; try clear hx267_2; try clear hx268_0; try clear hx268_1; try clear hx268_2; try clear hx26_0; try clear hx26_1; try clear hx26_2; try clear hx50_0; try clear hx50_1; try clear hx50_2; try clear hx51_0; try clear hx51_1; try clear hx51_2; try clear p2; try clear p25; try clear p257; try clear p258; try clear p26; try clear p260; try clear p261; try clear p264; try clear p265; try clear p267; try clear p268; try clear p5; try clear p50; try clear p51; try clear p6; try clear q2; try clear q25; try clear q257; try clear q258; try clear q26; try clear q260; try clear q261; try clear q264; try clear q265; try clear q267; try clear q268; try clear q5; try clear q50; try clear q51
  obtain ⟨x20_2, x21_2, rfl, rfl, HA, HK2, HO_0, HK, HB⟩ := hrel
  cases gk with
  | zero => exact absurd HA.out (by simp [slices_symMergeCmpFunc_Item.l4])
  | succ k2 =>
  have H := HA.out
  clear HA
  simp only [slices_symMergeCmpFunc_Item.l4] at H
  by_cases c58 : x20_2 < x21_2
  ·rw [if_pos c58] at H
   have c58b0 := decide_eq_true c58
   clear c58
   obtain ⟨ji59, hji59⟩ : ∃ j_ : Int, (wrap64 ((wrap64 ((wrap64 ((wrap64 ((IntKind.u64.wrap (wrap64 (a1 + a3))) / 2)) + a2)) - 1)) - (wrap64 ((IntKind.u64.wrap (wrap64 (x20_2 + x21_2))) / 2)))) = j_ := ⟨_, rfl⟩
   replace H : (if 0 ≤ (ji59) then (if (ji59) < (l0.length : Int) then (if 0 ≤ (wrap64 ((IntKind.u64.wrap (wrap64 (x20_2 + x21_2))) / 2)) then (if (wrap64 ((IntKind.u64.wrap (wrap64 (x20_2 + x21_2))) / 2)) < (l0.length : Int) then ((impl_MovedItems_1.f ((rd_T36 l0 (ji59)).f0) ((rd_T36 l0 (ji59)).f1) ((rd_T36 l0 (ji59)).f2) ((rd_T36 l0 (wrap64 ((IntKind.u64.wrap (wrap64 (x20_2 + x21_2))) / 2))).f0) ((rd_T36 l0 (wrap64 ((IntKind.u64.wrap (wrap64 (x20_2 + x21_2))) / 2))).f1) ((rd_T36 l0 (wrap64 ((IntKind.u64.wrap (wrap64 (x20_2 + x21_2))) / 2))).f2)).bind fun t273 => (if t273 < 0 then (slices_symMergeCmpFunc_Item.l4 k2 l0 a1 a2 a3 a4 (wrap64 ((IntKind.u64.wrap (wrap64 (a1 + a3))) / 2)) (wrap64 ((wrap64 ((IntKind.u64.wrap (wrap64 (a1 + a3))) / 2)) + a2)) x20_2 (wrap64 ((IntKind.u64.wrap (wrap64 (x20_2 + x21_2))) / 2)) (wrap64 ((wrap64 ((wrap64 ((IntKind.u64.wrap (wrap64 (a1 + a3))) / 2)) + a2)) - 1))) else (slices_symMergeCmpFunc_Item.l4 k2 l0 a1 a2 a3 a4 (wrap64 ((IntKind.u64.wrap (wrap64 (a1 + a3))) / 2)) (wrap64 ((wrap64 ((IntKind.u64.wrap (wrap64 (a1 + a3))) / 2)) + a2)) (wrap64 ((wrap64 ((IntKind.u64.wrap (wrap64 (x20_2 + x21_2))) / 2)) + 1)) x21_2 (wrap64 ((wrap64 ((wrap64 ((IntKind.u64.wrap (wrap64 (a1 + a3))) / 2)) + a2)) - 1))))) else (none)) else (none)) else (none)) else (none)) = some r := by first | (rw [hji59] at H; exact H) | (simp only [hji59] at H ⊢; exact H)
   have hji59w : (IntKind.i64.wrap ((wrap64 ((wrap64 ((wrap64 ((IntKind.u64.wrap (wrap64 (a1 + a3))) / 2)) + a2)) - 1)) - (wrap64 ((IntKind.u64.wrap (wrap64 (x20_2 + x21_2))) / 2)))) = ji59 := (i64_w _).trans hji59
   obtain ⟨c60, H⟩ := fc_ H
   have c60b0 := decide_eq_true c60
   clear c60
   obtain ⟨c61, H⟩ := fc_ H
   have c61b0 := decide_eq_true c61
   clear c61
   obtain ⟨ji62, hji62⟩ : ∃ j_ : Int, (wrap64 ((IntKind.u64.wrap (wrap64 (x20_2 + x21_2))) / 2)) = j_ := ⟨_, rfl⟩
   replace H : (if 0 ≤ (ji62) then (if (ji62) < (l0.length : Int) then ((impl_MovedItems_1.f ((rd_T36 l0 (ji59)).f0) ((rd_T36 l0 (ji59)).f1) ((rd_T36 l0 (ji59)).f2) ((rd_T36 l0 (ji62)).f0) ((rd_T36 l0 (ji62)).f1) ((rd_T36 l0 (ji62)).f2)).bind fun t273 => (if t273 < 0 then (slices_symMergeCmpFunc_Item.l4 k2 l0 a1 a2 a3 a4 (wrap64 ((IntKind.u64.wrap (wrap64 (a1 + a3))) / 2)) (wrap64 ((wrap64 ((IntKind.u64.wrap (wrap64 (a1 + a3))) / 2)) + a2)) x20_2 ji62 (wrap64 ((wrap64 ((wrap64 ((IntKind.u64.wrap (wrap64 (a1 + a3))) / 2)) + a2)) - 1))) else (slices_symMergeCmpFunc_Item.l4 k2 l0 a1 a2 a3 a4 (wrap64 ((IntKind.u64.wrap (wrap64 (a1 + a3))) / 2)) (wrap64 ((wrap64 ((IntKind.u64.wrap (wrap64 (a1 + a3))) / 2)) + a2)) (wrap64 ((ji62) + 1)) x21_2 (wrap64 ((wrap64 ((wrap64 ((IntKind.u64.wrap (wrap64 (a1 + a3))) / 2)) + a2)) - 1))))) else (none)) else (none)) = some r := by first | (rw [hji62] at H; exact H) | (simp only [hji62] at H ⊢; exact H)
   have hji62w : (IntKind.i64.wrap ((IntKind.u64.wrap (wrap64 (x20_2 + x21_2))) / 2)) = ji62 := (i64_w _).trans hji62
   have hji59v : (wrap64 ((wrap64 ((wrap64 ((wrap64 ((IntKind.u64.wrap (wrap64 (a1 + a3))) / 2)) + a2)) - 1)) - ji62)) = ji59 := by rw [← hji62]; exact hji59
   have hji59vw : (IntKind.i64.wrap ((wrap64 ((wrap64 ((wrap64 ((IntKind.u64.wrap (wrap64 (a1 + a3))) / 2)) + a2)) - 1)) - ji62)) = ji59 := (i64_w _).trans hji59v
   obtain ⟨c63, H⟩ := fc_ H
   have c63b0 := decide_eq_true c63
   clear c63
   obtain ⟨c64, H⟩ := fc_ H
   have c64b0 := decide_eq_true c64
   clear c64
   obtain ⟨t273, A65, H⟩ := bd_ H
   have HC66 := Aside0.mk H
   clear H
   try go_wp2
   have z_ := p_ (Kd.R_drew HO_0.out) <| p_ (Kept.drew HK.out) <| a_ (below_drew1 HB.out)
   clear HO_0 HK HB
   obtain ⟨HO_0, HK, HB⟩ := z_
   obtain ⟨Ao68, co68, eo68⟩ := Kd.R_slice HO_0.out
   (first | subst eo68 | (injection eo68 with f1_ f2_ f3_; have f4_ := f1_.symm; have f5_ := f3_.symm; clear f1_ f2_ f3_; subst f4_; subst f5_))
   have p271 : 0 ≤ ((ji59) : Int) := of_decide_eq_true tq_1
   have q271 : (ji59) < (l0.length : Int) := of_decide_eq_true tq_1
   obtain ⟨ad271, e271, hx271_0, hx271_1, hx271_2⟩ := at_T36 (Kd.R_reads' HO_0.out).2.2 (ji59) p271 q271
   cases e271
   replace p271 := eq_true p271
   replace q271 := eq_true q271
   have p272 : 0 ≤ ((ji62) : Int) := of_decide_eq_true tq_1
   have q272 : (ji62) < (l0.length : Int) := of_decide_eq_true tq_1
   obtain ⟨ad272, e272, hx272_0, hx272_1, hx272_2⟩ := at_T36 (Kd.R_reads' HO_0.out).2.2 (ji62) p272 q272
   obtain rfl : ad271 = ad272 := (by injection e272)
   replace p272 := eq_true p272
   replace q272 := eq_true q272
   refine start_ (n := 14) (S := fun w' => w'.cell? (ad271.add (((ji59)).toNat * 3)) = some (.string ((rd_T36 l0 (ji59)).f0)) ∧ w'.cell? ⟨(ad271.add (((ji59)).toNat * 3)).block, (ad271.add (((ji59)).toNat * 3)).off + 1, none⟩ = some (.bool ((rd_T36 l0 (ji59)).f1)) ∧ w'.cell? ⟨(ad271.add (((ji59)).toNat * 3)).block, (ad271.add (((ji59)).toNat * 3)).off + 2, none⟩ = some (.string ((rd_T36 l0 (ji59)).f2)) ∧ w'.cell? (ad271.add (((ji62)).toNat * 3)) = some (.string ((rd_T36 l0 (ji62)).f0)) ∧ w'.cell? ⟨(ad271.add (((ji62)).toNat * 3)).block, (ad271.add (((ji62)).toNat * 3)).off + 1, none⟩ = some (.bool ((rd_T36 l0 (ji62)).f1)) ∧ w'.cell? ⟨(ad271.add (((ji62)).toNat * 3)).block, (ad271.add (((ji62)).toNat * 3)).off + 2, none⟩ = some (.string ((rd_T36 l0 (ji62)).f2))) (ds := []) #[false, false, false, false, false, false, false, false, false, false, false, false, false, false] (by kernel_rfl) rfl rfl ⟨hx271_0, hx271_1, hx271_2, hx272_0, hx272_1, hx272_2⟩ (fun hHeld => ?_); refine with_tabW slices_symMergeCmpFunc_Item.tab35 slices_symMergeCmpFunc_Item.bits35 (fun HT_ HW_ => ?_)
   generalize wr.drew = w67 at HO_0 HK HB hx271_0 hx271_1 hx271_2 hx272_0 hx272_1 hx272_2 hHeld ⊢
   refine yr_ 0 158 #[true, false, false, false, false, false, false, false, false, false, false, false, false, false] HT_ ?_
   refine yr_ 1 159 #[true, true, false, false, false, false, false, false, false, false, false, false, false, false] HT_ ?_
   refine yr_ 2 160 #[true, true, true, false, false, false, false, false, false, false, false, false, false, false] HT_ ?_
   refine yr_ 3 161 #[true, true, true, true, false, false, false, false, false, false, false, false, false, false] HT_ ?_
   refine yr_ 4 162 #[true, true, true, true, true, false, false, false, false, false, false, false, false, false] HT_ ?_
   refine yr_ 5 163 #[true, true, true, true, true, true, false, false, false, false, false, false, false, false] HT_ ?_
   refine yr_ 7 165 #[true, true, true, true, true, true, false, true, false, false, false, false, false, false] HT_ ?_
   refine yr_ 8 166 #[true, true, true, true, true, true, false, true, true, false, false, false, false, false] HT_ ?_
   refine yr_ 9 167 #[true, true, true, true, true, true, false, true, true, true, false, false, false, false] HT_ ?_
   refine tr_ 6 164 #[true, true, true, true, true, true, true, true, true, true, false, false, false, false] HT_ HW_ hHeld ?_
   refine tr_ 10 168 #[true, true, true, true, true, true, true, true, true, true, true, false, false, false] HT_ HW_ hHeld ?_
   refine one_ (i := 11) (N := some 169) #[true, true, true, true, true, true, true, true, true, true, true, true, false, false] rfl rfl (one_of HT_.out (by kernel_rfl)) (by decide) (fun K hK => ?_)
   refine goesv_ Tryd.func17 (by kernel_rfl) rfl #[.agg #[.string ((rd_T36 l0 (ji59)).f0), .bool ((rd_T36 l0 (ji59)).f1), .string ((rd_T36 l0 (ji59)).f2)], .agg #[.string ((rd_T36 l0 (ji62)).f0), .bool ((rd_T36 l0 (ji62)).f1), .string ((rd_T36 l0 (ji62)).f2)]] (by rfl) rfl rfl (by rfl) (by (try simp only [List.map_toArray, List.map_cons, List.map_nil]); first | done | (simp only [hji59, hji62]; rfl) | rfl | (simp only [List.length_drop, List.length_take]; rfl)) ?_
   with_reducible refine (impl_MovedItems_1.calls ((rd_T36 l0 (ji59)).f0) ((rd_T36 l0 (ji59)).f1) ((rd_T36 l0 (ji59)).f2) ((rd_T36 l0 (ji62)).f0) ((rd_T36 l0 (ji62)).f1) ((rd_T36 l0 (ji62)).f2) t273 _ A65.out).mono ?_
   rintro e w69 ⟨rfl, hb⟩
   have HS0_ := (hb.cell (World.block_lt_of_cell? _ _ (hHeld.1))).trans (hHeld.1)
   have HS1_ := (hb.cell (World.block_lt_of_cell? _ _ (hHeld.2.1))).trans (hHeld.2.1)
   have HS2_ := (hb.cell (World.block_lt_of_cell? _ _ (hHeld.2.2.1))).trans (hHeld.2.2.1)
   have HS3_ := (hb.cell (World.block_lt_of_cell? _ _ (hHeld.2.2.2.1))).trans (hHeld.2.2.2.1)
   have HS4_ := (hb.cell (World.block_lt_of_cell? _ _ (hHeld.2.2.2.2.1))).trans (hHeld.2.2.2.2.1)
   have HS5_ := (hb.cell (World.block_lt_of_cell? _ _ (hHeld.2.2.2.2.2))).trans (hHeld.2.2.2.2.2)
   refine ⟨_, rfl, ?_⟩
   have z_ := p_ (Kd.R_below (raR_ HO_0) hb) <| p_ (Kept.below (S := (fun k_ => P0_ k_)) tq_0 hb) <| a_ (below_step th_ hb)
   clear HO_0 HK HB
   obtain ⟨HO_0, HK, HB⟩ := z_
   (try clear hb)
   refine hK.out _ _ ⟨HS0_, HS1_, HS2_, HS3_, HS4_, HS5_⟩ (fun hHeld => ?_)
   clear hK K
   refine nm_ (some 169) ?_
   refine yr_ 12 170 #[true, true, true, true, true, true, true, true, true, true, true, true, true, false] HT_ ?_
   refine yr_ 13 171 #[true, true, true, true, true, true, true, true, true, true, true, true, true, true] HT_ ?_
   refine done_ (done_of HT_.out (by kernel_rfl)) ?_
   go_upto_if 171 with (fail)
   (try clear hx271_0 hx271_1 hx271_2)
   (try clear hx272_0 hx272_1 hx272_2)
   have H := HC66.out
   clear HC66
   by_cases c70 : t273 < 0
   ·rw [if_pos c70] at H
    have c70b0 := decide_eq_true c70
    clear c70
    (first | rw [c70b0] | (simp only [i64_w, i32_w]; rw [c70b0]) | skip)
    have H' := Aside0.mk H
    clear H
    go_wp2
    go_roundg k2
    case measure => have := HJ55.out; have := HK2.out; omega
    case rel => exact ⟨(x20_2), (ji62), tq_4, (by first | rfl | (simp; done) | (simp only [← hji62] <;> (first | rfl | simp)) | (simp [*]; done)), H', ⟨(by have := HJ55.out; have := HK2.out; omega)⟩, ⟨(raR_ HO_0)⟩, ⟨tq_0⟩, ⟨th_⟩⟩
   rw [if_neg c70] at H
   have c70b0 := decide_eq_false c70
   clear c70
   (first | rw [c70b0] | (simp only [i64_w, i32_w]; rw [c70b0]) | skip)
   have H' := Aside0.mk H
   clear H
   go_wp2
   go_roundg k2
   case measure => have := HJ55.out; have := HK2.out; omega
   case rel => exact ⟨(wrap64 ((ji62) + 1)), (x21_2), (by first | rfl | (simp; done) | (simp only [← hji62] <;> (first | rfl | simp)) | (simp [*]; done)), tq_4, H', ⟨(by have := HJ55.out; have := HK2.out; omega)⟩, ⟨(raR_ HO_0)⟩, ⟨tq_0⟩, ⟨th_⟩⟩
  rw [if_neg c58] at H
  have c58b0 := decide_eq_false c58
  clear c58
  have HC71 := Aside0.mk H
  clear H
  go_upto_region 39 with (fail)
  go_cut [185] (fun v185 wc => ∃ (kq : Nat) (x185_70 : Bool), v185 = .bool x185_70 ∧ Aside0 (slices_symMergeCmpFunc_Item.j6 kq l0 a1 a2 a3 a4 (wrap64 ((IntKind.u64.wrap (wrap64 (a1 + a3))) / 2)) x20_2 (wrap64 ((wrap64 ((wrap64 ((IntKind.u64.wrap (wrap64 (a1 + a3))) / 2)) + a2)) - x20_2)) x185_70 = some r) ∧ Aside0 (kq ≤ k2) ∧ Aside0 (Kd.R k36 36 wc w0.heap.size (fun k_ => (P0_ k_ ∨ w.heap.size ≤ k_)) u9000_ l0) ∧ Aside0 (Kept w wc (fun k_ => P0_ k_)) ∧ Aside0 (Below w0.heap.size w0 wc))
  case first =>
   have H := HC71.out
   clear HC71
   by_cases c72 : x20_2 < a2
   rotate_left
   ·rw [if_neg c72] at H
    have c72b0 := decide_eq_false c72
    clear c72
    (first | rw [c72b0] | (simp only [i64_w, i32_w]; rw [c72b0]) | skip)
    have H' := Aside0.mk H
    clear H
    go_wp2
    go_meet
    case rel => exact ⟨_, (false), tq_4, H', ⟨(by have := HJ55.out; have := HK2.out; first | omega | exact Nat.le_refl _)⟩, ⟨(raR_ HO_0)⟩, ⟨tq_0⟩, ⟨th_⟩⟩
   rw [if_pos c72] at H
   have c72b0 := decide_eq_true c72
   clear c72
   (first | rw [c72b0] | (simp only [i64_w, i32_w]; rw [c72b0]) | skip)
   have H' := Aside0.mk H
   clear H
   go_wp2
   go_meet
   case rel => exact ⟨_, (decide (a2 < (wrap64 ((wrap64 ((wrap64 ((IntKind.u64.wrap (wrap64 (a1 + a3))) / 2)) + a2)) - x20_2)))), tq_4, H', ⟨(by have := HJ55.out; have := HK2.out; first | omega | exact Nat.le_refl _)⟩, ⟨(raR_ HO_0)⟩, ⟨tq_0⟩, ⟨th_⟩⟩
  case rest =>
  clear HC71
  try clear c1; try clear c2; try clear p2; try clear q2; try clear hx2; try clear c3; try clear c4; try clear c5; try clear p5; try clear q5; try clear hx5; try clear hf5; try clear c6; try clear c6b0; try clear c6b1; try clear p6; try clear c7; try clear c7b0; try clear c9; try clear c9b0; try clear c10; try clear c10b0; try clear c11; try clear c11b0; try clear c12; try clear c12b0; try clear c17; try clear c18; try clear c18b0; try clear c19; try clear c19b0; try clear c21; try clear c21b0; try clear c22; try clear c22b0; try clear c23; try clear c23b0; try clear c24; try clear c24b0; try clear c25; try clear p25; try clear q25; try clear hx25; try clear hf25; try clear c26; try clear p26; try clear q26; try clear hx26; try clear hf26; try clear p27; try clear q27; try clear hx27; try clear c29; try clear c30; try clear c31; try clear c31b0; try clear c31b1; try clear c32; try clear c32b0; try clear c33; try clear c33b0; try clear c34; try clear c34b0; try clear c36; try clear c36b0; try clear c37; try clear c37b0; try clear c43; try clear c43b0; try clear c44; try clear c44b0; try clear c46; try clear c46b0; try clear c47; try clear c47b0; try clear c48; try clear c48b0; try clear c49; try clear c49b0; try clear c50; try clear p50; try clear q50; try clear hx50; try clear hf50; try clear c51; try clear p51; try clear q51; try clear hx51; try clear hf51; try clear c54; try clear c55; try clear c57; try clear c57b0; try clear c58; try clear c58b0; try clear c60; try clear c60b0; try clear c61; try clear c61b0; try clear c63; try clear c63b0; try clear c64; try clear c64b0; try clear p64; try clear c70; try clear c70b0; try clear c72; try clear c72b0; try clear hx257_0; try clear hx257_1; try clear hx257_2; try clear hx258_0; try clear hx258_1; try clear hx258_2; try clear hx25_0; try clear hx25_1; try clear hx25_2; try clear hx260_0; try clear hx260_1; try clear hx260_2; try clear hx261_0; try clear hx261_1; try clear hx261_2; try clear hx264_0; try clear hx264_1; try clear hx264_2; try clear hx265_0; try clear hx265_1; try clear hx265_2; try clear hx267_0; try clear hx267_1; try clear hx267_2; try clear hx268_0; try clear hx268_1; try clear hx268_2; try clear hx26_0; try clear hx26_1; try clear hx26_2; try clear hx271_0; try clear hx271_1; try clear hx271_2; try clear hx272_0; try clear hx272_1; try clear hx272_2; try clear hx50_0; try clear hx50_1; try clear hx50_2; try clear hx51_0; try clear hx51_1; try clear hx51_2; try clear p2; try clear p25; try clear p257; try clear p258; try clear p26; try clear p260; try clear p261; try clear p264; try clear p265; try clear p267; try clear p268; try clear p271; try clear p272; try clear p5; try clear p50; try clear p51; try clear p6; try clear q2; try clear q25; try clear q257; try clear q258; try clear q26; try clear q260; try clear q261; try clear q264; try clear q265; try clear q267; try clear q268; try clear q271; try clear q272; try clear q5; try clear q50; try clear q51
  obtain ⟨kq, x185_70, rfl, HA, HJ70, HO_0, HK, HB⟩ := hcut
  cases kq with
  | zero => exact absurd HA.out (by simp [slices_symMergeCmpFunc_Item.j6])
  | succ kj70 =>
  have H := HA.out
  clear HA
  simp only [slices_symMergeCmpFunc_Item.j6] at H
  have HC73 := Aside0.mk H
  clear H
  go_upto_if 185 with (fail)
  go_cut [] (fun wc => ∃ (kq : Nat) (x0_72 : List (S36)), Aside0 (slices_symMergeCmpFunc_Item.j7 kq x0_72 a1 a3 a4 (wrap64 ((IntKind.u64.wrap (wrap64 (a1 + a3))) / 2)) x20_2 (wrap64 ((wrap64 ((wrap64 ((IntKind.u64.wrap (wrap64 (a1 + a3))) / 2)) + a2)) - x20_2)) = some r) ∧ Aside0 (kq ≤ kj70) ∧ Aside0 (Kd.R k36 36 wc w0.heap.size (fun k_ => (P0_ k_ ∨ w.heap.size ≤ k_)) u9000_ x0_72) ∧ Aside0 (Kept w wc (fun k_ => P0_ k_)) ∧ Aside0 (Below w0.heap.size w0 wc))
  case first =>
   have H := HC73.out
   clear HC73
   by_cases c74 : x185_70 = true
   rotate_left
   ·replace c74 := Bool.eq_false_iff.mpr c74
    subst c74
    rw [if_neg nf_] at H
    have H' := Aside0.mk H
    clear H
    go_wp2
    go_meet
    case rel => exact ⟨_, (l0), H', ⟨(by have := HJ55.out; have := HK2.out; have := HJ70.out; first | omega | exact Nat.le_refl _)⟩, ⟨(raR_ HO_0)⟩, ⟨tq_0⟩, ⟨th_⟩⟩
   subst c74
   rw [if_pos rfl] at H
   obtain ⟨t274, A75, H⟩ := bd_ H
   have H' := Aside0.mk H
   clear H
   obtain ⟨Ao76, co76, eo76⟩ := Kd.R_slice HO_0.out
   subst eo76
   go_wp2_with (first | ((with_reducible refine gate_callee (f := 50) rfl ?_); refine goesL_ (some 191) rfl rfl Tryd.func50 (by kernel_rfl) rfl #[.slice Ao76 l0.length co76, .int .i64 x20_2, .int .i64 a2, .int .i64 (wrap64 ((wrap64 ((wrap64 ((IntKind.u64.wrap (wrap64 (a1 + a3))) / 2)) + a2)) - x20_2)), .func (.func 17) #[] #[]] rfl tq_2 ?_; (with_reducible refine (slices_rotateCmpFunc_Item.calls kj70 (fun k_ => some k_ = (.slice Ao76 l0.length co76 : Value).ownBlock) (.slice Ao76 l0.length co76) l0 x20_2 a2 (wrap64 ((wrap64 ((wrap64 ((IntKind.u64.wrap (wrap64 (a1 + a3))) / 2)) + a2)) - x20_2)) a4 t274 w0 _ ?side1 ?side2 A75.out).mono ?_); (case side1 => exact tq_8); (case side2 => exact Kd.R_tight rfl HO_0.out); rintro e w77 ⟨rfl, hy0, hb, hkp⟩; refine ⟨_, rfl, ?_⟩; have z_ := p_ (Kd.R_reok rfl hy0 (fun k_ e_ => HO_0.out.1 k_ e_)) <| p_ (Kept.then_ (S := (fun k_ => P0_ k_)) tq_0 hkp (fun k_ hs_ => (fun e_ => (HO_0.out.1 k_ e_.symm)) hs_)) <| a_ (hb); clear HO_0 HK HB; obtain ⟨HO_0, HK, HB⟩ := z_; (try clear hb); (try clear hkp); (try clear hy0)))
   go_meet
   case rel => exact ⟨_, (t274), H', ⟨(by have := HJ55.out; have := HK2.out; have := HJ70.out; first | omega | exact Nat.le_refl _)⟩, ⟨(raR_ HO_0)⟩, ⟨tq_0⟩, ⟨th_⟩⟩
  case rest =>
  clear HC73
  try clear c1; try clear c2; try clear p2; try clear q2; try clear hx2; try clear c3; try clear c4; try clear c5; try clear p5; try clear q5; try clear hx5; try clear hf5; try clear c6; try clear c6b0; try clear c6b1; try clear p6; try clear c7; try clear c7b0; try clear c9; try clear c9b0; try clear c10; try clear c10b0; try clear c11; try clear c11b0; try clear c12; try clear c12b0; try clear c17; try clear c18; try clear c18b0; try clear c19; try clear c19b0; try clear c21; try clear c21b0; try clear c22; try clear c22b0; try clear c23; try clear c23b0; try clear c24; try clear c24b0; try clear c25; try clear p25; try clear q25; try clear hx25; try clear hf25; try clear c26; try clear p26; try clear q26; try clear hx26; try clear hf26; try clear p27; try clear q27; try clear hx27; try clear c29; try clear c30; try clear c31; try clear c31b0; try clear c31b1; try clear c32; try clear c32b0; try clear c33; try clear c33b0; try clear c34; try clear c34b0; try clear c36; try clear c36b0; try clear c37; try clear c37b0; try clear c43; try clear c43b0; try clear c44; try clear c44b0; try clear c46; try clear c46b0; try clear c47; try clear c47b0; try clear c48; try clear c48b0; try clear c49; try clear c49b0; try clear c50; try clear p50; try clear q50; try clear hx50; try clear hf50; try clear c51; try clear p51; try clear q51; try clear hx51; try clear hf51; try clear c54; try clear c55; try clear c57; try clear c57b0; try clear c58; try clear c58b0; try clear c60; try clear c60b0; try clear c61; try clear c61b0; try clear c63; try clear c63b0; try clear c64; try clear c64b0; try clear p64; try clear c70; try clear c70b0; try clear c72; try clear c72b0; try clear c74; try clear hx257_0; try clear hx257_1; try clear hx257_2; try clear hx258_0; try clear hx258_1; try clear hx258_2; try clear hx25_0; try clear hx25_1; try clear hx25_2; try clear hx260_0; try clear hx260_1; try clear hx260_2; try clear hx261_0; try clear hx261_1; try clear hx261_2; try clear hx264_0; try clear hx264_1; try clear hx264_2; try clear hx265_0; try clear hx265_1; try clear hx265_2; try clear hx267_0; try clear hx267_1; try clear hx267_2; try clear hx268_0; try clear hx268_1; try clear hx268_2; try clear hx26_0; try clear hx26_1; try clear hx26_2; try clear hx271_0; try clear hx271_1; try clear hx271_2; try clear hx272_0; try clear hx272_1; try clear hx272_2; try clear hx50_0; try clear hx50_1; try clear hx50_2; try clear hx51_0; try clear hx51_1; try clear hx51_2; try clear p2; try clear p25; try clear p257; try clear p258; try clear p26; try clear p260; try clear p261; try clear p264; try clear p265; try clear p267; try clear p268; try clear p27; try clear p271; try clear p272; try clear p5; try clear p50; try clear p51; try clear p6; try clear p64; try clear q2; try clear q25; try clear q257; try clear q258; try clear q26; try clear q260; try clear q261; try clear q264; try clear q265; try clear q267; try clear q268; try clear q27; try clear q271; try clear q272; try clear q5; try clear q50; try clear q51
  obtain ⟨kq, x0_72, HA, HJ72, HO_0, HK, HB⟩ := hcut
  cases kq with
  | zero => exact absurd HA.out (by simp [slices_symMergeCmpFunc_Item.j7])
  | succ kj72 =>
  have H := HA.out
  clear HA
  simp only [slices_symMergeCmpFunc_Item.j7] at H
  have HC78 := Aside0.mk H
  clear H
  go_upto_region 41 with (fail)
  go_cut [199] (fun v199 wc => ∃ (kq : Nat) (x199_77 : Bool), v199 = .bool x199_77 ∧ Aside0 (slices_symMergeCmpFunc_Item.j8 kq x0_72 a1 a3 a4 (wrap64 ((IntKind.u64.wrap (wrap64 (a1 + a3))) / 2)) x20_2 (wrap64 ((wrap64 ((wrap64 ((IntKind.u64.wrap (wrap64 (a1 + a3))) / 2)) + a2)) - x20_2)) x199_77 = some r) ∧ Aside0 (kq ≤ kj72) ∧ Aside0 (Kd.R k36 36 wc w0.heap.size (fun k_ => (P0_ k_ ∨ w.heap.size ≤ k_)) u9000_ x0_72) ∧ Aside0 (Kept w wc (fun k_ => P0_ k_)) ∧ Aside0 (Below w0.heap.size w0 wc))
  case first =>
   have H := HC78.out
   clear HC78
   by_cases c79 : a1 < x20_2
   rotate_left
   ·rw [if_neg c79] at H
    have c79b0 := decide_eq_false c79
    clear c79
    (first | rw [c79b0] | (simp only [i64_w, i32_w]; rw [c79b0]) | skip)
    have H' := Aside0.mk H
    clear H
    go_wp2
    go_meet
    case rel => exact ⟨_, (false), tq_4, H', ⟨(by have := HJ55.out; have := HK2.out; have := HJ70.out; have := HJ72.out; first | omega | exact Nat.le_refl _)⟩, ⟨(raR_ HO_0)⟩, ⟨tq_0⟩, ⟨th_⟩⟩
   rw [if_pos c79] at H
   have c79b0 := decide_eq_true c79
   clear c79
   (first | rw [c79b0] | (simp only [i64_w, i32_w]; rw [c79b0]) | skip)
   have H' := Aside0.mk H
   clear H
   go_wp2
   go_meet
   case rel => exact ⟨_, (decide (x20_2 < (wrap64 ((IntKind.u64.wrap (wrap64 (a1 + a3))) / 2)))), tq_4, H', ⟨(by have := HJ55.out; have := HK2.out; have := HJ70.out; have := HJ72.out; first | omega | exact Nat.le_refl _)⟩, ⟨(raR_ HO_0)⟩, ⟨tq_0⟩, ⟨th_⟩⟩
  case rest =>
  clear HC78
  try clear c1; try clear c2; try clear p2; try clear q2; try clear hx2; try clear c3; try clear c4; try clear c5; try clear p5; try clear q5; try clear hx5; try clear hf5; try clear c6; try clear c6b0; try clear c6b1; try clear p6; try clear c7; try clear c7b0; try clear c9; try clear c9b0; try clear c10; try clear c10b0; try clear c11; try clear c11b0; try clear c12; try clear c12b0; try clear c17; try clear c18; try clear c18b0; try clear c19; try clear c19b0; try clear c21; try clear c21b0; try clear c22; try clear c22b0; try clear c23; try clear c23b0; try clear c24; try clear c24b0; try clear c25; try clear p25; try clear q25; try clear hx25; try clear hf25; try clear c26; try clear p26; try clear q26; try clear hx26; try clear hf26; try clear p27; try clear q27; try clear hx27; try clear c29; try clear c30; try clear c31; try clear c31b0; try clear c31b1; try clear c32; try clear c32b0; try clear c33; try clear c33b0; try clear c34; try clear c34b0; try clear c36; try clear c36b0; try clear c37; try clear c37b0; try clear c43; try clear c43b0; try clear c44; try clear c44b0; try clear c46; try clear c46b0; try clear c47; try clear c47b0; try clear c48; try clear c48b0; try clear c49; try clear c49b0; try clear c50; try clear p50; try clear q50; try clear hx50; try clear hf50; try clear c51; try clear p51; try clear q51; try clear hx51; try clear hf51; try clear c54; try clear c55; try clear c57; try clear c57b0; try clear c58; try clear c58b0; try clear c60; try clear c60b0; try clear c61; try clear c61b0; try clear c63; try clear c63b0; try clear c64; try clear c64b0; try clear p64; try clear c70; try clear c70b0; try clear c72; try clear c72b0; try clear c74; try clear c79; try clear c79b0; try clear hx257_0; try clear hx257_1; try clear hx257_2; try clear hx258_0; try clear hx258_1; try clear hx258_2; try clear hx25_0; try clear hx25_1; try clear hx25_2; try clear hx260_0; try clear hx260_1; try clear hx260_2; try clear hx261_0; try clear hx261_1; try clear hx261_2; try clear hx264_0; try clear hx264_1; try clear hx264_2; try clear hx265_0; try clear hx265_1; try clear hx265_2; try clear hx267_0; try clear hx267_1; try clear hx267_2; try clear hx268_0; try clear hx268_1; try clear hx268_2; try clear hx26_0; try clear hx26_1; try clear hx26_2; try clear hx271_0; try clear hx271_1; try clear hx271_2; try clear hx272_0; try clear hx272_1; try clear hx272_2; try clear hx50_0; try clear hx50_1; try clear hx50_2; try clear hx51_0; try clear hx51_1; try clear hx51_2; try clear p2; try clear p25; try clear p257; try clear p258; try clear p26; try clear p260; try clear p261; try clear p264; try clear p265; try clear p267; try clear p268; try clear p27; try clear p271; try clear p272; try clear p5; try clear p50; try clear p51; try clear p6; try clear p64; try clear q2; try clear q25; try clear q257; try clear q258; try clear q26; try clear q260; try clear q261; try clear q264; try clear q265; try clear q267; try clear q268; try clear q27; try clear q271; try clear q272; try clear q5; try clear q50; try clear q51
  obtain ⟨kq, x199_77, rfl, HA, HJ77, HO_0, HK, HB⟩ := hcut
  cases kq with
  | zero => exact absurd HA.out (by simp [slices_symMergeCmpFunc_Item.j8])
  | succ kj77 =>
  have H := HA.out
  clear HA
  simp only [slices_symMergeCmpFunc_Item.j8] at H
  by_cases c80 : x199_77 = true
  rotate_left
  ·replace c80 := Bool.eq_false_iff.mpr c80
   subst c80
   rw [if_neg nf_] at H
   by_cases c91 : (wrap64 ((IntKind.u64.wrap (wrap64 (a1 + a3))) / 2)) < (wrap64 ((wrap64 ((wrap64 ((IntKind.u64.wrap (wrap64 (a1 + a3))) / 2)) + a2)) - x20_2))
   rotate_left
   ·rw [if_neg c91] at H
    have c91b0 := decide_eq_false c91
    clear c91
    obtain rfl := Option.some.inj H
    go_wp2
    first | go_end0 | ((try simp only [Exit.inBlock, Exit.then]); refine bodyPost_ret (results_none rfl _ _ _) rfl ?_)
    exact ⟨tq_3, (raR_ HO_0), th_, tq_0⟩
   rw [if_pos c91] at H
   have c91b0 := decide_eq_true c91
   clear c91
   by_cases c92 : (wrap64 ((wrap64 ((wrap64 ((IntKind.u64.wrap (wrap64 (a1 + a3))) / 2)) + a2)) - x20_2)) < a3
   rotate_left
   ·rw [if_neg c92] at H
    have c92b0 := decide_eq_false c92
    clear c92
    obtain rfl := Option.some.inj H
    go_wp2
    first | go_end0 | ((try simp only [Exit.inBlock, Exit.then]); refine bodyPost_ret (results_none rfl _ _ _) rfl ?_)
    exact ⟨tq_3, (raR_ HO_0), th_, tq_0⟩
   rw [if_pos c92] at H
   have c92b0 := decide_eq_true c92
   clear c92
   obtain ⟨t277, A93, H⟩ := bd_ H
   obtain rfl := Option.some.inj H
   obtain ⟨Ao94, co94, eo94⟩ := Kd.R_slice HO_0.out
   subst eo94
   go_wp2_with (first | ((with_reducible refine gate_callee (f := 43) rfl ?_); refine goesL_ (some 219) rfl rfl Tryd.func43 (by kernel_rfl) rfl #[.slice Ao94 x0_72.length co94, .int .i64 (wrap64 ((IntKind.u64.wrap (wrap64 (a1 + a3))) / 2)), .int .i64 (wrap64 ((wrap64 ((wrap64 ((IntKind.u64.wrap (wrap64 (a1 + a3))) / 2)) + a2)) - x20_2)), .int .i64 a3, .func (.func 17) #[] #[]] rfl tq_2 ?_; (with_reducible refine (ih kj77 tq_27 (fun k_ => some k_ = (.slice Ao94 x0_72.length co94 : Value).ownBlock) (.slice Ao94 x0_72.length co94) x0_72 (wrap64 ((IntKind.u64.wrap (wrap64 (a1 + a3))) / 2)) (wrap64 ((wrap64 ((wrap64 ((IntKind.u64.wrap (wrap64 (a1 + a3))) / 2)) + a2)) - x20_2)) a3 a4 t277 w0 _ ?side1 ?side2 A93.out).mono ?_); (case side1 => exact tq_8); (case side2 => exact Kd.R_tight rfl HO_0.out); rintro e w95 ⟨rfl, hy0, hb, hkp⟩; refine ⟨_, rfl, ?_⟩; have z_ := p_ (Kd.R_reok rfl hy0 (fun k_ e_ => HO_0.out.1 k_ e_)) <| p_ (Kept.then_ (S := (fun k_ => P0_ k_)) tq_0 hkp (fun k_ hs_ => (fun e_ => (HO_0.out.1 k_ e_.symm)) hs_)) <| a_ (hb); clear HO_0 HK HB; obtain ⟨HO_0, HK, HB⟩ := z_; (try clear hb); (try clear hkp); (try clear hy0)))
   first | go_end0 | ((try simp only [Exit.inBlock, Exit.then]); refine bodyPost_ret (results_none rfl _ _ _) rfl ?_)
   exact ⟨tq_3, (raR_ HO_0), th_, tq_0⟩
  subst c80
  rw [if_pos rfl] at H
  obtain ⟨t275, A81, H⟩ := bd_ H
  by_cases c82 : (wrap64 ((IntKind.u64.wrap (wrap64 (a1 + a3))) / 2)) < (wrap64 ((wrap64 ((wrap64 ((IntKind.u64.wrap (wrap64 (a1 + a3))) / 2)) + a2)) - x20_2))
  rotate_left
  ·rw [if_neg c82] at H
   have c82b0 := decide_eq_false c82
   clear c82
   obtain rfl := Option.some.inj H
   obtain ⟨Ao89, co89, eo89⟩ := Kd.R_slice HO_0.out
   subst eo89
   go_wp2_with (first | ((with_reducible refine gate_callee (f := 43) rfl ?_); refine goesL_ (some 205) rfl rfl Tryd.func43 (by kernel_rfl) rfl #[.slice Ao89 x0_72.length co89, .int .i64 a1, .int .i64 x20_2, .int .i64 (wrap64 ((IntKind.u64.wrap (wrap64 (a1 + a3))) / 2)), .func (.func 17) #[] #[]] rfl tq_2 ?_; (with_reducible refine (ih kj77 tq_27 (fun k_ => some k_ = (.slice Ao89 x0_72.length co89 : Value).ownBlock) (.slice Ao89 x0_72.length co89) x0_72 a1 x20_2 (wrap64 ((IntKind.u64.wrap (wrap64 (a1 + a3))) / 2)) a4 t275 w0 _ ?side1 ?side2 A81.out).mono ?_); (case side1 => exact tq_8); (case side2 => exact Kd.R_tight rfl HO_0.out); rintro e w90 ⟨rfl, hy0, hb, hkp⟩; refine ⟨_, rfl, ?_⟩; have z_ := p_ (Kd.R_reok rfl hy0 (fun k_ e_ => HO_0.out.1 k_ e_)) <| p_ (Kept.then_ (S := (fun k_ => P0_ k_)) tq_0 hkp (fun k_ hs_ => (fun e_ => (HO_0.out.1 k_ e_.symm)) hs_)) <| a_ (hb); clear HO_0 HK HB; obtain ⟨HO_0, HK, HB⟩ := z_; (try clear hb); (try clear hkp); (try clear hy0)))
   first | go_end0 | ((try simp only [Exit.inBlock, Exit.then]); refine bodyPost_ret (results_none rfl _ _ _) rfl ?_)
   exact ⟨tq_3, (raR_ HO_0), th_, tq_0⟩
  rw [if_pos c82] at H
  have c82b0 := decide_eq_true c82
  clear c82
  have HC83 := Aside0.mk H
  clear H
  obtain ⟨Ao84, co84, eo84⟩ := Kd.R_slice HO_0.out
  subst eo84
  go_upto_if 213 with (first | ((with_reducible refine gate_callee (f := 43) rfl ?_); refine goesL_ (some 205) rfl rfl Tryd.func43 (by kernel_rfl) rfl #[.slice Ao84 x0_72.length co84, .int .i64 a1, .int .i64 x20_2, .int .i64 (wrap64 ((IntKind.u64.wrap (wrap64 (a1 + a3))) / 2)), .func (.func 17) #[] #[]] rfl tq_2 ?_; (with_reducible refine (ih kj77 tq_27 (fun k_ => some k_ = (.slice Ao84 x0_72.length co84 : Value).ownBlock) (.slice Ao84 x0_72.length co84) x0_72 a1 x20_2 (wrap64 ((IntKind.u64.wrap (wrap64 (a1 + a3))) / 2)) a4 t275 w0 _ ?side1 ?side2 A81.out).mono ?_); (case side1 => exact tq_8); (case side2 => exact Kd.R_tight rfl HO_0.out); rintro e w85 ⟨rfl, hy0, hb, hkp⟩; refine ⟨_, rfl, ?_⟩; have z_ := p_ (Kd.R_reok rfl hy0 (fun k_ e_ => HO_0.out.1 k_ e_)) <| p_ (Kept.then_ (S := (fun k_ => P0_ k_)) tq_0 hkp (fun k_ hs_ => (fun e_ => (HO_0.out.1 k_ e_.symm)) hs_)) <| a_ (hb); clear HO_0 HK HB; obtain ⟨HO_0, HK, HB⟩ := z_; (try clear hb); (try clear hkp); (try clear hy0)))
  (try simp only [Act.put, List.setIfInBounds_toArray, List.set_cons_zero, List.set_cons_succ])
  have H := HC83.out
  clear HC83
  by_cases c86 : (wrap64 ((wrap64 ((wrap64 ((IntKind.u64.wrap (wrap64 (a1 + a3))) / 2)) + a2)) - x20_2)) < a3
  rotate_left
  ·rw [if_neg c86] at H
   have c86b0 := decide_eq_false c86
   clear c86
   (first | rw [c86b0] | (simp only [i64_w, i32_w]; rw [c86b0]) | skip)
   obtain rfl := Option.some.inj H
   go_wp2
   first | go_end0 | ((try simp only [Exit.inBlock, Exit.then]); refine bodyPost_ret (results_none rfl _ _ _) rfl ?_)
   exact ⟨tq_3, (raR_ HO_0), th_, tq_0⟩
  rw [if_pos c86] at H
  have c86b0 := decide_eq_true c86
  clear c86
  (first | rw [c86b0] | (simp only [i64_w, i32_w]; rw [c86b0]) | skip)
  obtain ⟨t276, A87, H⟩ := bd_ H
  obtain rfl := Option.some.inj H
  go_wp2_with (first | ((with_reducible refine gate_callee (f := 43) rfl ?_); refine goesL_ (some 219) rfl rfl Tryd.func43 (by kernel_rfl) rfl #[.slice Ao84 x0_72.length co84, .int .i64 (wrap64 ((IntKind.u64.wrap (wrap64 (a1 + a3))) / 2)), .int .i64 (wrap64 ((wrap64 ((wrap64 ((IntKind.u64.wrap (wrap64 (a1 + a3))) / 2)) + a2)) - x20_2)), .int .i64 a3, .func (.func 17) #[] #[]] rfl tq_2 ?_; (with_reducible refine (ih kj77 tq_27 (fun k_ => some k_ = (.slice Ao84 x0_72.length co84 : Value).ownBlock) (.slice Ao84 x0_72.length co84) t275 (wrap64 ((IntKind.u64.wrap (wrap64 (a1 + a3))) / 2)) (wrap64 ((wrap64 ((wrap64 ((IntKind.u64.wrap (wrap64 (a1 + a3))) / 2)) + a2)) - x20_2)) a3 a4 t276 w0 _ ?side1 ?side2 A87.out).mono ?_); (case side1 => exact tq_8); (case side2 => exact Kd.R_tight rfl HO_0.out); rintro e w88 ⟨rfl, hy0, hb, hkp⟩; refine ⟨_, rfl, ?_⟩; have z_ := p_ (Kd.R_reok rfl hy0 (fun k_ e_ => HO_0.out.1 k_ e_)) <| p_ (Kept.then_ (S := (fun k_ => P0_ k_)) tq_0 hkp (fun k_ hs_ => (fun e_ => (HO_0.out.1 k_ e_.symm)) hs_)) <| a_ (hb); clear HO_0 HK HB; obtain ⟨HO_0, HK, HB⟩ := z_; (try clear hb); (try clear hkp); (try clear hy0)))
  first | go_end0 | ((try simp only [Exit.inBlock, Exit.then]); refine bodyPost_ret (results_none rfl _ _ _) rfl ?_)
  exact ⟨tq_3, (raR_ HO_0), th_, tq_0⟩

end Go.Proofs.YtmddplifammohaaDoor.PFnExactMovedItems
