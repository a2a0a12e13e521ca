/- Contracts of Go functions, written by a program of ours over the print of the kit: each says that the call returns what the Lean function beside it computes. Conditions: as each theorem states them. -/
import Derived.Test.YtfgammfdaiicpaaPFnTouchedx0
import Derived.Test.YtfgammfdaiicpaaPFnTouchedx1
import Derived.Test.YtfgammfdaiicpaaPFnTouchedx4
import Derived.Test.YtfgammfdaiicpaaPFnTouchedx5
import Derived.Test.YtfgammfdaiicpaaPFnTouchedx6
import Derived.Test.YtfgammfdaiicpaaPFnTouchedx7
namespace Go.Proofs.Ytfgammfdaiicpaa.PFnTouched
open Go.RowKit Go.Proofs.YtfgammfdaiicpaaW.PrintWords Go.Proofs.YtfgammfdaiicpaaW.PrintLast Go.Proofs.YtfgammfdaiicpaaW.PrintMore
attribute [local go_sem] max2_int min2_int max_two min_two max_three min_three max_four min_four   -- for this text's walks alone
set_option linter.unusedVariables false
set_option linter.unusedSimpArgs false

/-! ### laws_FnTouched: function 6 -/
mutual
def laws_FnTouched.j0 : Nat → Int → List Int → Bool → Int → ByteArray → ByteArray → Int → Int → ByteArray → Option (Bool)
  | 0, _, _, _, _, _, _, _, _, _ => none
  | k + 1, x3, x5, x33, x369000, x369001, x369002, x369003, x369004, x369005 => if x33 = true then (some false) else (if x3 < 0 then (laws_FnTouched.j1 k x3 x5 true x369000 x369001 x369002 x369003 x369004 x369005) else (laws_FnTouched.j1 k x3 x5 (decide (x3 > 128)) x369000 x369001 x369002 x369003 x369004 x369005))
def laws_FnTouched.j1 : Nat → Int → List Int → Bool → Int → ByteArray → ByteArray → Int → Int → ByteArray → Option (Bool)
  | 0, _, _, _, _, _, _, _, _, _ => none
  | k + 1, x3, x5, x39, x369000, x369001, x369002, x369003, x369004, x369005 => if x39 = true then (some ((x5.length : Int) == 0)) else (laws_FnTouched.l0 k x3 x5 (⟨#[]⟩ : ByteArray) x369000 x369001 x369002 x369003 x369004 x369005)
def laws_FnTouched.l0 : Nat → Int → List Int → ByteArray → Int → ByteArray → ByteArray → Int → Int → ByteArray → Option (Bool)
  | 0, _, _, _, _, _, _, _, _, _ => none
  | k + 1, x3, x5, x6, x369000, x369001, x369002, x369003, x369004, x369005 => if (x6.size : Int) < x3 then (if x6.size + 1 ≤ 9223372036854775807 then (laws_FnTouched.l0 k x3 x5 (x6 ++ (⟨#[113]⟩ : ByteArray)) x369000 x369001 x369002 x369003 x369004 x369005) else (none)) else (if x369000 = 7 then ((spec_TextWith.f k x6 x369003 x369005).bind fun t377 => (laws_FnTouched.j3 k x5 x6 t377 x369000 x369001 x369002 x369003 x369004 x369005)) else (laws_FnTouched.j3 k x5 x6 x6 x369000 x369001 x369002 x369003 x369004 x369005))
def laws_FnTouched.j3 : Nat → List Int → ByteArray → ByteArray → Int → ByteArray → ByteArray → Int → Int → ByteArray → Option (Bool)
  | 0, _, _, _, _, _, _, _, _, _ => none
  | k + 1, x5, x6, x7, x369000, x369001, x369002, x369003, x369004, x369005 => if x369000 = 8 then ((spec_TextCut.f k x6 x369004).bind fun t378 => (laws_FnTouched.j4 k x5 x6 t378)) else (laws_FnTouched.j4 k x5 x6 x7)
def laws_FnTouched.j4 : Nat → List Int → ByteArray → ByteArray → Option (Bool)
  | 0, _, _, _ => none
  | k + 1, x5, x6, x7 => laws_FnTouched.l1 k x5 x6 x7 0
def laws_FnTouched.l1 : Nat → List Int → ByteArray → ByteArray → Int → Option (Bool)
  | 0, _, _, _, _ => none
  | k + 1, x5, x6, x7, x8 => if x8 < 4 then ((impl_PageOf.f x6 x8).bind fun t381 => ((impl_PageOf.f x7 x8).bind fun t382 => (laws_FnTouched.l2 k x5 x6 x7 x8 t381 t382 false 0))) else ((impl_PageOf.f x7 0).bind fun t379 => ((spec_PageOf.f k x7 0).bind fun t380 => (some (t379.toList == t380.toList))))
def laws_FnTouched.l2 : Nat → List Int → ByteArray → ByteArray → Int → ByteArray → ByteArray → Bool → Int → Option (Bool)
  | 0, _, _, _, _, _, _, _, _ => none
  | k + 1, x5, x6, x7, x8, x9, x10, x11, x12 => if x12 < (x5.length : Int) then (if x11 = true then (laws_FnTouched.l2 k x5 x6 x7 x8 x9 x10 true (wrap64 (x12 + 1))) else (if 0 ≤ x12 then (laws_FnTouched.l2 k x5 x6 x7 x8 x9 x10 ((rd x5 x12) == x8) (wrap64 (x12 + 1))) else (none))) else (if (x9.size : Int) = 32 then (if (x10.size : Int) = 32 then (if x11 = true then (laws_FnTouched.l1 k x5 x6 x7 (wrap64 (x8 + 1))) else (if x9.toList = x10.toList then (laws_FnTouched.l1 k x5 x6 x7 (wrap64 (x8 + 1))) else (if (wrap64 (x8 * 32)) < (x7.size : Int) then (some false) else (laws_FnTouched.l1 k x5 x6 x7 (wrap64 (x8 + 1)))))) else (some false)) else (some false))
end
def laws_FnTouched.f (k : Nat) (l0 : List Int) : Option (Bool) := (laws_big.f l0).bind fun t360 => (if t360 = true then (some true) else ((spec_DrawTouchedBy.f k l0).bind fun bt361 => ((impl_TouchedBy.f k bt361.1 bt361.2.1 bt361.2.2.1 bt361.2.2.2.1 bt361.2.2.2.2.1 bt361.2.2.2.2.2.1 bt361.2.2.2.2.2.2).bind fun t369 => ((spec_TouchedBy.f k bt361.1 bt361.2.1 bt361.2.2.1 bt361.2.2.2.1 bt361.2.2.2.2.1 bt361.2.2.2.2.2.1 bt361.2.2.2.2.2.2).bind fun t372 => ((laws_sameInts.f k t369 t372).bind fun t375 => (if t375 = true then ((impl_PageOf.f (⟨#[97, 98]⟩ : ByteArray) 0).bind fun t376 => (laws_FnTouched.j0 k bt361.1 t369 ((t376.size : Int) != 32) bt361.2.1 bt361.2.2.1 bt361.2.2.2.1 bt361.2.2.2.2.1 bt361.2.2.2.2.2.1 bt361.2.2.2.2.2.2)) else (laws_FnTouched.j0 k bt361.1 t369 true bt361.2.1 bt361.2.2.1 bt361.2.2.2.1 bt361.2.2.2.2.1 bt361.2.2.2.2.2.1 bt361.2.2.2.2.2.2)))))))
theorem laws_FnTouched.mono_l : ∀ k, (∀ y0 y1 y2 y3 y4 y5 y6 y7 y8, LeO (laws_FnTouched.j0 k y0 y1 y2 y3 y4 y5 y6 y7 y8) (laws_FnTouched.j0 (k + 1) y0 y1 y2 y3 y4 y5 y6 y7 y8)) ∧ (∀ y0 y1 y2 y3 y4 y5 y6 y7 y8, LeO (laws_FnTouched.j1 k y0 y1 y2 y3 y4 y5 y6 y7 y8) (laws_FnTouched.j1 (k + 1) y0 y1 y2 y3 y4 y5 y6 y7 y8)) ∧ (∀ y0 y1 y2 y3 y4 y5 y6 y7 y8, LeO (laws_FnTouched.l0 k y0 y1 y2 y3 y4 y5 y6 y7 y8) (laws_FnTouched.l0 (k + 1) y0 y1 y2 y3 y4 y5 y6 y7 y8)) ∧ (∀ y0 y1 y2 y3 y4 y5 y6 y7 y8, LeO (laws_FnTouched.j3 k y0 y1 y2 y3 y4 y5 y6 y7 y8) (laws_FnTouched.j3 (k + 1) y0 y1 y2 y3 y4 y5 y6 y7 y8)) ∧ (∀ y0 y1 y2, LeO (laws_FnTouched.j4 k y0 y1 y2) (laws_FnTouched.j4 (k + 1) y0 y1 y2)) ∧ (∀ y0 y1 y2 y3, LeO (laws_FnTouched.l1 k y0 y1 y2 y3) (laws_FnTouched.l1 (k + 1) y0 y1 y2 y3)) ∧ (∀ y0 y1 y2 y3 y4 y5 y6 y7, LeO (laws_FnTouched.l2 k y0 y1 y2 y3 y4 y5 y6 y7) (laws_FnTouched.l2 (k + 1) y0 y1 y2 y3 y4 y5 y6 y7))
  | 0 => ⟨fun _ _ _ _ _ _ _ _ _ r h => by simp [laws_FnTouched.j0] at h, fun _ _ _ _ _ _ _ _ _ r h => by simp [laws_FnTouched.j1] at h, fun _ _ _ _ _ _ _ _ _ r h => by simp [laws_FnTouched.l0] at h, fun _ _ _ _ _ _ _ _ _ r h => by simp [laws_FnTouched.j3] at h, fun _ _ _ r h => by simp [laws_FnTouched.j4] at h, fun _ _ _ _ r h => by simp [laws_FnTouched.l1] at h, fun _ _ _ _ _ _ _ _ r h => by simp [laws_FnTouched.l2] at h⟩
  | k + 1 => by
    obtain ⟨ih0, ih1, ih2, ih3, ih4, ih5, ih6⟩ := laws_FnTouched.mono_l k
    refine ⟨?_, ?_, ?_, ?_, ?_, ?_, ?_⟩
    · intro y0 y1 y2 y3 y4 y5 y6 y7 y8
      unfold laws_FnTouched.j0
      repeat' first
      | (with_reducible exact ih0 _ _ _ _ _ _ _ _ _)
      | (with_reducible exact ih1 _ _ _ _ _ _ _ _ _)
      | (with_reducible exact ih2 _ _ _ _ _ _ _ _ _)
      | (with_reducible exact ih3 _ _ _ _ _ _ _ _ _)
      | (with_reducible exact ih4 _ _ _)
      | (with_reducible exact ih5 _ _ _ _)
      | (with_reducible exact ih6 _ _ _ _ _ _ _ _)
      | (with_reducible exact impl_TouchedBy.mono _ _ _ _ _ _ _ _)
      | (with_reducible exact laws_sameInts.mono _ _ _)
      | (with_reducible exact spec_DrawTouchedBy.mono _ _)
      | (with_reducible exact spec_PageOf.mono _ _ _)
      | (with_reducible exact spec_TextCut.mono _ _ _)
      | (with_reducible exact spec_TextWith.mono _ _ _ _)
      | (with_reducible exact spec_TouchedBy.mono _ _ _ _ _ _ _ _)
      | (with_reducible exact LeO.refl _)
      | (with_reducible exact LeO.none _)
      | (with_reducible refine LeO.ite ?_ ?_)
      | (with_reducible refine LeO.bind ?_ (fun _ => ?_))
      | exact ih0 _ _ _ _ _ _ _ _ _
      | exact ih1 _ _ _ _ _ _ _ _ _
      | exact ih2 _ _ _ _ _ _ _ _ _
      | exact ih3 _ _ _ _ _ _ _ _ _
      | exact ih4 _ _ _
      | exact ih5 _ _ _ _
      | exact ih6 _ _ _ _ _ _ _ _
      | exact impl_TouchedBy.mono _ _ _ _ _ _ _ _
      | exact laws_sameInts.mono _ _ _
      | exact spec_DrawTouchedBy.mono _ _
      | exact spec_PageOf.mono _ _ _
      | exact spec_TextCut.mono _ _ _
      | exact spec_TextWith.mono _ _ _ _
      | exact spec_TouchedBy.mono _ _ _ _ _ _ _ _
      | exact LeO.none _
      | refine LeO.ite ?_ ?_
      | refine LeO.bind ?_ (fun _ => ?_)
    · intro y0 y1 y2 y3 y4 y5 y6 y7 y8
      unfold laws_FnTouched.j1
      repeat' first
      | (with_reducible exact ih0 _ _ _ _ _ _ _ _ _)
      | (with_reducible exact ih1 _ _ _ _ _ _ _ _ _)
      | (with_reducible exact ih2 _ _ _ _ _ _ _ _ _)
      | (with_reducible exact ih3 _ _ _ _ _ _ _ _ _)
      | (with_reducible exact ih4 _ _ _)
      | (with_reducible exact ih5 _ _ _ _)
      | (with_reducible exact ih6 _ _ _ _ _ _ _ _)
      | (with_reducible exact impl_TouchedBy.mono _ _ _ _ _ _ _ _)
      | (with_reducible exact laws_sameInts.mono _ _ _)
      | (with_reducible exact spec_DrawTouchedBy.mono _ _)
      | (with_reducible exact spec_PageOf.mono _ _ _)
      | (with_reducible exact spec_TextCut.mono _ _ _)
      | (with_reducible exact spec_TextWith.mono _ _ _ _)
      | (with_reducible exact spec_TouchedBy.mono _ _ _ _ _ _ _ _)
      | (with_reducible exact LeO.refl _)
      | (with_reducible exact LeO.none _)
      | (with_reducible refine LeO.ite ?_ ?_)
      | (with_reducible refine LeO.bind ?_ (fun _ => ?_))
      | exact ih0 _ _ _ _ _ _ _ _ _
      | exact ih1 _ _ _ _ _ _ _ _ _
      | exact ih2 _ _ _ _ _ _ _ _ _
      | exact ih3 _ _ _ _ _ _ _ _ _
      | exact ih4 _ _ _
      | exact ih5 _ _ _ _
      | exact ih6 _ _ _ _ _ _ _ _
      | exact impl_TouchedBy.mono _ _ _ _ _ _ _ _
      | exact laws_sameInts.mono _ _ _
      | exact spec_DrawTouchedBy.mono _ _
      | exact spec_PageOf.mono _ _ _
      | exact spec_TextCut.mono _ _ _
      | exact spec_TextWith.mono _ _ _ _
      | exact spec_TouchedBy.mono _ _ _ _ _ _ _ _
      | exact LeO.none _
      | refine LeO.ite ?_ ?_
      | refine LeO.bind ?_ (fun _ => ?_)
    · intro y0 y1 y2 y3 y4 y5 y6 y7 y8
      unfold laws_FnTouched.l0
      repeat' first
      | (with_reducible exact ih0 _ _ _ _ _ _ _ _ _)
      | (with_reducible exact ih1 _ _ _ _ _ _ _ _ _)
      | (with_reducible exact ih2 _ _ _ _ _ _ _ _ _)
      | (with_reducible exact ih3 _ _ _ _ _ _ _ _ _)
      | (with_reducible exact ih4 _ _ _)
      | (with_reducible exact ih5 _ _ _ _)
      | (with_reducible exact ih6 _ _ _ _ _ _ _ _)
      | (with_reducible exact impl_TouchedBy.mono _ _ _ _ _ _ _ _)
      | (with_reducible exact laws_sameInts.mono _ _ _)
      | (with_reducible exact spec_DrawTouchedBy.mono _ _)
      | (with_reducible exact spec_PageOf.mono _ _ _)
      | (with_reducible exact spec_TextCut.mono _ _ _)
      | (with_reducible exact spec_TextWith.mono _ _ _ _)
      | (with_reducible exact spec_TouchedBy.mono _ _ _ _ _ _ _ _)
      | (with_reducible exact LeO.refl _)
      | (with_reducible exact LeO.none _)
      | (with_reducible refine LeO.ite ?_ ?_)
      | (with_reducible refine LeO.bind ?_ (fun _ => ?_))
      | exact ih0 _ _ _ _ _ _ _ _ _
      | exact ih1 _ _ _ _ _ _ _ _ _
      | exact ih2 _ _ _ _ _ _ _ _ _
      | exact ih3 _ _ _ _ _ _ _ _ _
      | exact ih4 _ _ _
      | exact ih5 _ _ _ _
      | exact ih6 _ _ _ _ _ _ _ _
      | exact impl_TouchedBy.mono _ _ _ _ _ _ _ _
      | exact laws_sameInts.mono _ _ _
      | exact spec_DrawTouchedBy.mono _ _
      | exact spec_PageOf.mono _ _ _
      | exact spec_TextCut.mono _ _ _
      | exact spec_TextWith.mono _ _ _ _
      | exact spec_TouchedBy.mono _ _ _ _ _ _ _ _
      | exact LeO.none _
      | refine LeO.ite ?_ ?_
      | refine LeO.bind ?_ (fun _ => ?_)
    · intro y0 y1 y2 y3 y4 y5 y6 y7 y8
      unfold laws_FnTouched.j3
      repeat' first
      | (with_reducible exact ih0 _ _ _ _ _ _ _ _ _)
      | (with_reducible exact ih1 _ _ _ _ _ _ _ _ _)
      | (with_reducible exact ih2 _ _ _ _ _ _ _ _ _)
      | (with_reducible exact ih3 _ _ _ _ _ _ _ _ _)
      | (with_reducible exact ih4 _ _ _)
      | (with_reducible exact ih5 _ _ _ _)
      | (with_reducible exact ih6 _ _ _ _ _ _ _ _)
      | (with_reducible exact impl_TouchedBy.mono _ _ _ _ _ _ _ _)
      | (with_reducible exact laws_sameInts.mono _ _ _)
      | (with_reducible exact spec_DrawTouchedBy.mono _ _)
      | (with_reducible exact spec_PageOf.mono _ _ _)
      | (with_reducible exact spec_TextCut.mono _ _ _)
      | (with_reducible exact spec_TextWith.mono _ _ _ _)
      | (with_reducible exact spec_TouchedBy.mono _ _ _ _ _ _ _ _)
      | (with_reducible exact LeO.refl _)
      | (with_reducible exact LeO.none _)
      | (with_reducible refine LeO.ite ?_ ?_)
      | (with_reducible refine LeO.bind ?_ (fun _ => ?_))
      | exact ih0 _ _ _ _ _ _ _ _ _
      | exact ih1 _ _ _ _ _ _ _ _ _
      | exact ih2 _ _ _ _ _ _ _ _ _
      | exact ih3 _ _ _ _ _ _ _ _ _
      | exact ih4 _ _ _
      | exact ih5 _ _ _ _
      | exact ih6 _ _ _ _ _ _ _ _
      | exact impl_TouchedBy.mono _ _ _ _ _ _ _ _
      | exact laws_sameInts.mono _ _ _
      | exact spec_DrawTouchedBy.mono _ _
      | exact spec_PageOf.mono _ _ _
      | exact spec_TextCut.mono _ _ _
      | exact spec_TextWith.mono _ _ _ _
      | exact spec_TouchedBy.mono _ _ _ _ _ _ _ _
      | exact LeO.none _
      | refine LeO.ite ?_ ?_
      | refine LeO.bind ?_ (fun _ => ?_)
    · intro y0 y1 y2
      unfold laws_FnTouched.j4
      repeat' first
      | (with_reducible exact ih0 _ _ _ _ _ _ _ _ _)
      | (with_reducible exact ih1 _ _ _ _ _ _ _ _ _)
      | (with_reducible exact ih2 _ _ _ _ _ _ _ _ _)
      | (with_reducible exact ih3 _ _ _ _ _ _ _ _ _)
      | (with_reducible exact ih4 _ _ _)
      | (with_reducible exact ih5 _ _ _ _)
      | (with_reducible exact ih6 _ _ _ _ _ _ _ _)
      | (with_reducible exact impl_TouchedBy.mono _ _ _ _ _ _ _ _)
      | (with_reducible exact laws_sameInts.mono _ _ _)
      | (with_reducible exact spec_DrawTouchedBy.mono _ _)
      | (with_reducible exact spec_PageOf.mono _ _ _)
      | (with_reducible exact spec_TextCut.mono _ _ _)
      | (with_reducible exact spec_TextWith.mono _ _ _ _)
      | (with_reducible exact spec_TouchedBy.mono _ _ _ _ _ _ _ _)
      | (with_reducible exact LeO.refl _)
      | (with_reducible exact LeO.none _)
      | (with_reducible refine LeO.ite ?_ ?_)
      | (with_reducible refine LeO.bind ?_ (fun _ => ?_))
      | exact ih0 _ _ _ _ _ _ _ _ _
      | exact ih1 _ _ _ _ _ _ _ _ _
      | exact ih2 _ _ _ _ _ _ _ _ _
      | exact ih3 _ _ _ _ _ _ _ _ _
      | exact ih4 _ _ _
      | exact ih5 _ _ _ _
      | exact ih6 _ _ _ _ _ _ _ _
      | exact impl_TouchedBy.mono _ _ _ _ _ _ _ _
      | exact laws_sameInts.mono _ _ _
      | exact spec_DrawTouchedBy.mono _ _
      | exact spec_PageOf.mono _ _ _
      | exact spec_TextCut.mono _ _ _
      | exact spec_TextWith.mono _ _ _ _
      | exact spec_TouchedBy.mono _ _ _ _ _ _ _ _
      | exact LeO.none _
      | refine LeO.ite ?_ ?_
      | refine LeO.bind ?_ (fun _ => ?_)
    · intro y0 y1 y2 y3
      unfold laws_FnTouched.l1
      repeat' first
      | (with_reducible exact ih0 _ _ _ _ _ _ _ _ _)
      | (with_reducible exact ih1 _ _ _ _ _ _ _ _ _)
      | (with_reducible exact ih2 _ _ _ _ _ _ _ _ _)
      | (with_reducible exact ih3 _ _ _ _ _ _ _ _ _)
      | (with_reducible exact ih4 _ _ _)
      | (with_reducible exact ih5 _ _ _ _)
      | (with_reducible exact ih6 _ _ _ _ _ _ _ _)
      | (with_reducible exact impl_TouchedBy.mono _ _ _ _ _ _ _ _)
      | (with_reducible exact laws_sameInts.mono _ _ _)
      | (with_reducible exact spec_DrawTouchedBy.mono _ _)
      | (with_reducible exact spec_PageOf.mono _ _ _)
      | (with_reducible exact spec_TextCut.mono _ _ _)
      | (with_reducible exact spec_TextWith.mono _ _ _ _)
      | (with_reducible exact spec_TouchedBy.mono _ _ _ _ _ _ _ _)
      | (with_reducible exact LeO.refl _)
      | (with_reducible exact LeO.none _)
      | (with_reducible refine LeO.ite ?_ ?_)
      | (with_reducible refine LeO.bind ?_ (fun _ => ?_))
      | exact ih0 _ _ _ _ _ _ _ _ _
      | exact ih1 _ _ _ _ _ _ _ _ _
      | exact ih2 _ _ _ _ _ _ _ _ _
      | exact ih3 _ _ _ _ _ _ _ _ _
      | exact ih4 _ _ _
      | exact ih5 _ _ _ _
      | exact ih6 _ _ _ _ _ _ _ _
      | exact impl_TouchedBy.mono _ _ _ _ _ _ _ _
      | exact laws_sameInts.mono _ _ _
      | exact spec_DrawTouchedBy.mono _ _
      | exact spec_PageOf.mono _ _ _
      | exact spec_TextCut.mono _ _ _
      | exact spec_TextWith.mono _ _ _ _
      | exact spec_TouchedBy.mono _ _ _ _ _ _ _ _
      | exact LeO.none _
      | refine LeO.ite ?_ ?_
      | refine LeO.bind ?_ (fun _ => ?_)
    · intro y0 y1 y2 y3 y4 y5 y6 y7
      unfold laws_FnTouched.l2
      repeat' first
      | (with_reducible exact ih0 _ _ _ _ _ _ _ _ _)
      | (with_reducible exact ih1 _ _ _ _ _ _ _ _ _)
      | (with_reducible exact ih2 _ _ _ _ _ _ _ _ _)
      | (with_reducible exact ih3 _ _ _ _ _ _ _ _ _)
      | (with_reducible exact ih4 _ _ _)
      | (with_reducible exact ih5 _ _ _ _)
      | (with_reducible exact ih6 _ _ _ _ _ _ _ _)
      | (with_reducible exact impl_TouchedBy.mono _ _ _ _ _ _ _ _)
      | (with_reducible exact laws_sameInts.mono _ _ _)
      | (with_reducible exact spec_DrawTouchedBy.mono _ _)
      | (with_reducible exact spec_PageOf.mono _ _ _)
      | (with_reducible exact spec_TextCut.mono _ _ _)
      | (with_reducible exact spec_TextWith.mono _ _ _ _)
      | (with_reducible exact spec_TouchedBy.mono _ _ _ _ _ _ _ _)
      | (with_reducible exact LeO.refl _)
      | (with_reducible exact LeO.none _)
      | (with_reducible refine LeO.ite ?_ ?_)
      | (with_reducible refine LeO.bind ?_ (fun _ => ?_))
      | exact ih0 _ _ _ _ _ _ _ _ _
      | exact ih1 _ _ _ _ _ _ _ _ _
      | exact ih2 _ _ _ _ _ _ _ _ _
      | exact ih3 _ _ _ _ _ _ _ _ _
      | exact ih4 _ _ _
      | exact ih5 _ _ _ _
      | exact ih6 _ _ _ _ _ _ _ _
      | exact impl_TouchedBy.mono _ _ _ _ _ _ _ _
      | exact laws_sameInts.mono _ _ _
      | exact spec_DrawTouchedBy.mono _ _
      | exact spec_PageOf.mono _ _ _
      | exact spec_TextCut.mono _ _ _
      | exact spec_TextWith.mono _ _ _ _
      | exact spec_TouchedBy.mono _ _ _ _ _ _ _ _
      | exact LeO.none _
      | refine LeO.ite ?_ ?_
      | refine LeO.bind ?_ (fun _ => ?_)
theorem laws_FnTouched.mono : ∀ a0 k, LeO (laws_FnTouched.f k a0) (laws_FnTouched.f (k + 1) a0) := by
  intro a0 k
  obtain ⟨ih0, ih1, ih2, ih3, ih4, ih5, ih6⟩ := laws_FnTouched.mono_l k
  unfold laws_FnTouched.f
  repeat' first
      | (with_reducible exact ih0 _ _ _ _ _ _ _ _ _)
      | (with_reducible exact ih1 _ _ _ _ _ _ _ _ _)
      | (with_reducible exact ih2 _ _ _ _ _ _ _ _ _)
      | (with_reducible exact ih3 _ _ _ _ _ _ _ _ _)
      | (with_reducible exact ih4 _ _ _)
      | (with_reducible exact ih5 _ _ _ _)
      | (with_reducible exact ih6 _ _ _ _ _ _ _ _)
      | (with_reducible exact impl_TouchedBy.mono _ _ _ _ _ _ _ _)
      | (with_reducible exact laws_sameInts.mono _ _ _)
      | (with_reducible exact spec_DrawTouchedBy.mono _ _)
      | (with_reducible exact spec_PageOf.mono _ _ _)
      | (with_reducible exact spec_TextCut.mono _ _ _)
      | (with_reducible exact spec_TextWith.mono _ _ _ _)
      | (with_reducible exact spec_TouchedBy.mono _ _ _ _ _ _ _ _)
      | (with_reducible exact LeO.refl _)
      | (with_reducible exact LeO.none _)
      | (with_reducible refine LeO.ite ?_ ?_)
      | (with_reducible refine LeO.bind ?_ (fun _ => ?_))
      | exact ih0 _ _ _ _ _ _ _ _ _
      | exact ih1 _ _ _ _ _ _ _ _ _
      | exact ih2 _ _ _ _ _ _ _ _ _
      | exact ih3 _ _ _ _ _ _ _ _ _
      | exact ih4 _ _ _
      | exact ih5 _ _ _ _
      | exact ih6 _ _ _ _ _ _ _ _
      | exact impl_TouchedBy.mono _ _ _ _ _ _ _ _
      | exact laws_sameInts.mono _ _ _
      | exact spec_DrawTouchedBy.mono _ _
      | exact spec_PageOf.mono _ _ _
      | exact spec_TextCut.mono _ _ _
      | exact spec_TextWith.mono _ _ _ _
      | exact spec_TouchedBy.mono _ _ _ _ _ _ _ _
      | exact LeO.none _
      | refine LeO.ite ?_ ?_
      | refine LeO.bind ?_ (fun _ => ?_)
set_option maxHeartbeats 8000000 in
set_option maxRecDepth 100000 in
theorem laws_FnTouched.calls (k : Nat) (A0 : Option Addr) (c0 : Nat) (l0 : List Int) (r : Bool) (w : World) (hr0 : Kd.C (Kd.int .u8) w A0 l0.length l0) (hc0 : l0.length ≤ c0) (h : laws_FnTouched.f k l0 = some r) :
    Calls Try.prog 6 #[.slice A0 l0.length c0] w fun e w' => e = .returned (.bool r) ∧ Below w.heap.size w w' := by
  have hu61 := Try.underlying61
  have HR0 := Aside0.mk hr0
  have HC0 := Aside0.mk hc0
  clear hr0 hc0
  have HB := Aside0.mk (Below.refl w.heap.size w)
  have H : ((laws_big.f l0).bind fun t360 => (if t360 = true then (some true) else ((spec_DrawTouchedBy.f k l0).bind fun bt361 => ((impl_TouchedBy.f k bt361.1 bt361.2.1 bt361.2.2.1 bt361.2.2.2.1 bt361.2.2.2.2.1 bt361.2.2.2.2.2.1 bt361.2.2.2.2.2.2).bind fun t369 => ((spec_TouchedBy.f k bt361.1 bt361.2.1 bt361.2.2.1 bt361.2.2.2.1 bt361.2.2.2.2.1 bt361.2.2.2.2.2.1 bt361.2.2.2.2.2.2).bind fun t372 => ((laws_sameInts.f k t369 t372).bind fun t375 => (if t375 = true then ((impl_PageOf.f (⟨#[97, 98]⟩ : ByteArray) 0).bind fun t376 => (laws_FnTouched.j0 k bt361.1 t369 ((t376.size : Int) != 32) bt361.2.1 bt361.2.2.1 bt361.2.2.2.1 bt361.2.2.2.2.1 bt361.2.2.2.2.2.1 bt361.2.2.2.2.2.2)) else (laws_FnTouched.j0 k bt361.1 t369 true bt361.2.1 bt361.2.2.1 bt361.2.2.2.1 bt361.2.2.2.2.1 bt361.2.2.2.2.2.1 bt361.2.2.2.2.2.2)))))))) = some r := h
  clear h
  replace H := Option.bind_eq_some_iff.mp H
  obtain ⟨t360, A20, H⟩ := H
  replace H : (if t360 = true then (some true) else ((spec_DrawTouchedBy.f k l0).bind fun bt361 => ((impl_TouchedBy.f k bt361.1 bt361.2.1 bt361.2.2.1 bt361.2.2.2.1 bt361.2.2.2.2.1 bt361.2.2.2.2.2.1 bt361.2.2.2.2.2.2).bind fun t369 => ((spec_TouchedBy.f k bt361.1 bt361.2.1 bt361.2.2.1 bt361.2.2.2.1 bt361.2.2.2.2.1 bt361.2.2.2.2.2.1 bt361.2.2.2.2.2.2).bind fun t372 => ((laws_sameInts.f k t369 t372).bind fun t375 => (if t375 = true then ((impl_PageOf.f (⟨#[97, 98]⟩ : ByteArray) 0).bind fun t376 => (laws_FnTouched.j0 k bt361.1 t369 ((t376.size : Int) != 32) bt361.2.1 bt361.2.2.1 bt361.2.2.2.1 bt361.2.2.2.2.1 bt361.2.2.2.2.2.1 bt361.2.2.2.2.2.2)) else (laws_FnTouched.j0 k bt361.1 t369 true bt361.2.1 bt361.2.2.1 bt361.2.2.2.1 bt361.2.2.2.2.1 bt361.2.2.2.2.2.1 bt361.2.2.2.2.2.2))))))) = some r := H
  have A2 := Aside0.mk A20
  clear A20
  by_cases c3 : t360 = true
  · subst c3
    have H1 : (some true) = some r := by rw [if_pos rfl] at H; exact H
    clear H
    have H := H1
    clear H1
    obtain rfl := Option.some.inj H
    go_enter Try.func6, Try.ntmps6
    go_wp2_with (first | ((with_reducible refine gate_callee (f := 8) rfl ?_); refine goesL_ (some 14) rfl rfl Try.func8 (by kernel_rfl) rfl #[.slice A0 l0.length c0] rfl (by (try simp only [List.map_toArray, List.map_cons, List.map_nil]); first | done | rfl | (simp only [List.length_drop, List.length_take]; rfl)) ?_; (with_reducible refine (laws_big.calls _ _ l0 true _ ?side1 ?side2 A2.out).mono ?_); (case side1 => repeat (first | exact HR0.out | (with_reducible refine Kd.C_alloc ?_ _) | (with_reducible refine Kd.C_drewN ?_ _) | (with_reducible refine Kd.C_drew ?_))); (case side2 => exact HC0.out); rintro e w' ⟨rfl, ⟨nd, rfl⟩⟩; refine ⟨_, rfl, ?_⟩))
    go_ret
    exact ⟨by first | rfl | (simp [errW_none, errW_some] <;> rfl) | (simp [*, errW_none, errW_some] <;> rfl), by repeat (first | (with_reducible first | exact HB.out | apply below_alloc | apply pw_below_drewN | apply below_drew1) | exact HB.out)⟩
  · replace c3 := Bool.eq_false_iff.mpr c3
    subst c3
    have H1 : ((spec_DrawTouchedBy.f k l0).bind fun bt361 => ((impl_TouchedBy.f k bt361.1 bt361.2.1 bt361.2.2.1 bt361.2.2.2.1 bt361.2.2.2.2.1 bt361.2.2.2.2.2.1 bt361.2.2.2.2.2.2).bind fun t369 => ((spec_TouchedBy.f k bt361.1 bt361.2.1 bt361.2.2.1 bt361.2.2.2.1 bt361.2.2.2.2.1 bt361.2.2.2.2.2.1 bt361.2.2.2.2.2.2).bind fun t372 => ((laws_sameInts.f k t369 t372).bind fun t375 => (if t375 = true then ((impl_PageOf.f (⟨#[97, 98]⟩ : ByteArray) 0).bind fun t376 => (laws_FnTouched.j0 k bt361.1 t369 ((t376.size : Int) != 32) bt361.2.1 bt361.2.2.1 bt361.2.2.2.1 bt361.2.2.2.2.1 bt361.2.2.2.2.2.1 bt361.2.2.2.2.2.2)) else (laws_FnTouched.j0 k bt361.1 t369 true bt361.2.1 bt361.2.2.1 bt361.2.2.2.1 bt361.2.2.2.2.1 bt361.2.2.2.2.2.1 bt361.2.2.2.2.2.2)))))) = some r := by rw [if_neg (show ¬ (false = true) by decide)] at H; exact H
    clear H
    have H := H1
    clear H1
    replace H := Option.bind_eq_some_iff.mp H
    obtain ⟨⟨t361, t362, t363, t364, t365, t366, t367⟩, A40, H⟩ := H
    replace H : ((impl_TouchedBy.f k t361 t362 t363 t364 t365 t366 t367).bind fun t369 => ((spec_TouchedBy.f k t361 t362 t363 t364 t365 t366 t367).bind fun t372 => ((laws_sameInts.f k t369 t372).bind fun t375 => (if t375 = true then ((impl_PageOf.f (⟨#[97, 98]⟩ : ByteArray) 0).bind fun t376 => (laws_FnTouched.j0 k t361 t369 ((t376.size : Int) != 32) t362 t363 t364 t365 t366 t367)) else (laws_FnTouched.j0 k t361 t369 true t362 t363 t364 t365 t366 t367))))) = some r := H
    have A4 := Aside0.mk A40
    clear A40
    replace H := Option.bind_eq_some_iff.mp H
    obtain ⟨t369, A50, H⟩ := H
    replace H : ((spec_TouchedBy.f k t361 t362 t363 t364 t365 t366 t367).bind fun t372 => ((laws_sameInts.f k t369 t372).bind fun t375 => (if t375 = true then ((impl_PageOf.f (⟨#[97, 98]⟩ : ByteArray) 0).bind fun t376 => (laws_FnTouched.j0 k t361 t369 ((t376.size : Int) != 32) t362 t363 t364 t365 t366 t367)) else (laws_FnTouched.j0 k t361 t369 true t362 t363 t364 t365 t366 t367)))) = some r := H
    have A5 := Aside0.mk A50
    clear A50
    have HC6 := Aside0.mk H
    clear H
    go_enter Try.func6, Try.ntmps6
    go_upto_region 5 with (first | ((with_reducible refine gate_callee (f := 8) rfl ?_); refine goesL_ (some 14) rfl rfl Try.func8 (by kernel_rfl) rfl #[.slice A0 l0.length c0] rfl (by (try simp only [List.map_toArray, List.map_cons, List.map_nil]); first | done | rfl | (simp only [List.length_drop, List.length_take]; rfl)) ?_; (with_reducible refine (laws_big.calls _ _ l0 false _ ?side1 ?side2 A2.out).mono ?_); (case side1 => repeat (first | exact HR0.out | (with_reducible refine Kd.C_alloc ?_ _) | (with_reducible refine Kd.C_drewN ?_ _) | (with_reducible refine Kd.C_drew ?_))); (case side2 => exact HC0.out); rintro e w' ⟨rfl, ⟨nd, rfl⟩⟩; refine ⟨_, rfl, ?_⟩) | ((with_reducible refine gate_callee (f := 33) rfl ?_); refine goesL_ (some 17) rfl rfl Try.func33 (by kernel_rfl) rfl #[.slice A0 l0.length c0] rfl (by (try simp only [List.map_toArray, List.map_cons, List.map_nil]); first | done | rfl | (simp only [List.length_drop, List.length_take]; rfl)) ?_; (with_reducible refine (spec_DrawTouchedBy.calls k _ _ l0 t361 t362 t363 t364 t365 t366 t367 _ ?side1 ?side2 A4.out).mono ?_); (case side1 => repeat (first | exact HR0.out | (with_reducible refine Kd.C_alloc ?_ _) | (with_reducible refine Kd.C_drewN ?_ _) | (with_reducible refine Kd.C_drew ?_))); (case side2 => exact HC0.out); rintro e w7 ⟨rfl, hb⟩; refine ⟨_, rfl, ?_⟩; have n0_ := Aside0.mk (below_step (by repeat (first | (with_reducible first | exact HB.out | apply below_alloc | apply pw_below_drewN | apply below_drew1) | exact HB.out)) hb); clear HB; have HB := n0_; clear n0_; (try clear hb); (try clear hb2); (try clear hk); (try clear hi)) | ((with_reducible refine gate_dst (N := 4) rfl ?_); (try (refine gate_guard (by rfl) ?_; dsimp only)); refine box_event ?hg (N := 4) ?hd (cs := #[.int .i64 0, .string (⟨#[]⟩ : ByteArray), .string (⟨#[]⟩ : ByteArray), .int .i64 0, .int .i64 0, .string (⟨#[]⟩ : ByteArray)]) (t := 61) ?hr ?_; (case hd => rfl); (case hg => rfl); (case hr => first | (go_simp; done) | (go_simp; rfl)); intro gb368 hg w8 hbox hb; have n0_ := Aside0.mk (below_step (by repeat (first | (with_reducible first | exact HB.out | apply below_alloc | apply pw_below_drewN | apply below_drew1) | exact HB.out)) hb); have n1_ := Aside0.mk (hbox); have n2_ := Aside0.mk ((by rw [hg]; exact (below_size (by repeat (first | (with_reducible first | exact HB.out | apply below_alloc | apply pw_below_drewN | apply below_drew1) | exact HB.out))) : w.heap.size ≤ gb368)); have n3_ := Aside0.mk ((by rw [hg]; exact (below_size (by repeat (first | (with_reducible first | exact HB.out | apply below_alloc | apply pw_below_drewN | apply below_drew1) | exact HB.out))) : w.heap.size ≤ gb368)); clear HB; have HB := n0_; have BK368 := n1_; have GW368 := n2_; have GE368 := n3_; clear n0_ n1_ n2_ n3_; clear hb hbox hg; have hcz9_0 : w8.cell? ⟨gb368, 0, none⟩ = some (.int .i64 0) := (blk_cell BK368.out 0).trans rfl; have hcz9_1 : w8.cell? ⟨gb368, 1, none⟩ = some (.string (⟨#[]⟩ : ByteArray)) := (blk_cell BK368.out 1).trans rfl; have hcz9_2 : w8.cell? ⟨gb368, 2, none⟩ = some (.string (⟨#[]⟩ : ByteArray)) := (blk_cell BK368.out 2).trans rfl; have hcz9_3 : w8.cell? ⟨gb368, 3, none⟩ = some (.int .i64 0) := (blk_cell BK368.out 3).trans rfl; have hcz9_4 : w8.cell? ⟨gb368, 4, none⟩ = some (.int .i64 0) := (blk_cell BK368.out 4).trans rfl; have hcz9_5 : w8.cell? ⟨gb368, 5, none⟩ = some (.string (⟨#[]⟩ : ByteArray)) := (blk_cell BK368.out 5).trans rfl; have hfz9_0 := blk_frozen BK368.out 0; have hfz9_1 := blk_frozen BK368.out 1; have hfz9_2 := blk_frozen BK368.out 2; have hfz9_3 := blk_frozen BK368.out 3; have hfz9_4 := blk_frozen BK368.out 4; have hfz9_5 := blk_frozen BK368.out 5) | ((with_reducible refine gate_callee (f := 34) rfl ?_); refine goesL_ (some 22) rfl rfl Try.func34 (by kernel_rfl) rfl #[.int .i64 t361, .agg #[.int .i64 t362, .string t363, .string t364, .int .i64 t365, .int .i64 t366, .string t367]] rfl (by (try simp only [List.map_toArray, List.map_cons, List.map_nil]); first | done | rfl | (simp only [List.length_drop, List.length_take]; rfl)) ?_; (with_reducible refine (impl_TouchedBy.calls k t361 t362 t363 t364 t365 t366 t367 t369 _ A5.out).mono ?_); rintro e w10 ⟨v370, rfl, ho0, hb⟩; refine ⟨_, rfl, ?_⟩; have n0_ := Aside0.mk (Kd.R_lower ho0 (below_size (by repeat (first | (with_reducible first | exact HB.out | apply below_alloc | apply pw_below_drewN | apply below_drew1 | refine below_set ?_ GE368.out) | exact HB.out)))); have n1_ := Aside0.mk (blk_below (g := gb368) (o := .cells #[.int .i64 t362, .string t363, .string t364, .int .i64 t365, .int .i64 t366, .string t367] 61 (0, 0)) (by (with_reducible repeat (first | refine blk_drewN ?_ _ | refine blk_drew ?_ | refine blk_alloc ?_ _)); refine blk_put (cs := #[.int .i64 t362, .string t363, .string t364, .int .i64 t365, .int .i64 t366, .string (⟨#[]⟩ : ByteArray)]) ?_ 5 _ rfl; (with_reducible repeat (first | refine blk_drewN ?_ _ | refine blk_drew ?_ | refine blk_alloc ?_ _)); refine blk_put (cs := #[.int .i64 t362, .string t363, .string t364, .int .i64 t365, .int .i64 0, .string (⟨#[]⟩ : ByteArray)]) ?_ 4 _ rfl; (with_reducible repeat (first | refine blk_drewN ?_ _ | refine blk_drew ?_ | refine blk_alloc ?_ _)); refine blk_put (cs := #[.int .i64 t362, .string t363, .string t364, .int .i64 0, .int .i64 0, .string (⟨#[]⟩ : ByteArray)]) ?_ 3 _ rfl; (with_reducible repeat (first | refine blk_drewN ?_ _ | refine blk_drew ?_ | refine blk_alloc ?_ _)); refine blk_put (cs := #[.int .i64 t362, .string t363, .string (⟨#[]⟩ : ByteArray), .int .i64 0, .int .i64 0, .string (⟨#[]⟩ : ByteArray)]) ?_ 2 _ rfl; (with_reducible repeat (first | refine blk_drewN ?_ _ | refine blk_drew ?_ | refine blk_alloc ?_ _)); refine blk_put (cs := #[.int .i64 t362, .string (⟨#[]⟩ : ByteArray), .string (⟨#[]⟩ : ByteArray), .int .i64 0, .int .i64 0, .string (⟨#[]⟩ : ByteArray)]) ?_ 1 _ rfl; (with_reducible repeat (first | refine blk_drewN ?_ _ | refine blk_drew ?_ | refine blk_alloc ?_ _)); refine blk_put (cs := #[.int .i64 0, .string (⟨#[]⟩ : ByteArray), .string (⟨#[]⟩ : ByteArray), .int .i64 0, .int .i64 0, .string (⟨#[]⟩ : ByteArray)]) ?_ 0 _ rfl; (with_reducible repeat (first | refine blk_drewN ?_ _ | refine blk_drew ?_ | refine blk_alloc ?_ _)); exact BK368.out) hb); have n2_ := Aside0.mk (below_step (by repeat (first | (with_reducible first | exact HB.out | apply below_alloc | apply pw_below_drewN | apply below_drew1 | refine below_set ?_ GE368.out) | exact HB.out)) hb); clear BK368; clear HB; have HO371 := n0_; have BK368 := n1_; have HB := n2_; clear n0_ n1_ n2_; (try clear hb); (try clear hb2); (try clear hk); (try clear hi); (try clear ho0)))
    (try simp only [Act.put, List.setIfInBounds_toArray, List.set_cons_zero, List.set_cons_succ])
    go_cut [33] (fun v33 wc => ∃ (kq : Nat) (x33_5 : Bool), v33 = .bool x33_5 ∧ Aside0 (laws_FnTouched.j0 kq t361 t369 x33_5 t362 t363 t364 t365 t366 t367 = some r) ∧ Aside0 (kq ≤ k) ∧ Aside0 (Kd.R (Kd.int .i64) 3 wc w.heap.size (fun _ => True) v370 t369) ∧ Aside0 (wc.heap[gb368]? = some (.cells #[.int .i64 t362, .string t363, .string t364, .int .i64 t365, .int .i64 t366, .string t367] 61 (0, 0))) ∧ Aside0 (Below w.heap.size w wc))
    case first =>
      have H := HC6.out
      clear HC6
      replace H := Option.bind_eq_some_iff.mp H
      obtain ⟨t372, A110, H⟩ := H
      replace H : ((laws_sameInts.f k t369 t372).bind fun t375 => (if t375 = true then ((impl_PageOf.f (⟨#[97, 98]⟩ : ByteArray) 0).bind fun t376 => (laws_FnTouched.j0 k t361 t369 ((t376.size : Int) != 32) t362 t363 t364 t365 t366 t367)) else (laws_FnTouched.j0 k t361 t369 true t362 t363 t364 t365 t366 t367))) = some r := H
      have A11 := Aside0.mk A110
      clear A110
      replace H := Option.bind_eq_some_iff.mp H
      obtain ⟨t375, A120, H⟩ := H
      replace H : (if t375 = true then ((impl_PageOf.f (⟨#[97, 98]⟩ : ByteArray) 0).bind fun t376 => (laws_FnTouched.j0 k t361 t369 ((t376.size : Int) != 32) t362 t363 t364 t365 t366 t367)) else (laws_FnTouched.j0 k t361 t369 true t362 t363 t364 t365 t366 t367)) = some r := H
      have A12 := Aside0.mk A120
      clear A120
      by_cases c13 : t375 = true
      · subst c13
        have H1 : ((impl_PageOf.f (⟨#[97, 98]⟩ : ByteArray) 0).bind fun t376 => (laws_FnTouched.j0 k t361 t369 ((t376.size : Int) != 32) t362 t363 t364 t365 t366 t367)) = some r := by rw [if_pos rfl] at H; exact H
        clear H
        have H := H1
        clear H1
        replace H := Option.bind_eq_some_iff.mp H
        obtain ⟨t376, A140, H⟩ := H
        replace H : (laws_FnTouched.j0 k t361 t369 ((t376.size : Int) != 32) t362 t363 t364 t365 t366 t367) = some r := H
        have A14 := Aside0.mk A140
        clear A140
        have H' := Aside0.mk H
        clear H
        have hcz15_0 : w10.cell? ⟨gb368, 0, none⟩ = some (.int .i64 t362) := (blk_cell BK368.out 0).trans rfl
        have hcz15_1 : w10.cell? ⟨gb368, 1, none⟩ = some (.string t363) := (blk_cell BK368.out 1).trans rfl
        have hcz15_2 : w10.cell? ⟨gb368, 2, none⟩ = some (.string t364) := (blk_cell BK368.out 2).trans rfl
        have hcz15_3 : w10.cell? ⟨gb368, 3, none⟩ = some (.int .i64 t365) := (blk_cell BK368.out 3).trans rfl
        have hcz15_4 : w10.cell? ⟨gb368, 4, none⟩ = some (.int .i64 t366) := (blk_cell BK368.out 4).trans rfl
        have hcz15_5 : w10.cell? ⟨gb368, 5, none⟩ = some (.string t367) := (blk_cell BK368.out 5).trans rfl
        have hfz15_0 := blk_frozen BK368.out 0
        have hfz15_1 := blk_frozen BK368.out 1
        have hfz15_2 := blk_frozen BK368.out 2
        have hfz15_3 := blk_frozen BK368.out 3
        have hfz15_4 := blk_frozen BK368.out 4
        have hfz15_5 := blk_frozen BK368.out 5
        go_wp2_with (first | ((with_reducible refine gate_callee (f := 35) rfl ?_); refine goesL_ (some 26) rfl rfl Try.func35 (by kernel_rfl) rfl #[.int .i64 t361, .agg #[.int .i64 t362, .string t363, .string t364, .int .i64 t365, .int .i64 t366, .string t367]] rfl (by (try simp only [List.map_toArray, List.map_cons, List.map_nil]); first | done | rfl | (simp only [List.length_drop, List.length_take]; rfl)) ?_; (with_reducible refine (spec_TouchedBy.calls k t361 t362 t363 t364 t365 t366 t367 t372 _ A11.out).mono ?_); rintro e w16 ⟨v373, rfl, ho0, hb⟩; refine ⟨_, rfl, ?_⟩; have n0_ := Aside0.mk (Kd.R_elder' (by (with_reducible repeat (first | apply Kd.R_alloc | apply Kd.R_drewN | apply Kd.R_drew)); exact HO371.out) (Kd.R_base ho0) hb); have n1_ := Aside0.mk (Kd.R_lower (Kd.R_new' ho0 (Kd.R_lt (by (with_reducible repeat (first | apply Kd.R_alloc | apply Kd.R_drewN | apply Kd.R_drew)); exact HO371.out))) (below_size (by repeat (first | (with_reducible first | exact HB.out | apply below_alloc | apply pw_below_drewN | apply below_drew1 | refine below_set ?_ GE368.out) | exact HB.out)))); have n2_ := Aside0.mk (blk_below (g := gb368) (o := .cells #[.int .i64 t362, .string t363, .string t364, .int .i64 t365, .int .i64 t366, .string t367] 61 (0, 0)) (by (with_reducible repeat (first | refine blk_drewN ?_ _ | refine blk_drew ?_ | refine blk_alloc ?_ _)); exact BK368.out) hb); have n3_ := Aside0.mk (below_step (by repeat (first | (with_reducible first | exact HB.out | apply below_alloc | apply pw_below_drewN | apply below_drew1 | refine below_set ?_ GE368.out) | exact HB.out)) hb); clear HO371; clear BK368; clear HB; have HO371 := n0_; have HO374 := n1_; have BK368 := n2_; have HB := n3_; clear n0_ n1_ n2_ n3_; (try clear hb); (try clear hb2); (try clear hk); (try clear hi); (try clear ho0); obtain ⟨Ao17, co17, eo17⟩ := Kd.R_slice HO371.out; subst eo17; obtain ⟨Ao18, co18, eo18⟩ := Kd.R_slice HO374.out; subst eo18) | ((with_reducible refine gate_callee (f := 16) rfl ?_); refine goesL_ (some 27) rfl rfl Try.func16 (by kernel_rfl) rfl #[.slice Ao17 t369.length co17, .slice Ao18 t372.length co18] rfl (by (try simp only [List.map_toArray, List.map_cons, List.map_nil]); first | done | rfl | (simp only [List.length_drop, List.length_take]; rfl)) ?_; (with_reducible refine (laws_sameInts.calls k _ _ t369 _ _ t372 true _ ?side1 ?side2 ?side3 ?side4 A12.out).mono ?_); (case side1 => repeat (first | exact (Kd.R_reads' HO371.out).2.2 | (with_reducible refine Kd.C_alloc ?_ _) | (with_reducible refine Kd.C_drewN ?_ _) | (with_reducible refine Kd.C_drew ?_))); (case side2 => exact (Kd.R_reads' HO371.out).2.1); (case side3 => repeat (first | exact (Kd.R_reads' HO374.out).2.2 | (with_reducible refine Kd.C_alloc ?_ _) | (with_reducible refine Kd.C_drewN ?_ _) | (with_reducible refine Kd.C_drew ?_))); (case side4 => exact (Kd.R_reads' HO374.out).2.1); rintro e w' ⟨rfl, ⟨nd, rfl⟩⟩; refine ⟨_, rfl, ?_⟩) | (go_at_call 36; (with_reducible refine (impl_PageOf.calls (⟨#[97, 98]⟩ : ByteArray) 0 t376 _ A14.out).mono ?_); rintro e w19 ⟨rfl, hb⟩; have n0_ := Aside0.mk (Kd.R_below (by (with_reducible repeat (first | apply Kd.R_alloc | apply Kd.R_drewN | apply Kd.R_drew)); exact HO371.out) hb); have n1_ := Aside0.mk (Kd.R_below (by (with_reducible repeat (first | apply Kd.R_alloc | apply Kd.R_drewN | apply Kd.R_drew)); exact HO374.out) hb); have n2_ := Aside0.mk (blk_below (g := gb368) (o := .cells #[.int .i64 t362, .string t363, .string t364, .int .i64 t365, .int .i64 t366, .string t367] 61 (0, 0)) (by (with_reducible repeat (first | refine blk_drewN ?_ _ | refine blk_drew ?_ | refine blk_alloc ?_ _)); exact BK368.out) hb); have n3_ := Aside0.mk (below_step (by repeat (first | (with_reducible first | exact HB.out | apply below_alloc | apply pw_below_drewN | apply below_drew1 | refine below_set ?_ GE368.out) | exact HB.out)) hb); clear HO371; clear HO374; clear BK368; clear HB; have HO371 := n0_; have HO374 := n1_; have BK368 := n2_; have HB := n3_; clear n0_ n1_ n2_ n3_; (try clear hb); (try clear hb2); (try clear hk); (try clear hi)))
        go_meet
        case rel => exact ⟨_, (((t376.size : Int) != 32)), (by first | rfl | (simp; done) | (simp [*]; done)), H', ⟨by first | omega | exact Nat.le_refl _⟩, ⟨by (with_reducible repeat (first | apply Kd.R_alloc | apply Kd.R_drewN | apply Kd.R_drew)); exact Kd.R_mono HO371.out (fun _ hk => trivial)⟩, ⟨by (with_reducible repeat (first | refine blk_drewN ?_ _ | refine blk_drew ?_ | refine blk_alloc ?_ _)); exact BK368.out⟩, ⟨by repeat (first | (with_reducible first | exact HB.out | apply below_alloc | apply pw_below_drewN | apply below_drew1 | refine below_set ?_ GE368.out) | exact HB.out)⟩⟩
      · replace c13 := Bool.eq_false_iff.mpr c13
        subst c13
        have H1 : (laws_FnTouched.j0 k t361 t369 true t362 t363 t364 t365 t366 t367) = some r := by rw [if_neg (show ¬ (false = true) by decide)] at H; exact H
        clear H
        have H := H1
        clear H1
        have H' := Aside0.mk H
        clear H
        have hcz20_0 : w10.cell? ⟨gb368, 0, none⟩ = some (.int .i64 t362) := (blk_cell BK368.out 0).trans rfl
        have hcz20_1 : w10.cell? ⟨gb368, 1, none⟩ = some (.string t363) := (blk_cell BK368.out 1).trans rfl
        have hcz20_2 : w10.cell? ⟨gb368, 2, none⟩ = some (.string t364) := (blk_cell BK368.out 2).trans rfl
        have hcz20_3 : w10.cell? ⟨gb368, 3, none⟩ = some (.int .i64 t365) := (blk_cell BK368.out 3).trans rfl
        have hcz20_4 : w10.cell? ⟨gb368, 4, none⟩ = some (.int .i64 t366) := (blk_cell BK368.out 4).trans rfl
        have hcz20_5 : w10.cell? ⟨gb368, 5, none⟩ = some (.string t367) := (blk_cell BK368.out 5).trans rfl
        have hfz20_0 := blk_frozen BK368.out 0
        have hfz20_1 := blk_frozen BK368.out 1
        have hfz20_2 := blk_frozen BK368.out 2
        have hfz20_3 := blk_frozen BK368.out 3
        have hfz20_4 := blk_frozen BK368.out 4
        have hfz20_5 := blk_frozen BK368.out 5
        go_wp2_with (first | ((with_reducible refine gate_callee (f := 35) rfl ?_); refine goesL_ (some 26) rfl rfl Try.func35 (by kernel_rfl) rfl #[.int .i64 t361, .agg #[.int .i64 t362, .string t363, .string t364, .int .i64 t365, .int .i64 t366, .string t367]] rfl (by (try simp only [List.map_toArray, List.map_cons, List.map_nil]); first | done | rfl | (simp only [List.length_drop, List.length_take]; rfl)) ?_; (with_reducible refine (spec_TouchedBy.calls k t361 t362 t363 t364 t365 t366 t367 t372 _ A11.out).mono ?_); rintro e w21 ⟨v373, rfl, ho0, hb⟩; refine ⟨_, rfl, ?_⟩; have n0_ := Aside0.mk (Kd.R_elder' (by (with_reducible repeat (first | apply Kd.R_alloc | apply Kd.R_drewN | apply Kd.R_drew)); exact HO371.out) (Kd.R_base ho0) hb); have n1_ := Aside0.mk (Kd.R_lower (Kd.R_new' ho0 (Kd.R_lt (by (with_reducible repeat (first | apply Kd.R_alloc | apply Kd.R_drewN | apply Kd.R_drew)); exact HO371.out))) (below_size (by repeat (first | (with_reducible first | exact HB.out | apply below_alloc | apply pw_below_drewN | apply below_drew1 | refine below_set ?_ GE368.out) | exact HB.out)))); have n2_ := Aside0.mk (blk_below (g := gb368) (o := .cells #[.int .i64 t362, .string t363, .string t364, .int .i64 t365, .int .i64 t366, .string t367] 61 (0, 0)) (by (with_reducible repeat (first | refine blk_drewN ?_ _ | refine blk_drew ?_ | refine blk_alloc ?_ _)); exact BK368.out) hb); have n3_ := Aside0.mk (below_step (by repeat (first | (with_reducible first | exact HB.out | apply below_alloc | apply pw_below_drewN | apply below_drew1 | refine below_set ?_ GE368.out) | exact HB.out)) hb); clear HO371; clear BK368; clear HB; have HO371 := n0_; have HO374 := n1_; have BK368 := n2_; have HB := n3_; clear n0_ n1_ n2_ n3_; (try clear hb); (try clear hb2); (try clear hk); (try clear hi); (try clear ho0); obtain ⟨Ao22, co22, eo22⟩ := Kd.R_slice HO371.out; subst eo22; obtain ⟨Ao23, co23, eo23⟩ := Kd.R_slice HO374.out; subst eo23) | ((with_reducible refine gate_callee (f := 16) rfl ?_); refine goesL_ (some 27) rfl rfl Try.func16 (by kernel_rfl) rfl #[.slice Ao22 t369.length co22, .slice Ao23 t372.length co23] rfl (by (try simp only [List.map_toArray, List.map_cons, List.map_nil]); first | done | rfl | (simp only [List.length_drop, List.length_take]; rfl)) ?_; (with_reducible refine (laws_sameInts.calls k _ _ t369 _ _ t372 false _ ?side1 ?side2 ?side3 ?side4 A12.out).mono ?_); (case side1 => repeat (first | exact (Kd.R_reads' HO371.out).2.2 | (with_reducible refine Kd.C_alloc ?_ _) | (with_reducible refine Kd.C_drewN ?_ _) | (with_reducible refine Kd.C_drew ?_))); (case side2 => exact (Kd.R_reads' HO371.out).2.1); (case side3 => repeat (first | exact (Kd.R_reads' HO374.out).2.2 | (with_reducible refine Kd.C_alloc ?_ _) | (with_reducible refine Kd.C_drewN ?_ _) | (with_reducible refine Kd.C_drew ?_))); (case side4 => exact (Kd.R_reads' HO374.out).2.1); rintro e w' ⟨rfl, ⟨nd, rfl⟩⟩; refine ⟨_, rfl, ?_⟩))
        go_meet
        case rel => exact ⟨_, (true), (by first | rfl | (simp; done) | (simp [*]; done)), H', ⟨by first | omega | exact Nat.le_refl _⟩, ⟨by (with_reducible repeat (first | apply Kd.R_alloc | apply Kd.R_drewN | apply Kd.R_drew)); exact Kd.R_mono HO371.out (fun _ hk => trivial)⟩, ⟨by (with_reducible repeat (first | refine blk_drewN ?_ _ | refine blk_drew ?_ | refine blk_alloc ?_ _)); exact BK368.out⟩, ⟨by repeat (first | (with_reducible first | exact HB.out | apply below_alloc | apply pw_below_drewN | apply below_drew1 | refine below_set ?_ GE368.out) | exact HB.out)⟩⟩
    case rest =>
      clear HC6
      try clear c1
      try clear p2
      try clear c3
      try clear c6
      try clear c8
      try clear c13
      try clear c16
      try clear hcz15_0
      try clear hcz15_1
      try clear hcz15_2
      try clear hcz15_3
      try clear hcz15_4
      try clear hcz15_5
      try clear hcz20_0
      try clear hcz20_1
      try clear hcz20_2
      try clear hcz20_3
      try clear hcz20_4
      try clear hcz20_5
      try clear hcz9_0
      try clear hcz9_1
      try clear hcz9_2
      try clear hcz9_3
      try clear hcz9_4
      try clear hcz9_5
      try clear hfz15_0
      try clear hfz15_1
      try clear hfz15_2
      try clear hfz15_3
      try clear hfz15_4
      try clear hfz15_5
      try clear hfz20_0
      try clear hfz20_1
      try clear hfz20_2
      try clear hfz20_3
      try clear hfz20_4
      try clear hfz20_5
      try clear hfz9_0
      try clear hfz9_1
      try clear hfz9_2
      try clear hfz9_3
      try clear hfz9_4
      try clear hfz9_5
      obtain ⟨kq, x33_5, rfl, HA, HJ5, HO_5, BK368, HB⟩ := hcut
      cases kq with
      | zero => exact absurd HA.out (by simp [laws_FnTouched.j0])
      | succ kj5 =>
        have H := HA.out
        clear HA
        simp only [laws_FnTouched.j0] at H
        by_cases c24 : x33_5 = true
        · subst c24
          have H1 : (some false) = some r := by rw [if_pos rfl] at H; exact H
          clear H
          have H := H1
          clear H1
          obtain rfl := Option.some.inj H
          go_wp2
          go_ret
          exact ⟨by first | rfl | (simp [errW_none, errW_some] <;> rfl) | (simp [*, errW_none, errW_some] <;> rfl), by repeat (first | (with_reducible first | exact HB.out | apply below_alloc | apply pw_below_drewN | apply below_drew1 | refine below_set ?_ GE368.out) | exact HB.out)⟩
        · replace c24 := Bool.eq_false_iff.mpr c24
          subst c24
          have H1 : (if t361 < 0 then (laws_FnTouched.j1 kj5 t361 t369 true t362 t363 t364 t365 t366 t367) else (laws_FnTouched.j1 kj5 t361 t369 (decide (t361 > 128)) t362 t363 t364 t365 t366 t367)) = some r := by rw [if_neg (show ¬ (false = true) by decide)] at H; exact H
          clear H
          have H := H1
          clear H1
          have HC25 := Aside0.mk H
          clear H
          go_upto_region 7 with (fail)
          go_cut [39] (fun v39 wc => ∃ (kq : Nat) (x39_24 : Bool), v39 = .bool x39_24 ∧ Aside0 (laws_FnTouched.j1 kq t361 t369 x39_24 t362 t363 t364 t365 t366 t367 = some r) ∧ Aside0 (kq ≤ kj5) ∧ Aside0 (Kd.R (Kd.int .i64) 3 wc w.heap.size (fun _ => True) v370 t369) ∧ Aside0 (wc.heap[gb368]? = some (.cells #[.int .i64 t362, .string t363, .string t364, .int .i64 t365, .int .i64 t366, .string t367] 61 (0, 0))) ∧ Aside0 (Below w.heap.size w wc))
          case first =>
            have H := HC25.out
            clear HC25
            by_cases c26 : t361 < 0
            · rw [if_pos c26] at H
              have c26b0 : decide (t361 < 0) = true := decide_eq_true c26
              clear c26
              (first | rw [c26b0] | (simp only [i64_w, i32_w]; rw [c26b0]) | skip)
              have H' := Aside0.mk H
              clear H
              go_wp2
              go_meet
              case rel => exact ⟨_, (true), (by first | rfl | (simp; done) | (simp [*]; done)), H', ⟨by have := HJ5.out; first | omega | exact Nat.le_refl _⟩, ⟨by (with_reducible repeat (first | apply Kd.R_alloc | apply Kd.R_drewN | apply Kd.R_drew)); exact HO_5.out⟩, ⟨by (with_reducible repeat (first | refine blk_drewN ?_ _ | refine blk_drew ?_ | refine blk_alloc ?_ _)); exact BK368.out⟩, ⟨by repeat (first | (with_reducible first | exact HB.out | apply below_alloc | apply pw_below_drewN | apply below_drew1 | refine below_set ?_ GE368.out) | exact HB.out)⟩⟩
            · rw [if_neg c26] at H
              have c26b0 : decide (t361 < 0) = false := decide_eq_false c26
              clear c26
              (first | rw [c26b0] | (simp only [i64_w, i32_w]; rw [c26b0]) | skip)
              have H' := Aside0.mk H
              clear H
              go_wp2
              go_meet
              case rel => exact ⟨_, (decide (t361 > 128)), (by first | rfl | (simp; done) | (simp [*]; done)), H', ⟨by have := HJ5.out; first | omega | exact Nat.le_refl _⟩, ⟨by (with_reducible repeat (first | apply Kd.R_alloc | apply Kd.R_drewN | apply Kd.R_drew)); exact HO_5.out⟩, ⟨by (with_reducible repeat (first | refine blk_drewN ?_ _ | refine blk_drew ?_ | refine blk_alloc ?_ _)); exact BK368.out⟩, ⟨by repeat (first | (with_reducible first | exact HB.out | apply below_alloc | apply pw_below_drewN | apply below_drew1 | refine below_set ?_ GE368.out) | exact HB.out)⟩⟩
          case rest =>
            clear HC25
            try clear c1
            try clear c2
            try clear p2
            try clear c3
            try clear c6
            try clear c8
            try clear c13
            try clear c16
            try clear c24
            try clear c26
            try clear c26b0
            try clear hcz15_0
            try clear hcz15_1
            try clear hcz15_2
            try clear hcz15_3
            try clear hcz15_4
            try clear hcz15_5
            try clear hcz20_0
            try clear hcz20_1
            try clear hcz20_2
            try clear hcz20_3
            try clear hcz20_4
            try clear hcz20_5
            try clear hcz9_0
            try clear hcz9_1
            try clear hcz9_2
            try clear hcz9_3
            try clear hcz9_4
            try clear hcz9_5
            try clear hfz15_0
            try clear hfz15_1
            try clear hfz15_2
            try clear hfz15_3
            try clear hfz15_4
            try clear hfz15_5
            try clear hfz20_0
            try clear hfz20_1
            try clear hfz20_2
            try clear hfz20_3
            try clear hfz20_4
            try clear hfz20_5
            try clear hfz9_0
            try clear hfz9_1
            try clear hfz9_2
            try clear hfz9_3
            try clear hfz9_4
            try clear hfz9_5
            try clear p2
            obtain ⟨kq, x39_24, rfl, HA, HJ24, HO_5, BK368, HB⟩ := hcut
            cases kq with
            | zero => exact absurd HA.out (by simp [laws_FnTouched.j1])
            | succ kj24 =>
              have H := HA.out
              clear HA
              simp only [laws_FnTouched.j1] at H
              by_cases c27 : x39_24 = true
              · subst c27
                have H1 : (some ((t369.length : Int) == 0)) = some r := by rw [if_pos rfl] at H; exact H
                clear H
                have H := H1
                clear H1
                obtain rfl := Option.some.inj H
                obtain ⟨Ao28, co28, eo28⟩ := Kd.R_slice HO_5.out
                subst eo28
                go_wp2
                go_ret
                exact ⟨by first | rfl | (simp [errW_none, errW_some] <;> rfl) | (simp [*, errW_none, errW_some] <;> rfl), by repeat (first | (with_reducible first | exact HB.out | apply below_alloc | apply pw_below_drewN | apply below_drew1 | refine below_set ?_ GE368.out) | exact HB.out)⟩
              · replace c27 := Bool.eq_false_iff.mpr c27
                subst c27
                have H1 : (laws_FnTouched.l0 kj24 t361 t369 (⟨#[]⟩ : ByteArray) t362 t363 t364 t365 t366 t367) = some r := by rw [if_neg (show ¬ (false = true) by decide)] at H; exact H
                clear H
                have H := H1
                clear H1
                have H' := Aside0.mk H
                clear H
                go_wp2
                go_loopg [6] kj24 (fun kq v6 w' => ∃ (x6_3 : ByteArray), v6 = .string x6_3 ∧ Aside0 (laws_FnTouched.l0 kq t361 t369 x6_3 t362 t363 t364 t365 t366 t367 = some r) ∧ Aside0 (kq ≤ kj24) ∧ Aside0 (Kd.R (Kd.int .i64) 3 w' w.heap.size (fun _ => True) v370 t369) ∧ Aside0 (w'.heap[gb368]? = some (.cells #[.int .i64 t362, .string t363, .string t364, .int .i64 t365, .int .i64 t366, .string t367] 61 (0, 0))) ∧ Aside0 (Below w.heap.size w w'))
                case atStart => exact ⟨((⟨#[]⟩ : ByteArray)), (by first | rfl | (simp; done) | (simp [*]; done)), H', ⟨Nat.le_refl _⟩, ⟨by (with_reducible repeat (first | apply Kd.R_alloc | apply Kd.R_drewN | apply Kd.R_drew)); exact HO_5.out⟩, ⟨by (with_reducible repeat (first | refine blk_drewN ?_ _ | refine blk_drew ?_ | refine blk_alloc ?_ _)); exact BK368.out⟩, ⟨by repeat (first | (with_reducible first | exact HB.out | apply below_alloc | apply pw_below_drewN | apply below_drew1 | refine below_set ?_ GE368.out) | exact HB.out)⟩⟩
                case round =>
                  clear H'
                  try clear c1
                  try clear c2
                  try clear p2
                  try clear c3
                  try clear c6
                  try clear c8
                  try clear c13
                  try clear c16
                  try clear c24
                  try clear c26
                  try clear c26b0
                  try clear c27
                  try clear hcz15_0
                  try clear hcz15_1
                  try clear hcz15_2
                  try clear hcz15_3
                  try clear hcz15_4
                  try clear hcz15_5
                  try clear hcz20_0
                  try clear hcz20_1
                  try clear hcz20_2
                  try clear hcz20_3
                  try clear hcz20_4
                  try clear hcz20_5
                  try clear hcz9_0
                  try clear hcz9_1
                  try clear hcz9_2
                  try clear hcz9_3
                  try clear hcz9_4
                  try clear hcz9_5
                  try clear hfz15_0
                  try clear hfz15_1
                  try clear hfz15_2
                  try clear hfz15_3
                  try clear hfz15_4
                  try clear hfz15_5
                  try clear hfz20_0
                  try clear hfz20_1
                  try clear hfz20_2
                  try clear hfz20_3
                  try clear hfz20_4
                  try clear hfz20_5
                  try clear hfz9_0
                  try clear hfz9_1
                  try clear hfz9_2
                  try clear hfz9_3
                  try clear hfz9_4
                  try clear hfz9_5
                  try clear p2
                  obtain ⟨x6_3, rfl, HA, HK3, HO_5, BK368, HB⟩ := hrel
                  cases gk with
                  | zero => exact absurd HA.out (by simp [laws_FnTouched.l0])
                  | succ k3 =>
                    have H := HA.out
                    clear HA
                    simp only [laws_FnTouched.l0] at H
                    by_cases c29 : (x6_3.size : Int) < t361
                    · rw [if_pos c29] at H
                      have c29b0 : decide ((x6_3.size : Int) < t361) = true := decide_eq_true c29
                      clear c29
                      by_cases c30 : x6_3.size + 1 ≤ 9223372036854775807
                      · rw [if_pos c30] at H
                        have c30b0 := eq_true c30
                        have c30b1 : decide (x6_3.size + 1 ≤ 9223372036854775807) = true := decide_eq_true c30
                        try have c30b2 : (9223372036854775807 < x6_3.size + 1) = False := eq_false (Nat.not_lt.2 c30)
                        have H' := Aside0.mk H
                        clear H
                        go_wp2
                        go_roundg k3
                        case measure => have := HJ5.out; have := HJ24.out; have := HK3.out; omega
                        case rel => exact ⟨(x6_3 ++ (⟨#[113]⟩ : ByteArray)), (by first | rfl | (simp; done) | (simp [*]; done)), H', ⟨by have := HJ5.out; have := HJ24.out; have := HK3.out; omega⟩, ⟨by (with_reducible repeat (first | apply Kd.R_alloc | apply Kd.R_drewN | apply Kd.R_drew)); exact HO_5.out⟩, ⟨by (with_reducible repeat (first | refine blk_drewN ?_ _ | refine blk_drew ?_ | refine blk_alloc ?_ _)); exact BK368.out⟩, ⟨by repeat (first | (with_reducible first | exact HB.out | apply below_alloc | apply pw_below_drewN | apply below_drew1 | refine below_set ?_ GE368.out) | exact HB.out)⟩⟩
                      · rw [if_neg c30] at H
                        exact absurd H (by simp)
                    · rw [if_neg c29] at H
                      have c29b0 : decide ((x6_3.size : Int) < t361) = false := decide_eq_false c29
                      clear c29
                      have HC31 := Aside0.mk H
                      clear H
                      have hcz32_0 : wr.cell? ⟨gb368, 0, none⟩ = some (.int .i64 t362) := (blk_cell BK368.out 0).trans rfl
                      have hcz32_1 : wr.cell? ⟨gb368, 1, none⟩ = some (.string t363) := (blk_cell BK368.out 1).trans rfl
                      have hcz32_2 : wr.cell? ⟨gb368, 2, none⟩ = some (.string t364) := (blk_cell BK368.out 2).trans rfl
                      have hcz32_3 : wr.cell? ⟨gb368, 3, none⟩ = some (.int .i64 t365) := (blk_cell BK368.out 3).trans rfl
                      have hcz32_4 : wr.cell? ⟨gb368, 4, none⟩ = some (.int .i64 t366) := (blk_cell BK368.out 4).trans rfl
                      have hcz32_5 : wr.cell? ⟨gb368, 5, none⟩ = some (.string t367) := (blk_cell BK368.out 5).trans rfl
                      have hfz32_0 := blk_frozen BK368.out 0
                      have hfz32_1 := blk_frozen BK368.out 1
                      have hfz32_2 := blk_frozen BK368.out 2
                      have hfz32_3 := blk_frozen BK368.out 3
                      have hfz32_4 := blk_frozen BK368.out 4
                      have hfz32_5 := blk_frozen BK368.out 5
                      go_upto_if 52 with (fail)
                      go_cut [7] (fun v7 wc => ∃ (kq : Nat) (x7_30 : ByteArray), v7 = .string x7_30 ∧ Aside0 (laws_FnTouched.j3 kq t369 x6_3 x7_30 t362 t363 t364 t365 t366 t367 = some r) ∧ Aside0 (kq ≤ k3) ∧ Aside0 (Kd.R (Kd.int .i64) 3 wc w.heap.size (fun _ => True) v370 t369) ∧ Aside0 (wc.heap[gb368]? = some (.cells #[.int .i64 t362, .string t363, .string t364, .int .i64 t365, .int .i64 t366, .string t367] 61 (0, 0))) ∧ Aside0 (Below w.heap.size w wc))
                      case first =>
                        have H := HC31.out
                        clear HC31
                        by_cases c33 : t362 = 7
                        · rw [if_pos c33] at H
                          have c33b0 : (t362 == 7) = true := beq_iff_eq.mpr c33
                          have c33b1 : (t362 != 7) = false := bne_eq_false_iff_eq.mpr c33
                          clear c33
                          (first | rw [c33b0] | (simp only [i64_w, i32_w]; rw [c33b0]) | skip)
                          replace H := Option.bind_eq_some_iff.mp H
                          obtain ⟨t377, A340, H⟩ := H
                          replace H : (laws_FnTouched.j3 k3 t369 x6_3 t377 t362 t363 t364 t365 t366 t367) = some r := H
                          have A34 := Aside0.mk A340
                          clear A340
                          have H' := Aside0.mk H
                          clear H
                          have hcz35_0 : wr.cell? ⟨gb368, 0, none⟩ = some (.int .i64 t362) := (blk_cell BK368.out 0).trans rfl
                          have hcz35_1 : wr.cell? ⟨gb368, 1, none⟩ = some (.string t363) := (blk_cell BK368.out 1).trans rfl
                          have hcz35_2 : wr.cell? ⟨gb368, 2, none⟩ = some (.string t364) := (blk_cell BK368.out 2).trans rfl
                          have hcz35_3 : wr.cell? ⟨gb368, 3, none⟩ = some (.int .i64 t365) := (blk_cell BK368.out 3).trans rfl
                          have hcz35_4 : wr.cell? ⟨gb368, 4, none⟩ = some (.int .i64 t366) := (blk_cell BK368.out 4).trans rfl
                          have hcz35_5 : wr.cell? ⟨gb368, 5, none⟩ = some (.string t367) := (blk_cell BK368.out 5).trans rfl
                          have hfz35_0 := blk_frozen BK368.out 0
                          have hfz35_1 := blk_frozen BK368.out 1
                          have hfz35_2 := blk_frozen BK368.out 2
                          have hfz35_3 := blk_frozen BK368.out 3
                          have hfz35_4 := blk_frozen BK368.out 4
                          have hfz35_5 := blk_frozen BK368.out 5
                          go_wp2_with (first | ((with_reducible refine gate_callee (f := 11) rfl ?_); refine goesL_ (some 58) rfl rfl Try.func11 (by kernel_rfl) rfl #[.string x6_3, .int .i64 t365, .string t367] rfl (by (try simp only [List.map_toArray, List.map_cons, List.map_nil]); first | done | rfl | (simp only [List.length_drop, List.length_take]; rfl)) ?_; (with_reducible refine (spec_TextWith.calls k3 x6_3 t365 t367 t377 _ A34.out).mono ?_); rintro e w36 ⟨rfl, hb⟩; refine ⟨_, rfl, ?_⟩; have n0_ := Aside0.mk (Kd.R_below (by (with_reducible repeat (first | apply Kd.R_alloc | apply Kd.R_drewN | apply Kd.R_drew)); exact HO_5.out) hb); have n1_ := Aside0.mk (blk_below (g := gb368) (o := .cells #[.int .i64 t362, .string t363, .string t364, .int .i64 t365, .int .i64 t366, .string t367] 61 (0, 0)) (by (with_reducible repeat (first | refine blk_drewN ?_ _ | refine blk_drew ?_ | refine blk_alloc ?_ _)); exact BK368.out) hb); have n2_ := Aside0.mk (below_step (by repeat (first | (with_reducible first | exact HB.out | apply below_alloc | apply pw_below_drewN | apply below_drew1 | refine below_set ?_ GE368.out) | exact HB.out)) hb); clear HO_5; clear BK368; clear HB; have HO_5 := n0_; have BK368 := n1_; have HB := n2_; clear n0_ n1_ n2_; (try clear hb); (try clear hb2); (try clear hk); (try clear hi)))
                          go_meet
                          case rel => exact ⟨_, (t377), (by first | rfl | (simp; done) | (simp [*]; done)), H', ⟨by have := HJ5.out; have := HJ24.out; have := HK3.out; first | omega | exact Nat.le_refl _⟩, ⟨by (with_reducible repeat (first | apply Kd.R_alloc | apply Kd.R_drewN | apply Kd.R_drew)); exact HO_5.out⟩, ⟨by (with_reducible repeat (first | refine blk_drewN ?_ _ | refine blk_drew ?_ | refine blk_alloc ?_ _)); exact BK368.out⟩, ⟨by repeat (first | (with_reducible first | exact HB.out | apply below_alloc | apply pw_below_drewN | apply below_drew1 | refine below_set ?_ GE368.out) | exact HB.out)⟩⟩
                        · rw [if_neg c33] at H
                          have c33b0 : (t362 == 7) = false := beq_eq_false_iff_ne.mpr c33
                          have c33b1 : (t362 != 7) = true := bne_iff_ne.mpr c33
                          (first | rw [c33b0] | (simp only [i64_w, i32_w]; rw [c33b0]) | skip)
                          have H' := Aside0.mk H
                          clear H
                          go_wp2
                          go_meet
                          case rel => exact ⟨_, (x6_3), (by first | rfl | (simp; done) | (simp [*]; done)), H', ⟨by have := HJ5.out; have := HJ24.out; have := HK3.out; first | omega | exact Nat.le_refl _⟩, ⟨by (with_reducible repeat (first | apply Kd.R_alloc | apply Kd.R_drewN | apply Kd.R_drew)); exact HO_5.out⟩, ⟨by (with_reducible repeat (first | refine blk_drewN ?_ _ | refine blk_drew ?_ | refine blk_alloc ?_ _)); exact BK368.out⟩, ⟨by repeat (first | (with_reducible first | exact HB.out | apply below_alloc | apply pw_below_drewN | apply below_drew1 | refine below_set ?_ GE368.out) | exact HB.out)⟩⟩
                      case rest =>
                        clear HC31
                        try clear c1
                        try clear c2
                        try clear p2
                        try clear c3
                        try clear c6
                        try clear c8
                        try clear c11
                        try clear c13
                        try clear c16
                        try clear c24
                        try clear c26
                        try clear c26b0
                        try clear c27
                        try clear c29
                        try clear c29b0
                        try clear c30
                        try clear c30b0
                        try clear c30b1
                        try clear c30b2
                        try clear c33
                        try clear c33b0
                        try clear c33b1
                        try clear c34
                        try clear c35
                        try clear hcz15_0
                        try clear hcz15_1
                        try clear hcz15_2
                        try clear hcz15_3
                        try clear hcz15_4
                        try clear hcz15_5
                        try clear hcz20_0
                        try clear hcz20_1
                        try clear hcz20_2
                        try clear hcz20_3
                        try clear hcz20_4
                        try clear hcz20_5
                        try clear hcz32_0
                        try clear hcz32_1
                        try clear hcz32_2
                        try clear hcz32_3
                        try clear hcz32_4
                        try clear hcz32_5
                        try clear hcz35_0
                        try clear hcz35_1
                        try clear hcz35_2
                        try clear hcz35_3
                        try clear hcz35_4
                        try clear hcz35_5
                        try clear hcz9_0
                        try clear hcz9_1
                        try clear hcz9_2
                        try clear hcz9_3
                        try clear hcz9_4
                        try clear hcz9_5
                        try clear hfz15_0
                        try clear hfz15_1
                        try clear hfz15_2
                        try clear hfz15_3
                        try clear hfz15_4
                        try clear hfz15_5
                        try clear hfz20_0
                        try clear hfz20_1
                        try clear hfz20_2
                        try clear hfz20_3
                        try clear hfz20_4
                        try clear hfz20_5
                        try clear hfz32_0
                        try clear hfz32_1
                        try clear hfz32_2
                        try clear hfz32_3
                        try clear hfz32_4
                        try clear hfz32_5
                        try clear hfz35_0
                        try clear hfz35_1
                        try clear hfz35_2
                        try clear hfz35_3
                        try clear hfz35_4
                        try clear hfz35_5
                        try clear hfz9_0
                        try clear hfz9_1
                        try clear hfz9_2
                        try clear hfz9_3
                        try clear hfz9_4
                        try clear hfz9_5
                        try clear p2
                        obtain ⟨kq, x7_30, rfl, HA, HJ30, HO_5, BK368, HB⟩ := hcut
                        cases kq with
                        | zero => exact absurd HA.out (by simp [laws_FnTouched.j3])
                        | succ kj30 =>
                          have H := HA.out
                          clear HA
                          simp only [laws_FnTouched.j3] at H
                          have HC37 := Aside0.mk H
                          clear H
                          have hcz38_0 : wc.cell? ⟨gb368, 0, none⟩ = some (.int .i64 t362) := (blk_cell BK368.out 0).trans rfl
                          have hcz38_1 : wc.cell? ⟨gb368, 1, none⟩ = some (.string t363) := (blk_cell BK368.out 1).trans rfl
                          have hcz38_2 : wc.cell? ⟨gb368, 2, none⟩ = some (.string t364) := (blk_cell BK368.out 2).trans rfl
                          have hcz38_3 : wc.cell? ⟨gb368, 3, none⟩ = some (.int .i64 t365) := (blk_cell BK368.out 3).trans rfl
                          have hcz38_4 : wc.cell? ⟨gb368, 4, none⟩ = some (.int .i64 t366) := (blk_cell BK368.out 4).trans rfl
                          have hcz38_5 : wc.cell? ⟨gb368, 5, none⟩ = some (.string t367) := (blk_cell BK368.out 5).trans rfl
                          have hfz38_0 := blk_frozen BK368.out 0
                          have hfz38_1 := blk_frozen BK368.out 1
                          have hfz38_2 := blk_frozen BK368.out 2
                          have hfz38_3 := blk_frozen BK368.out 3
                          have hfz38_4 := blk_frozen BK368.out 4
                          have hfz38_5 := blk_frozen BK368.out 5
                          go_upto_if 61 with (fail)
                          go_cut [7] (fun v7 wc => ∃ (kq : Nat) (x7_36 : ByteArray), v7 = .string x7_36 ∧ Aside0 (laws_FnTouched.j4 kq t369 x6_3 x7_36 = some r) ∧ Aside0 (kq ≤ kj30) ∧ Aside0 (Kd.R (Kd.int .i64) 3 wc w.heap.size (fun _ => True) v370 t369) ∧ Aside0 (wc.heap[gb368]? = some (.cells #[.int .i64 t362, .string t363, .string t364, .int .i64 t365, .int .i64 t366, .string t367] 61 (0, 0))) ∧ Aside0 (Below w.heap.size w wc))
                          case first =>
                            have H := HC37.out
                            clear HC37
                            by_cases c39 : t362 = 8
                            · rw [if_pos c39] at H
                              have c39b0 : (t362 == 8) = true := beq_iff_eq.mpr c39
                              have c39b1 : (t362 != 8) = false := bne_eq_false_iff_eq.mpr c39
                              clear c39
                              (first | rw [c39b0] | (simp only [i64_w, i32_w]; rw [c39b0]) | skip)
                              replace H := Option.bind_eq_some_iff.mp H
                              obtain ⟨t378, A400, H⟩ := H
                              replace H : (laws_FnTouched.j4 kj30 t369 x6_3 t378) = some r := H
                              have A40 := Aside0.mk A400
                              clear A400
                              have H' := Aside0.mk H
                              clear H
                              have hcz41_0 : wc.cell? ⟨gb368, 0, none⟩ = some (.int .i64 t362) := (blk_cell BK368.out 0).trans rfl
                              have hcz41_1 : wc.cell? ⟨gb368, 1, none⟩ = some (.string t363) := (blk_cell BK368.out 1).trans rfl
                              have hcz41_2 : wc.cell? ⟨gb368, 2, none⟩ = some (.string t364) := (blk_cell BK368.out 2).trans rfl
                              have hcz41_3 : wc.cell? ⟨gb368, 3, none⟩ = some (.int .i64 t365) := (blk_cell BK368.out 3).trans rfl
                              have hcz41_4 : wc.cell? ⟨gb368, 4, none⟩ = some (.int .i64 t366) := (blk_cell BK368.out 4).trans rfl
                              have hcz41_5 : wc.cell? ⟨gb368, 5, none⟩ = some (.string t367) := (blk_cell BK368.out 5).trans rfl
                              have hfz41_0 := blk_frozen BK368.out 0
                              have hfz41_1 := blk_frozen BK368.out 1
                              have hfz41_2 := blk_frozen BK368.out 2
                              have hfz41_3 := blk_frozen BK368.out 3
                              have hfz41_4 := blk_frozen BK368.out 4
                              have hfz41_5 := blk_frozen BK368.out 5
                              go_wp2_with (first | ((with_reducible refine gate_callee (f := 37) rfl ?_); refine goesL_ (some 65) rfl rfl Try.func37 (by kernel_rfl) rfl #[.string x6_3, .int .i64 t366] rfl (by (try simp only [List.map_toArray, List.map_cons, List.map_nil]); first | done | rfl | (simp only [List.length_drop, List.length_take]; rfl)) ?_; (with_reducible refine (spec_TextCut.calls kj30 x6_3 t366 t378 _ A40.out).mono ?_); rintro e w42 ⟨rfl, hb⟩; refine ⟨_, rfl, ?_⟩; have n0_ := Aside0.mk (Kd.R_below (by (with_reducible repeat (first | apply Kd.R_alloc | apply Kd.R_drewN | apply Kd.R_drew)); exact HO_5.out) hb); have n1_ := Aside0.mk (blk_below (g := gb368) (o := .cells #[.int .i64 t362, .string t363, .string t364, .int .i64 t365, .int .i64 t366, .string t367] 61 (0, 0)) (by (with_reducible repeat (first | refine blk_drewN ?_ _ | refine blk_drew ?_ | refine blk_alloc ?_ _)); exact BK368.out) hb); have n2_ := Aside0.mk (below_step (by repeat (first | (with_reducible first | exact HB.out | apply below_alloc | apply pw_below_drewN | apply below_drew1 | refine below_set ?_ GE368.out) | exact HB.out)) hb); clear HO_5; clear BK368; clear HB; have HO_5 := n0_; have BK368 := n1_; have HB := n2_; clear n0_ n1_ n2_; (try clear hb); (try clear hb2); (try clear hk); (try clear hi)))
                              go_meet
                              case rel => exact ⟨_, (t378), (by first | rfl | (simp; done) | (simp [*]; done)), H', ⟨by have := HJ5.out; have := HJ24.out; have := HK3.out; have := HJ30.out; first | omega | exact Nat.le_refl _⟩, ⟨by (with_reducible repeat (first | apply Kd.R_alloc | apply Kd.R_drewN | apply Kd.R_drew)); exact HO_5.out⟩, ⟨by (with_reducible repeat (first | refine blk_drewN ?_ _ | refine blk_drew ?_ | refine blk_alloc ?_ _)); exact BK368.out⟩, ⟨by repeat (first | (with_reducible first | exact HB.out | apply below_alloc | apply pw_below_drewN | apply below_drew1 | refine below_set ?_ GE368.out) | exact HB.out)⟩⟩
                            · rw [if_neg c39] at H
                              have c39b0 : (t362 == 8) = false := beq_eq_false_iff_ne.mpr c39
                              have c39b1 : (t362 != 8) = true := bne_iff_ne.mpr c39
                              (first | rw [c39b0] | (simp only [i64_w, i32_w]; rw [c39b0]) | skip)
                              have H' := Aside0.mk H
                              clear H
                              go_wp2
                              go_meet
                              case rel => exact ⟨_, (x7_30), (by first | rfl | (simp; done) | (simp [*]; done)), H', ⟨by have := HJ5.out; have := HJ24.out; have := HK3.out; have := HJ30.out; first | omega | exact Nat.le_refl _⟩, ⟨by (with_reducible repeat (first | apply Kd.R_alloc | apply Kd.R_drewN | apply Kd.R_drew)); exact HO_5.out⟩, ⟨by (with_reducible repeat (first | refine blk_drewN ?_ _ | refine blk_drew ?_ | refine blk_alloc ?_ _)); exact BK368.out⟩, ⟨by repeat (first | (with_reducible first | exact HB.out | apply below_alloc | apply pw_below_drewN | apply below_drew1 | refine below_set ?_ GE368.out) | exact HB.out)⟩⟩
                          case rest =>
                            clear HC37
                            try clear c1
                            try clear c2
                            try clear p2
                            try clear c3
                            try clear c6
                            try clear c8
                            try clear c11
                            try clear c13
                            try clear c16
                            try clear c24
                            try clear c26
                            try clear c26b0
                            try clear c27
                            try clear c29
                            try clear c29b0
                            try clear c30
                            try clear c30b0
                            try clear c30b1
                            try clear c30b2
                            try clear c33
                            try clear c33b0
                            try clear c33b1
                            try clear c34
                            try clear c35
                            try clear c37
                            try clear c39
                            try clear c39b0
                            try clear c39b1
                            try clear hcz15_0
                            try clear hcz15_1
                            try clear hcz15_2
                            try clear hcz15_3
                            try clear hcz15_4
                            try clear hcz15_5
                            try clear hcz20_0
                            try clear hcz20_1
                            try clear hcz20_2
                            try clear hcz20_3
                            try clear hcz20_4
                            try clear hcz20_5
                            try clear hcz32_0
                            try clear hcz32_1
                            try clear hcz32_2
                            try clear hcz32_3
                            try clear hcz32_4
                            try clear hcz32_5
                            try clear hcz35_0
                            try clear hcz35_1
                            try clear hcz35_2
                            try clear hcz35_3
                            try clear hcz35_4
                            try clear hcz35_5
                            try clear hcz38_0
                            try clear hcz38_1
                            try clear hcz38_2
                            try clear hcz38_3
                            try clear hcz38_4
                            try clear hcz38_5
                            try clear hcz41_0
                            try clear hcz41_1
                            try clear hcz41_2
                            try clear hcz41_3
                            try clear hcz41_4
                            try clear hcz41_5
                            try clear hcz9_0
                            try clear hcz9_1
                            try clear hcz9_2
                            try clear hcz9_3
                            try clear hcz9_4
                            try clear hcz9_5
                            try clear hfz15_0
                            try clear hfz15_1
                            try clear hfz15_2
                            try clear hfz15_3
                            try clear hfz15_4
                            try clear hfz15_5
                            try clear hfz20_0
                            try clear hfz20_1
                            try clear hfz20_2
                            try clear hfz20_3
                            try clear hfz20_4
                            try clear hfz20_5
                            try clear hfz32_0
                            try clear hfz32_1
                            try clear hfz32_2
                            try clear hfz32_3
                            try clear hfz32_4
                            try clear hfz32_5
                            try clear hfz35_0
                            try clear hfz35_1
                            try clear hfz35_2
                            try clear hfz35_3
                            try clear hfz35_4
                            try clear hfz35_5
                            try clear hfz38_0
                            try clear hfz38_1
                            try clear hfz38_2
                            try clear hfz38_3
                            try clear hfz38_4
                            try clear hfz38_5
                            try clear hfz41_0
                            try clear hfz41_1
                            try clear hfz41_2
                            try clear hfz41_3
                            try clear hfz41_4
                            try clear hfz41_5
                            try clear hfz9_0
                            try clear hfz9_1
                            try clear hfz9_2
                            try clear hfz9_3
                            try clear hfz9_4
                            try clear hfz9_5
                            try clear p2
                            obtain ⟨kq, x7_36, rfl, HA, HJ36, HO_5, BK368, HB⟩ := hcut
                            cases kq with
                            | zero => exact absurd HA.out (by simp [laws_FnTouched.j4])
                            | succ kj36 =>
                              have H := HA.out
                              clear HA
                              simp only [laws_FnTouched.j4] at H
                              have H' := Aside0.mk H
                              clear H
                              go_wp2
                              go_loopg [8] kj36 (fun kq v8 w' => ∃ (x8_6 : Int), v8 = .int .i64 x8_6 ∧ Aside0 (laws_FnTouched.l1 kq t369 x6_3 x7_36 x8_6 = some r) ∧ Aside0 (kq ≤ kj36) ∧ Aside0 (Kd.R (Kd.int .i64) 3 w' w.heap.size (fun _ => True) v370 t369) ∧ Aside0 (w'.heap[gb368]? = some (.cells #[.int .i64 t362, .string t363, .string t364, .int .i64 t365, .int .i64 t366, .string t367] 61 (0, 0))) ∧ Aside0 (Below w.heap.size w w'))
                              case atStart => exact ⟨(0), (by first | rfl | (simp; done) | (simp [*]; done)), H', ⟨Nat.le_refl _⟩, ⟨by (with_reducible repeat (first | apply Kd.R_alloc | apply Kd.R_drewN | apply Kd.R_drew)); exact HO_5.out⟩, ⟨by (with_reducible repeat (first | refine blk_drewN ?_ _ | refine blk_drew ?_ | refine blk_alloc ?_ _)); exact BK368.out⟩, ⟨by repeat (first | (with_reducible first | exact HB.out | apply below_alloc | apply pw_below_drewN | apply below_drew1 | refine below_set ?_ GE368.out) | exact HB.out)⟩⟩
                              case round =>
                                clear H'
                                try clear c1
                                try clear c2
                                try clear p2
                                try clear c3
                                try clear c6
                                try clear c8
                                try clear c11
                                try clear c13
                                try clear c16
                                try clear c24
                                try clear c26
                                try clear c26b0
                                try clear c27
                                try clear c29
                                try clear c29b0
                                try clear c30
                                try clear c30b0
                                try clear c30b1
                                try clear c30b2
                                try clear c33
                                try clear c33b0
                                try clear c33b1
                                try clear c34
                                try clear c35
                                try clear c37
                                try clear c39
                                try clear c39b0
                                try clear c39b1
                                try clear hcz15_0
                                try clear hcz15_1
                                try clear hcz15_2
                                try clear hcz15_3
                                try clear hcz15_4
                                try clear hcz15_5
                                try clear hcz20_0
                                try clear hcz20_1
                                try clear hcz20_2
                                try clear hcz20_3
                                try clear hcz20_4
                                try clear hcz20_5
                                try clear hcz32_0
                                try clear hcz32_1
                                try clear hcz32_2
                                try clear hcz32_3
                                try clear hcz32_4
                                try clear hcz32_5
                                try clear hcz35_0
                                try clear hcz35_1
                                try clear hcz35_2
                                try clear hcz35_3
                                try clear hcz35_4
                                try clear hcz35_5
                                try clear hcz38_0
                                try clear hcz38_1
                                try clear hcz38_2
                                try clear hcz38_3
                                try clear hcz38_4
                                try clear hcz38_5
                                try clear hcz41_0
                                try clear hcz41_1
                                try clear hcz41_2
                                try clear hcz41_3
                                try clear hcz41_4
                                try clear hcz41_5
                                try clear hcz9_0
                                try clear hcz9_1
                                try clear hcz9_2
                                try clear hcz9_3
                                try clear hcz9_4
                                try clear hcz9_5
                                try clear hfz15_0
                                try clear hfz15_1
                                try clear hfz15_2
                                try clear hfz15_3
                                try clear hfz15_4
                                try clear hfz15_5
                                try clear hfz20_0
                                try clear hfz20_1
                                try clear hfz20_2
                                try clear hfz20_3
                                try clear hfz20_4
                                try clear hfz20_5
                                try clear hfz32_0
                                try clear hfz32_1
                                try clear hfz32_2
                                try clear hfz32_3
                                try clear hfz32_4
                                try clear hfz32_5
                                try clear hfz35_0
                                try clear hfz35_1
                                try clear hfz35_2
                                try clear hfz35_3
                                try clear hfz35_4
                                try clear hfz35_5
                                try clear hfz38_0
                                try clear hfz38_1
                                try clear hfz38_2
                                try clear hfz38_3
                                try clear hfz38_4
                                try clear hfz38_5
                                try clear hfz41_0
                                try clear hfz41_1
                                try clear hfz41_2
                                try clear hfz41_3
                                try clear hfz41_4
                                try clear hfz41_5
                                try clear hfz9_0
                                try clear hfz9_1
                                try clear hfz9_2
                                try clear hfz9_3
                                try clear hfz9_4
                                try clear hfz9_5
                                try clear p2
                                obtain ⟨x8_6, rfl, HA, HK6, HO_5, BK368, HB⟩ := hrel
                                cases gk with
                                | zero => exact absurd HA.out (by simp [laws_FnTouched.l1])
                                | succ k6 =>
                                  have H := HA.out
                                  clear HA
                                  simp only [laws_FnTouched.l1] at H
                                  by_cases c43 : x8_6 < 4
                                  · rw [if_pos c43] at H
                                    have c43b0 : decide (x8_6 < 4) = true := decide_eq_true c43
                                    clear c43
                                    replace H := Option.bind_eq_some_iff.mp H
                                    obtain ⟨t381, A440, H⟩ := H
                                    replace H : ((impl_PageOf.f x7_36 x8_6).bind fun t382 => (laws_FnTouched.l2 k6 t369 x6_3 x7_36 x8_6 t381 t382 false 0)) = some r := H
                                    have A44 := Aside0.mk A440
                                    clear A440
                                    replace H := Option.bind_eq_some_iff.mp H
                                    obtain ⟨t382, A450, H⟩ := H
                                    replace H : (laws_FnTouched.l2 k6 t369 x6_3 x7_36 x8_6 t381 t382 false 0) = some r := H
                                    have A45 := Aside0.mk A450
                                    clear A450
                                    have H' := Aside0.mk H
                                    clear H
                                    go_wp2_with (first | ((with_reducible refine gate_callee (f := 36) rfl ?_); refine goesL_ (some 72) rfl rfl Try.func36 (by kernel_rfl) rfl #[.string x6_3, .int .i64 x8_6] rfl (by (try simp only [List.map_toArray, List.map_cons, List.map_nil]); first | done | rfl | (simp only [List.length_drop, List.length_take]; rfl)) ?_; (with_reducible refine (impl_PageOf.calls x6_3 x8_6 t381 _ A44.out).mono ?_); rintro e w46 ⟨rfl, hb⟩; refine ⟨_, rfl, ?_⟩; have n0_ := Aside0.mk (Kd.R_below (by (with_reducible repeat (first | apply Kd.R_alloc | apply Kd.R_drewN | apply Kd.R_drew)); exact HO_5.out) hb); have n1_ := Aside0.mk (blk_below (g := gb368) (o := .cells #[.int .i64 t362, .string t363, .string t364, .int .i64 t365, .int .i64 t366, .string t367] 61 (0, 0)) (by (with_reducible repeat (first | refine blk_drewN ?_ _ | refine blk_drew ?_ | refine blk_alloc ?_ _)); exact BK368.out) hb); have n2_ := Aside0.mk (below_step (by repeat (first | (with_reducible first | exact HB.out | apply below_alloc | apply pw_below_drewN | apply below_drew1 | refine below_set ?_ GE368.out) | exact HB.out)) hb); clear HO_5; clear BK368; clear HB; have HO_5 := n0_; have BK368 := n1_; have HB := n2_; clear n0_ n1_ n2_; (try clear hb); (try clear hb2); (try clear hk); (try clear hi)) | ((with_reducible refine gate_callee (f := 36) rfl ?_); refine goesL_ (some 75) rfl rfl Try.func36 (by kernel_rfl) rfl #[.string x7_36, .int .i64 x8_6] rfl (by (try simp only [List.map_toArray, List.map_cons, List.map_nil]); first | done | rfl | (simp only [List.length_drop, List.length_take]; rfl)) ?_; (with_reducible refine (impl_PageOf.calls x7_36 x8_6 t382 _ A45.out).mono ?_); rintro e w47 ⟨rfl, hb⟩; refine ⟨_, rfl, ?_⟩; have n0_ := Aside0.mk (Kd.R_below (by (with_reducible repeat (first | apply Kd.R_alloc | apply Kd.R_drewN | apply Kd.R_drew)); exact HO_5.out) hb); have n1_ := Aside0.mk (blk_below (g := gb368) (o := .cells #[.int .i64 t362, .string t363, .string t364, .int .i64 t365, .int .i64 t366, .string t367] 61 (0, 0)) (by (with_reducible repeat (first | refine blk_drewN ?_ _ | refine blk_drew ?_ | refine blk_alloc ?_ _)); exact BK368.out) hb); have n2_ := Aside0.mk (below_step (by repeat (first | (with_reducible first | exact HB.out | apply below_alloc | apply pw_below_drewN | apply below_drew1 | refine below_set ?_ GE368.out) | exact HB.out)) hb); clear HO_5; clear BK368; clear HB; have HO_5 := n0_; have BK368 := n1_; have HB := n2_; clear n0_ n1_ n2_; (try clear hb); (try clear hb2); (try clear hk); (try clear hi)))
                                    go_loopg [11, 12] k6 (fun kq v11 v12 w' => ∃ (x11_7 : Bool) (x12_7 : Int), v11 = .bool x11_7 ∧ v12 = .int .i64 x12_7 ∧ Aside0 (laws_FnTouched.l2 kq t369 x6_3 x7_36 x8_6 t381 t382 x11_7 x12_7 = some r) ∧ Aside0 (kq ≤ k6) ∧ Aside0 (Kd.R (Kd.int .i64) 3 w' w.heap.size (fun _ => True) v370 t369) ∧ Aside0 (w'.heap[gb368]? = some (.cells #[.int .i64 t362, .string t363, .string t364, .int .i64 t365, .int .i64 t366, .string t367] 61 (0, 0))) ∧ Aside0 (Below w.heap.size w w'))
                                    case atStart => exact ⟨(false), (0), (by first | rfl | (simp; done) | (simp [*]; done)), (by first | rfl | (simp; done) | (simp [*]; done)), H', ⟨Nat.le_refl _⟩, ⟨by (with_reducible repeat (first | apply Kd.R_alloc | apply Kd.R_drewN | apply Kd.R_drew)); exact HO_5.out⟩, ⟨by (with_reducible repeat (first | refine blk_drewN ?_ _ | refine blk_drew ?_ | refine blk_alloc ?_ _)); exact BK368.out⟩, ⟨by repeat (first | (with_reducible first | exact HB.out | apply below_alloc | apply pw_below_drewN | apply below_drew1 | refine below_set ?_ GE368.out) | exact HB.out)⟩⟩
                                    case round =>
                                      clear H'
                                      try clear c1
                                      try clear c2
                                      try clear p2
                                      try clear c3
                                      try clear c4
                                      try clear c6
                                      try clear c8
                                      try clear c11
                                      try clear c13
                                      try clear c16
                                      try clear c24
                                      try clear c26
                                      try clear c26b0
                                      try clear c27
                                      try clear c29
                                      try clear c29b0
                                      try clear c30
                                      try clear c30b0
                                      try clear c30b1
                                      try clear c30b2
                                      try clear c33
                                      try clear c33b0
                                      try clear c33b1
                                      try clear c34
                                      try clear c35
                                      try clear c36
                                      try clear c37
                                      try clear c39
                                      try clear c39b0
                                      try clear c39b1
                                      try clear c43
                                      try clear c43b0
                                      try clear hcz15_0
                                      try clear hcz15_1
                                      try clear hcz15_2
                                      try clear hcz15_3
                                      try clear hcz15_4
                                      try clear hcz15_5
                                      try clear hcz20_0
                                      try clear hcz20_1
                                      try clear hcz20_2
                                      try clear hcz20_3
                                      try clear hcz20_4
                                      try clear hcz20_5
                                      try clear hcz32_0
                                      try clear hcz32_1
                                      try clear hcz32_2
                                      try clear hcz32_3
                                      try clear hcz32_4
                                      try clear hcz32_5
                                      try clear hcz35_0
                                      try clear hcz35_1
                                      try clear hcz35_2
                                      try clear hcz35_3
                                      try clear hcz35_4
                                      try clear hcz35_5
                                      try clear hcz38_0
                                      try clear hcz38_1
                                      try clear hcz38_2
                                      try clear hcz38_3
                                      try clear hcz38_4
                                      try clear hcz38_5
                                      try clear hcz41_0
                                      try clear hcz41_1
                                      try clear hcz41_2
                                      try clear hcz41_3
                                      try clear hcz41_4
                                      try clear hcz41_5
                                      try clear hcz9_0
                                      try clear hcz9_1
                                      try clear hcz9_2
                                      try clear hcz9_3
                                      try clear hcz9_4
                                      try clear hcz9_5
                                      try clear hfz15_0
                                      try clear hfz15_1
                                      try clear hfz15_2
                                      try clear hfz15_3
                                      try clear hfz15_4
                                      try clear hfz15_5
                                      try clear hfz20_0
                                      try clear hfz20_1
                                      try clear hfz20_2
                                      try clear hfz20_3
                                      try clear hfz20_4
                                      try clear hfz20_5
                                      try clear hfz32_0
                                      try clear hfz32_1
                                      try clear hfz32_2
                                      try clear hfz32_3
                                      try clear hfz32_4
                                      try clear hfz32_5
                                      try clear hfz35_0
                                      try clear hfz35_1
                                      try clear hfz35_2
                                      try clear hfz35_3
                                      try clear hfz35_4
                                      try clear hfz35_5
                                      try clear hfz38_0
                                      try clear hfz38_1
                                      try clear hfz38_2
                                      try clear hfz38_3
                                      try clear hfz38_4
                                      try clear hfz38_5
                                      try clear hfz41_0
                                      try clear hfz41_1
                                      try clear hfz41_2
                                      try clear hfz41_3
                                      try clear hfz41_4
                                      try clear hfz41_5
                                      try clear hfz9_0
                                      try clear hfz9_1
                                      try clear hfz9_2
                                      try clear hfz9_3
                                      try clear hfz9_4
                                      try clear hfz9_5
                                      try clear p2
                                      obtain ⟨x11_7, x12_7, rfl, rfl, HA, HK7, HO_5, BK368, HB⟩ := hrel
                                      cases gk with
                                      | zero => exact absurd HA.out (by simp [laws_FnTouched.l2])
                                      | succ k7 =>
                                        have H := HA.out
                                        clear HA
                                        simp only [laws_FnTouched.l2] at H
                                        by_cases c48 : x12_7 < (t369.length : Int)
                                        · rw [if_pos c48] at H
                                          have c48b0 : decide (x12_7 < (t369.length : Int)) = true := decide_eq_true c48
                                          clear c48
                                          by_cases c49 : x11_7 = true
                                          · subst c49
                                            have H1 : (laws_FnTouched.l2 k7 t369 x6_3 x7_36 x8_6 t381 t382 true (wrap64 (x12_7 + 1))) = some r := by rw [if_pos rfl] at H; exact H
                                            clear H
                                            have H := H1
                                            clear H1
                                            have H' := Aside0.mk H
                                            clear H
                                            obtain ⟨Ao50, co50, eo50⟩ := Kd.R_slice HO_5.out
                                            subst eo50
                                            go_wp2
                                            go_roundg k7
                                            case measure => have := HJ5.out; have := HJ24.out; have := HK3.out; have := HJ30.out; have := HJ36.out; have := HK6.out; have := HK7.out; omega
                                            case rel => exact ⟨(true), (wrap64 (x12_7 + 1)), (by first | rfl | (simp; done) | (simp [*]; done)), (by first | rfl | (simp; done) | (simp [*]; done)), H', ⟨by have := HJ5.out; have := HJ24.out; have := HK3.out; have := HJ30.out; have := HJ36.out; have := HK6.out; have := HK7.out; omega⟩, ⟨by (with_reducible repeat (first | apply Kd.R_alloc | apply Kd.R_drewN | apply Kd.R_drew)); exact HO_5.out⟩, ⟨by (with_reducible repeat (first | refine blk_drewN ?_ _ | refine blk_drew ?_ | refine blk_alloc ?_ _)); exact BK368.out⟩, ⟨by repeat (first | (with_reducible first | exact HB.out | apply below_alloc | apply pw_below_drewN | apply below_drew1 | refine below_set ?_ GE368.out) | exact HB.out)⟩⟩
                                          · replace c49 := Bool.eq_false_iff.mpr c49
                                            subst c49
                                            have H1 : (if 0 ≤ x12_7 then (laws_FnTouched.l2 k7 t369 x6_3 x7_36 x8_6 t381 t382 ((rd t369 x12_7) == x8_6) (wrap64 (x12_7 + 1))) else (none)) = some r := by rw [if_neg (show ¬ (false = true) by decide)] at H; exact H
                                            clear H
                                            have H := H1
                                            clear H1
                                            by_cases c51 : 0 ≤ x12_7
                                            · rw [if_pos c51] at H
                                              have c51b0 : decide (0 ≤ x12_7) = true := decide_eq_true c51
                                              clear c51
                                              have H' := Aside0.mk H
                                              clear H
                                              obtain ⟨Ao52, co52, eo52⟩ := Kd.R_slice HO_5.out
                                              subst eo52
                                              have p383 : 0 ≤ (x12_7 : Int) := of_decide_eq_true (by first | (with_reducible assumption) | assumption)
                                              have q383 : x12_7 < (t369.length : Int) := of_decide_eq_true (by first | (with_reducible assumption) | assumption)
                                              obtain ⟨ad383, e383, hx383_0⟩ := Kd.at_int (Kd.R_reads' HO_5.out).2.2 x12_7 p383 q383
                                              cases e383
                                              replace p383 := eq_true p383
                                              replace q383 := eq_true q383
                                              go_wp2
                                              go_roundg k7
                                              case measure => have := HJ5.out; have := HJ24.out; have := HK3.out; have := HJ30.out; have := HJ36.out; have := HK6.out; have := HK7.out; omega
                                              case rel => exact ⟨(((rd t369 x12_7) == x8_6)), (wrap64 (x12_7 + 1)), (by first | rfl | (simp; done) | (simp [*]; done)), (by first | rfl | (simp; done) | (simp [*]; done)), H', ⟨by have := HJ5.out; have := HJ24.out; have := HK3.out; have := HJ30.out; have := HJ36.out; have := HK6.out; have := HK7.out; omega⟩, ⟨by (with_reducible repeat (first | apply Kd.R_alloc | apply Kd.R_drewN | apply Kd.R_drew)); exact HO_5.out⟩, ⟨by (with_reducible repeat (first | refine blk_drewN ?_ _ | refine blk_drew ?_ | refine blk_alloc ?_ _)); exact BK368.out⟩, ⟨by repeat (first | (with_reducible first | exact HB.out | apply below_alloc | apply pw_below_drewN | apply below_drew1 | refine below_set ?_ GE368.out) | exact HB.out)⟩⟩
                                            · rw [if_neg c51] at H
                                              exact absurd H (by simp)
                                        · rw [if_neg c48] at H
                                          have c48b0 : decide (x12_7 < (t369.length : Int)) = false := decide_eq_false c48
                                          clear c48
                                          by_cases c53 : (t381.size : Int) = 32
                                          · rw [if_pos c53] at H
                                            have c53b0 : ((t381.size : Int) == 32) = true := beq_iff_eq.mpr c53
                                            have c53b1 : ((t381.size : Int) != 32) = false := bne_eq_false_iff_eq.mpr c53
                                            clear c53
                                            by_cases c54 : (t382.size : Int) = 32
                                            · rw [if_pos c54] at H
                                              have c54b0 : ((t382.size : Int) == 32) = true := beq_iff_eq.mpr c54
                                              have c54b1 : ((t382.size : Int) != 32) = false := bne_eq_false_iff_eq.mpr c54
                                              clear c54
                                              by_cases c55 : x11_7 = true
                                              · subst c55
                                                have H1 : (laws_FnTouched.l1 k7 t369 x6_3 x7_36 (wrap64 (x8_6 + 1))) = some r := by rw [if_pos rfl] at H; exact H
                                                clear H
                                                have H := H1
                                                clear H1
                                                have H' := Aside0.mk H
                                                clear H
                                                obtain ⟨Ao56, co56, eo56⟩ := Kd.R_slice HO_5.out
                                                subst eo56
                                                go_wp2
                                                go_roundg k7
                                                case measure => have := HJ5.out; have := HJ24.out; have := HK3.out; have := HJ30.out; have := HJ36.out; have := HK6.out; have := HK7.out; omega
                                                case rel => exact ⟨(wrap64 (x8_6 + 1)), (by first | rfl | (simp; done) | (simp [*]; done)), H', ⟨by have := HJ5.out; have := HJ24.out; have := HK3.out; have := HJ30.out; have := HJ36.out; have := HK6.out; have := HK7.out; omega⟩, ⟨by (with_reducible repeat (first | apply Kd.R_alloc | apply Kd.R_drewN | apply Kd.R_drew)); exact HO_5.out⟩, ⟨by (with_reducible repeat (first | refine blk_drewN ?_ _ | refine blk_drew ?_ | refine blk_alloc ?_ _)); exact BK368.out⟩, ⟨by repeat (first | (with_reducible first | exact HB.out | apply below_alloc | apply pw_below_drewN | apply below_drew1 | refine below_set ?_ GE368.out) | exact HB.out)⟩⟩
                                              · replace c55 := Bool.eq_false_iff.mpr c55
                                                subst c55
                                                have H1 : (if t381.toList = t382.toList then (laws_FnTouched.l1 k7 t369 x6_3 x7_36 (wrap64 (x8_6 + 1))) else (if (wrap64 (x8_6 * 32)) < (x7_36.size : Int) then (some false) else (laws_FnTouched.l1 k7 t369 x6_3 x7_36 (wrap64 (x8_6 + 1))))) = some r := by rw [if_neg (show ¬ (false = true) by decide)] at H; exact H
                                                clear H
                                                have H := H1
                                                clear H1
                                                by_cases c57 : t381.toList = t382.toList
                                                · rw [if_pos c57] at H
                                                  have c57b0 : (t381.toList == t382.toList) = true := beq_iff_eq.mpr c57
                                                  have c57b1 : (t381.toList != t382.toList) = false := bne_eq_false_iff_eq.mpr c57
                                                  clear c57
                                                  have H' := Aside0.mk H
                                                  clear H
                                                  obtain ⟨Ao58, co58, eo58⟩ := Kd.R_slice HO_5.out
                                                  subst eo58
                                                  go_wp2
                                                  go_roundg k7
                                                  case measure => have := HJ5.out; have := HJ24.out; have := HK3.out; have := HJ30.out; have := HJ36.out; have := HK6.out; have := HK7.out; omega
                                                  case rel => exact ⟨(wrap64 (x8_6 + 1)), (by first | rfl | (simp; done) | (simp [*]; done)), H', ⟨by have := HJ5.out; have := HJ24.out; have := HK3.out; have := HJ30.out; have := HJ36.out; have := HK6.out; have := HK7.out; omega⟩, ⟨by (with_reducible repeat (first | apply Kd.R_alloc | apply Kd.R_drewN | apply Kd.R_drew)); exact HO_5.out⟩, ⟨by (with_reducible repeat (first | refine blk_drewN ?_ _ | refine blk_drew ?_ | refine blk_alloc ?_ _)); exact BK368.out⟩, ⟨by repeat (first | (with_reducible first | exact HB.out | apply below_alloc | apply pw_below_drewN | apply below_drew1 | refine below_set ?_ GE368.out) | exact HB.out)⟩⟩
                                                · rw [if_neg c57] at H
                                                  have c57b0 : (t381.toList == t382.toList) = false := beq_eq_false_iff_ne.mpr c57
                                                  have c57b1 : (t381.toList != t382.toList) = true := bne_iff_ne.mpr c57
                                                  by_cases c59 : (wrap64 (x8_6 * 32)) < (x7_36.size : Int)
                                                  · rw [if_pos c59] at H
                                                    have c59b0 : decide ((wrap64 (x8_6 * 32)) < (x7_36.size : Int)) = true := decide_eq_true c59
                                                    clear c59
                                                    obtain rfl := Option.some.inj H
                                                    obtain ⟨Ao60, co60, eo60⟩ := Kd.R_slice HO_5.out
                                                    subst eo60
                                                    go_wp2
                                                    go_ret
                                                    exact ⟨by first | rfl | (simp [errW_none, errW_some] <;> rfl) | (simp [*, errW_none, errW_some] <;> rfl), by repeat (first | (with_reducible first | exact HB.out | apply below_alloc | apply pw_below_drewN | apply below_drew1 | refine below_set ?_ GE368.out) | exact HB.out)⟩
                                                  · rw [if_neg c59] at H
                                                    have c59b0 : decide ((wrap64 (x8_6 * 32)) < (x7_36.size : Int)) = false := decide_eq_false c59
                                                    clear c59
                                                    have H' := Aside0.mk H
                                                    clear H
                                                    obtain ⟨Ao61, co61, eo61⟩ := Kd.R_slice HO_5.out
                                                    subst eo61
                                                    go_wp2
                                                    go_roundg k7
                                                    case measure => have := HJ5.out; have := HJ24.out; have := HK3.out; have := HJ30.out; have := HJ36.out; have := HK6.out; have := HK7.out; omega
                                                    case rel => exact ⟨(wrap64 (x8_6 + 1)), (by first | rfl | (simp; done) | (simp [*]; done)), H', ⟨by have := HJ5.out; have := HJ24.out; have := HK3.out; have := HJ30.out; have := HJ36.out; have := HK6.out; have := HK7.out; omega⟩, ⟨by (with_reducible repeat (first | apply Kd.R_alloc | apply Kd.R_drewN | apply Kd.R_drew)); exact HO_5.out⟩, ⟨by (with_reducible repeat (first | refine blk_drewN ?_ _ | refine blk_drew ?_ | refine blk_alloc ?_ _)); exact BK368.out⟩, ⟨by repeat (first | (with_reducible first | exact HB.out | apply below_alloc | apply pw_below_drewN | apply below_drew1 | refine below_set ?_ GE368.out) | exact HB.out)⟩⟩
                                            · rw [if_neg c54] at H
                                              have c54b0 : ((t382.size : Int) == 32) = false := beq_eq_false_iff_ne.mpr c54
                                              have c54b1 : ((t382.size : Int) != 32) = true := bne_iff_ne.mpr c54
                                              obtain rfl := Option.some.inj H
                                              obtain ⟨Ao62, co62, eo62⟩ := Kd.R_slice HO_5.out
                                              subst eo62
                                              go_wp2
                                              go_ret
                                              exact ⟨by first | rfl | (simp [errW_none, errW_some] <;> rfl) | (simp [*, errW_none, errW_some] <;> rfl), by repeat (first | (with_reducible first | exact HB.out | apply below_alloc | apply pw_below_drewN | apply below_drew1 | refine below_set ?_ GE368.out) | exact HB.out)⟩
                                          · rw [if_neg c53] at H
                                            have c53b0 : ((t381.size : Int) == 32) = false := beq_eq_false_iff_ne.mpr c53
                                            have c53b1 : ((t381.size : Int) != 32) = true := bne_iff_ne.mpr c53
                                            obtain rfl := Option.some.inj H
                                            obtain ⟨Ao63, co63, eo63⟩ := Kd.R_slice HO_5.out
                                            subst eo63
                                            go_wp2
                                            go_ret
                                            exact ⟨by first | rfl | (simp [errW_none, errW_some] <;> rfl) | (simp [*, errW_none, errW_some] <;> rfl), by repeat (first | (with_reducible first | exact HB.out | apply below_alloc | apply pw_below_drewN | apply below_drew1 | refine below_set ?_ GE368.out) | exact HB.out)⟩
                                  · rw [if_neg c43] at H
                                    have c43b0 : decide (x8_6 < 4) = false := decide_eq_false c43
                                    clear c43
                                    replace H := Option.bind_eq_some_iff.mp H
                                    obtain ⟨t379, A640, H⟩ := H
                                    replace H : ((spec_PageOf.f k6 x7_36 0).bind fun t380 => (some (t379.toList == t380.toList))) = some r := H
                                    have A64 := Aside0.mk A640
                                    clear A640
                                    replace H := Option.bind_eq_some_iff.mp H
                                    obtain ⟨t380, A650, H⟩ := H
                                    replace H : (some (t379.toList == t380.toList)) = some r := H
                                    have A65 := Aside0.mk A650
                                    clear A650
                                    obtain rfl := Option.some.inj H
                                    go_wp2_with (first | ((with_reducible refine gate_callee (f := 36) rfl ?_); refine goesL_ (some 116) rfl rfl Try.func36 (by kernel_rfl) rfl #[.string x7_36, .int .i64 0] rfl (by (try simp only [List.map_toArray, List.map_cons, List.map_nil]); first | done | rfl | (simp only [List.length_drop, List.length_take]; rfl)) ?_; (with_reducible refine (impl_PageOf.calls x7_36 0 t379 _ A64.out).mono ?_); rintro e w66 ⟨rfl, hb⟩; refine ⟨_, rfl, ?_⟩; have n0_ := Aside0.mk (Kd.R_below (by (with_reducible repeat (first | apply Kd.R_alloc | apply Kd.R_drewN | apply Kd.R_drew)); exact HO_5.out) hb); have n1_ := Aside0.mk (blk_below (g := gb368) (o := .cells #[.int .i64 t362, .string t363, .string t364, .int .i64 t365, .int .i64 t366, .string t367] 61 (0, 0)) (by (with_reducible repeat (first | refine blk_drewN ?_ _ | refine blk_drew ?_ | refine blk_alloc ?_ _)); exact BK368.out) hb); have n2_ := Aside0.mk (below_step (by repeat (first | (with_reducible first | exact HB.out | apply below_alloc | apply pw_below_drewN | apply below_drew1 | refine below_set ?_ GE368.out) | exact HB.out)) hb); clear HO_5; clear BK368; clear HB; have HO_5 := n0_; have BK368 := n1_; have HB := n2_; clear n0_ n1_ n2_; (try clear hb); (try clear hb2); (try clear hk); (try clear hi)) | ((with_reducible refine gate_callee (f := 38) rfl ?_); refine goesL_ (some 118) rfl rfl Try.func38 (by kernel_rfl) rfl #[.string x7_36, .int .i64 0] rfl (by (try simp only [List.map_toArray, List.map_cons, List.map_nil]); first | done | rfl | (simp only [List.length_drop, List.length_take]; rfl)) ?_; (with_reducible refine (spec_PageOf.calls k6 x7_36 0 t380 _ A65.out).mono ?_); rintro e w67 ⟨rfl, hb⟩; refine ⟨_, rfl, ?_⟩; have n0_ := Aside0.mk (Kd.R_below (by (with_reducible repeat (first | apply Kd.R_alloc | apply Kd.R_drewN | apply Kd.R_drew)); exact HO_5.out) hb); have n1_ := Aside0.mk (blk_below (g := gb368) (o := .cells #[.int .i64 t362, .string t363, .string t364, .int .i64 t365, .int .i64 t366, .string t367] 61 (0, 0)) (by (with_reducible repeat (first | refine blk_drewN ?_ _ | refine blk_drew ?_ | refine blk_alloc ?_ _)); exact BK368.out) hb); have n2_ := Aside0.mk (below_step (by repeat (first | (with_reducible first | exact HB.out | apply below_alloc | apply pw_below_drewN | apply below_drew1 | refine below_set ?_ GE368.out) | exact HB.out)) hb); clear HO_5; clear BK368; clear HB; have HO_5 := n0_; have BK368 := n1_; have HB := n2_; clear n0_ n1_ n2_; (try clear hb); (try clear hb2); (try clear hk); (try clear hi)))
                                    go_ret
                                    exact ⟨by first | rfl | (simp [errW_none, errW_some] <;> rfl) | (simp [*, errW_none, errW_some] <;> rfl), by repeat (first | (with_reducible first | exact HB.out | apply below_alloc | apply pw_below_drewN | apply below_drew1 | refine below_set ?_ GE368.out) | exact HB.out)⟩

/-- THE ONE PURE STATEMENT of laws_FnTouched: yours. -/
def laws_FnTouched.Pure : Prop := ∀ (l0 : List Int), l0.length ≤ maxLen → l0.length * 1 ≤ 140737488351232 → (∀ x ∈ l0, (Lit.int .u8 x).wf = true) → ∃ k, laws_FnTouched.f k l0 = some true
theorem laws_FnTouched.walk (P : laws_FnTouched.Pure) (a0 : Option Addr) (len0 cap0 : Nat) (z0 : List Int) (w : World) (w0 : (a0 = none ∧ len0 = 0 ∧ cap0 = 0 ∧ z0 = []) ∨ ∃ x, a0 = some x ∧ len0 ≤ cap0 ∧ cap0 ≤ maxLen ∧ z0.length = cap0 ∧ (∀ i, i < z0.length → w.cell? (x.add i) = some (.int .u8 (z0.getD i 0))) ∧ ∀ n ∈ z0, (Lit.int .u8 n).wf = true) (y0 : len0 * 1 ≤ 140737488351232) :
    Calls Try.prog 6 #[.slice a0 len0 cap0] w fun e w' => e = .returned (.bool true) ∧ Below w.heap.size w w' := by
  obtain ⟨l0, rfl, hr0, hm0, hw0, hc0⟩ := ReadsInt.ofRowC w0
  obtain ⟨k, h⟩ := P l0 hm0 y0 hw0
  refine (laws_FnTouched.calls k _ _ l0 true w (Kd.C_of_reads (d := (0 : Int)) (h1 := fun _ => rfl) hr0) hc0 h).mono ?_
  rintro e w' ⟨rfl, hd⟩
  exact ⟨rfl, hd⟩

end Go.Proofs.Ytfgammfdaiicpaa.PFnTouched
