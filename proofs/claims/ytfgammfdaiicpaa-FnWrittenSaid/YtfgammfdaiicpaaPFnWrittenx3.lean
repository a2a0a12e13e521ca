/- Contracts of Go functions, written by a program of ours over the print of the kit: each says that the call returns what the Lean function beside it computes. Conditions: as each theorem states them. -/
import Derived.Test.YtfgammfdaiicpaaPFnWrittenx0
import Derived.Test.YtfgammfdaiicpaaPFnWrittenx1
import Derived.Test.YtfgammfdaiicpaaPFnWrittenx2
namespace Go.Proofs.Ytfgammfdaiicpaa.PFnWritten
open Go.RowKit Go.Proofs.YtfgammfdaiicpaaW.PrintWords Go.Proofs.YtfgammfdaiicpaaW.PrintLast Go.Proofs.YtfgammfdaiicpaaW.PrintMore
attribute [local go_sem] max2_int min2_int max_two min_two max_three min_three max_four min_four   -- for this text's walks alone
set_option linter.unusedVariables false
set_option linter.unusedSimpArgs false

/-! ### laws_FnWritten: function 3 -/
mutual
def laws_FnWritten.j0 : Nat → List Int → ByteArray → Int → ByteArray → ByteArray → Bool → Option (Bool)
  | 0, _, _, _, _, _, _ => none
  | k + 1, x0, x3, x4, x5, x6, x33 => if x33 = true then (some false) else ((spec_DrawTextCut.f k x0).bind fun bt202 => ((impl_TextCut.f bt202.1 bt202.2).bind fun t204 => (if bt202.2 ≥ 0 then (if bt202.2 ≤ 128 then (laws_FnWritten.j1 k x3 x4 x5 x6 bt202.1 bt202.2 t204 ((t204.size : Int) != bt202.2)) else (laws_FnWritten.j1 k x3 x4 x5 x6 bt202.1 bt202.2 t204 false)) else (laws_FnWritten.j1 k x3 x4 x5 x6 bt202.1 bt202.2 t204 false))))
def laws_FnWritten.j1 : Nat → ByteArray → Int → ByteArray → ByteArray → ByteArray → Int → ByteArray → Bool → Option (Bool)
  | 0, _, _, _, _, _, _, _, _ => none
  | k + 1, x3, x4, x5, x6, x7, x8, x9, x53 => if x53 = true then (some false) else (laws_FnWritten.l0 k x3 x4 x5 x6 x7 x8 x9 0)
def laws_FnWritten.l0 : Nat → ByteArray → Int → ByteArray → ByteArray → ByteArray → Int → ByteArray → Int → Option (Bool)
  | 0, _, _, _, _, _, _, _, _ => none
  | k + 1, x3, x4, x5, x6, x7, x8, x9, x10 => if x10 < x8 then (laws_FnWritten.j3 k x3 x4 x5 x6 x7 x8 x9 x10 (decide (x8 ≤ 128))) else (laws_FnWritten.j3 k x3 x4 x5 x6 x7 x8 x9 x10 false)
def laws_FnWritten.j3 : Nat → ByteArray → Int → ByteArray → ByteArray → ByteArray → Int → ByteArray → Int → Bool → Option (Bool)
  | 0, _, _, _, _, _, _, _, _, _ => none
  | k + 1, x3, x4, x5, x6, x7, x8, x9, x10, x60 => if x60 = true then (if x10 < (x7.size : Int) then (if 0 ≤ x10 then (if x10 < (x9.size : Int) then (if (bt x9 x10) = (bt x7 x10) then (if x10 ≥ (x7.size : Int) then (if (bt x9 x10) = 0 then (laws_FnWritten.l0 k x3 x4 x5 x6 x7 x8 x9 (wrap64 (x10 + 1))) else (some false)) else (laws_FnWritten.l0 k x3 x4 x5 x6 x7 x8 x9 (wrap64 (x10 + 1)))) else (some false)) else (none)) else (none)) else (if x10 ≥ (x7.size : Int) then (if 0 ≤ x10 then (if x10 < (x9.size : Int) then (if (bt x9 x10) = 0 then (laws_FnWritten.l0 k x3 x4 x5 x6 x7 x8 x9 (wrap64 (x10 + 1))) else (some false)) else (none)) else (none)) else (laws_FnWritten.l0 k x3 x4 x5 x6 x7 x8 x9 (wrap64 (x10 + 1))))) else (if (x5.size : Int) = 0 then (laws_FnWritten.j4 k x3 x4 x5 x6 true) else (if x4 < 0 then (laws_FnWritten.j4 k x3 x4 x5 x6 true) else (laws_FnWritten.j4 k x3 x4 x5 x6 (decide (x4 > (wrap64 (128 - (x5.size : Int))))))))
def laws_FnWritten.j4 : Nat → ByteArray → Int → ByteArray → ByteArray → Bool → Option (Bool)
  | 0, _, _, _, _, _ => none
  | k + 1, x3, x4, x5, x6, x101 => if x101 = true then (some (x6.toList == x3.toList)) else (if (x6.size : Int) < (wrap64 (x4 + (x5.size : Int))) then (laws_FnWritten.j5 k x3 x4 x5 x6 true) else (if 0 ≤ x4 then (if x4 ≤ (wrap64 (x4 + (x5.size : Int))) then (if (wrap64 (x4 + (x5.size : Int))) ≤ (x6.size : Int) then (laws_FnWritten.j5 k x3 x4 x5 x6 ((x6.extract (x4 : Int).toNat ((wrap64 (x4 + (x5.size : Int))) : Int).toNat).toList != x5.toList)) else (none)) else (none)) else (none)))
def laws_FnWritten.j5 : Nat → ByteArray → Int → ByteArray → ByteArray → Bool → Option (Bool)
  | 0, _, _, _, _, _ => none
  | k + 1, x3, x4, x5, x6, x122 => if x122 = true then (some false) else (laws_FnWritten.l1 k x3 x4 x5 x6 0)
def laws_FnWritten.l1 : Nat → ByteArray → Int → ByteArray → ByteArray → Int → Option (Bool)
  | 0, _, _, _, _, _ => none
  | k + 1, x3, x4, x5, x6, x11 => if x11 < (x6.size : Int) then (if x11 < x4 then (if x11 < (x3.size : Int) then (if 0 ≤ x11 then (if (bt x6 x11) = (bt x3 x11) then (if x11 ≥ (x3.size : Int) then (if (bt x6 x11) = 0 then (if x11 ≥ (wrap64 (x4 + (x5.size : Int))) then (laws_FnWritten.l1 k x3 x4 x5 x6 (wrap64 (x11 + 1))) else (laws_FnWritten.l1 k x3 x4 x5 x6 (wrap64 (x11 + 1)))) else (some false)) else (if x11 ≥ (wrap64 (x4 + (x5.size : Int))) then (laws_FnWritten.l1 k x3 x4 x5 x6 (wrap64 (x11 + 1))) else (laws_FnWritten.l1 k x3 x4 x5 x6 (wrap64 (x11 + 1))))) else (some false)) else (none)) else (if x11 ≥ (x3.size : Int) then (if 0 ≤ x11 then (if (bt x6 x11) = 0 then (if x11 ≥ (wrap64 (x4 + (x5.size : Int))) then (none) else (laws_FnWritten.l1 k x3 x4 x5 x6 (wrap64 (x11 + 1)))) else (some false)) else (none)) else (if x11 ≥ (wrap64 (x4 + (x5.size : Int))) then (if 0 ≤ x11 then (none) else (none)) else (laws_FnWritten.l1 k x3 x4 x5 x6 (wrap64 (x11 + 1)))))) else (if x11 ≥ (wrap64 (x4 + (x5.size : Int))) then (if 0 ≤ x11 then (if x11 < (x3.size : Int) then (if (bt x6 x11) = (bt x3 x11) then (laws_FnWritten.l1 k x3 x4 x5 x6 (wrap64 (x11 + 1))) else (some false)) else (none)) else (none)) else (laws_FnWritten.l1 k x3 x4 x5 x6 (wrap64 (x11 + 1))))) else (some true)
end
def laws_FnWritten.f (k : Nat) (l0 : List Int) : Option (Bool) := (laws_big.f l0).bind fun t195 => (if t195 = true then (some true) else ((spec_DrawTextWith.f k l0).bind fun bt196 => ((impl_TextWith.f bt196.1 bt196.2.1 bt196.2.2).bind fun t199 => ((spec_TextWith.f k bt196.1 bt196.2.1 bt196.2.2).bind fun t200 => (if t199.toList = t200.toList then ((impl_TextCut.f (⟨#[97, 98, 99]⟩ : ByteArray) 2).bind fun t201 => (laws_FnWritten.j0 k l0 bt196.1 bt196.2.1 bt196.2.2 t199 (t201.toList != ([97, 98] : List UInt8)))) else (laws_FnWritten.j0 k l0 bt196.1 bt196.2.1 bt196.2.2 t199 true))))))
theorem laws_FnWritten.mono_l : ∀ k, (∀ y0 y1 y2 y3 y4 y5, LeO (laws_FnWritten.j0 k y0 y1 y2 y3 y4 y5) (laws_FnWritten.j0 (k + 1) y0 y1 y2 y3 y4 y5)) ∧ (∀ y0 y1 y2 y3 y4 y5 y6 y7, LeO (laws_FnWritten.j1 k y0 y1 y2 y3 y4 y5 y6 y7) (laws_FnWritten.j1 (k + 1) y0 y1 y2 y3 y4 y5 y6 y7)) ∧ (∀ y0 y1 y2 y3 y4 y5 y6 y7, LeO (laws_FnWritten.l0 k y0 y1 y2 y3 y4 y5 y6 y7) (laws_FnWritten.l0 (k + 1) y0 y1 y2 y3 y4 y5 y6 y7)) ∧ (∀ y0 y1 y2 y3 y4 y5 y6 y7 y8, LeO (laws_FnWritten.j3 k y0 y1 y2 y3 y4 y5 y6 y7 y8) (laws_FnWritten.j3 (k + 1) y0 y1 y2 y3 y4 y5 y6 y7 y8)) ∧ (∀ y0 y1 y2 y3 y4, LeO (laws_FnWritten.j4 k y0 y1 y2 y3 y4) (laws_FnWritten.j4 (k + 1) y0 y1 y2 y3 y4)) ∧ (∀ y0 y1 y2 y3 y4, LeO (laws_FnWritten.j5 k y0 y1 y2 y3 y4) (laws_FnWritten.j5 (k + 1) y0 y1 y2 y3 y4)) ∧ (∀ y0 y1 y2 y3 y4, LeO (laws_FnWritten.l1 k y0 y1 y2 y3 y4) (laws_FnWritten.l1 (k + 1) y0 y1 y2 y3 y4))
  | 0 => ⟨fun _ _ _ _ _ _ r h => by simp [laws_FnWritten.j0] at h, fun _ _ _ _ _ _ _ _ r h => by simp [laws_FnWritten.j1] at h, fun _ _ _ _ _ _ _ _ r h => by simp [laws_FnWritten.l0] at h, fun _ _ _ _ _ _ _ _ _ r h => by simp [laws_FnWritten.j3] at h, fun _ _ _ _ _ r h => by simp [laws_FnWritten.j4] at h, fun _ _ _ _ _ r h => by simp [laws_FnWritten.j5] at h, fun _ _ _ _ _ r h => by simp [laws_FnWritten.l1] at h⟩
  | k + 1 => by
    obtain ⟨ih0, ih1, ih2, ih3, ih4, ih5, ih6⟩ := laws_FnWritten.mono_l k
    refine ⟨?_, ?_, ?_, ?_, ?_, ?_, ?_⟩
    · intro y0 y1 y2 y3 y4 y5
      unfold laws_FnWritten.j0
      repeat' first
      | (with_reducible exact ih0 _ _ _ _ _ _)
      | (with_reducible exact ih1 _ _ _ _ _ _ _ _)
      | (with_reducible exact ih2 _ _ _ _ _ _ _ _)
      | (with_reducible exact ih3 _ _ _ _ _ _ _ _ _)
      | (with_reducible exact ih4 _ _ _ _ _)
      | (with_reducible exact ih5 _ _ _ _ _)
      | (with_reducible exact ih6 _ _ _ _ _)
      | (with_reducible exact spec_DrawTextCut.mono _ _)
      | (with_reducible exact spec_DrawTextWith.mono _ _)
      | (with_reducible exact spec_TextWith.mono _ _ _ _)
      | (with_reducible exact LeO.refl _)
      | (with_reducible exact LeO.none _)
      | (with_reducible refine LeO.ite ?_ ?_)
      | (with_reducible refine LeO.bind ?_ (fun _ => ?_))
      | exact ih0 _ _ _ _ _ _
      | exact ih1 _ _ _ _ _ _ _ _
      | exact ih2 _ _ _ _ _ _ _ _
      | exact ih3 _ _ _ _ _ _ _ _ _
      | exact ih4 _ _ _ _ _
      | exact ih5 _ _ _ _ _
      | exact ih6 _ _ _ _ _
      | exact spec_DrawTextCut.mono _ _
      | exact spec_DrawTextWith.mono _ _
      | exact spec_TextWith.mono _ _ _ _
      | exact LeO.none _
      | refine LeO.ite ?_ ?_
      | refine LeO.bind ?_ (fun _ => ?_)
    · intro y0 y1 y2 y3 y4 y5 y6 y7
      unfold laws_FnWritten.j1
      repeat' first
      | (with_reducible exact ih0 _ _ _ _ _ _)
      | (with_reducible exact ih1 _ _ _ _ _ _ _ _)
      | (with_reducible exact ih2 _ _ _ _ _ _ _ _)
      | (with_reducible exact ih3 _ _ _ _ _ _ _ _ _)
      | (with_reducible exact ih4 _ _ _ _ _)
      | (with_reducible exact ih5 _ _ _ _ _)
      | (with_reducible exact ih6 _ _ _ _ _)
      | (with_reducible exact spec_DrawTextCut.mono _ _)
      | (with_reducible exact spec_DrawTextWith.mono _ _)
      | (with_reducible exact spec_TextWith.mono _ _ _ _)
      | (with_reducible exact LeO.refl _)
      | (with_reducible exact LeO.none _)
      | (with_reducible refine LeO.ite ?_ ?_)
      | (with_reducible refine LeO.bind ?_ (fun _ => ?_))
      | exact ih0 _ _ _ _ _ _
      | exact ih1 _ _ _ _ _ _ _ _
      | exact ih2 _ _ _ _ _ _ _ _
      | exact ih3 _ _ _ _ _ _ _ _ _
      | exact ih4 _ _ _ _ _
      | exact ih5 _ _ _ _ _
      | exact ih6 _ _ _ _ _
      | exact spec_DrawTextCut.mono _ _
      | exact spec_DrawTextWith.mono _ _
      | exact spec_TextWith.mono _ _ _ _
      | exact LeO.none _
      | refine LeO.ite ?_ ?_
      | refine LeO.bind ?_ (fun _ => ?_)
    · intro y0 y1 y2 y3 y4 y5 y6 y7
      unfold laws_FnWritten.l0
      repeat' first
      | (with_reducible exact ih0 _ _ _ _ _ _)
      | (with_reducible exact ih1 _ _ _ _ _ _ _ _)
      | (with_reducible exact ih2 _ _ _ _ _ _ _ _)
      | (with_reducible exact ih3 _ _ _ _ _ _ _ _ _)
      | (with_reducible exact ih4 _ _ _ _ _)
      | (with_reducible exact ih5 _ _ _ _ _)
      | (with_reducible exact ih6 _ _ _ _ _)
      | (with_reducible exact spec_DrawTextCut.mono _ _)
      | (with_reducible exact spec_DrawTextWith.mono _ _)
      | (with_reducible exact spec_TextWith.mono _ _ _ _)
      | (with_reducible exact LeO.refl _)
      | (with_reducible exact LeO.none _)
      | (with_reducible refine LeO.ite ?_ ?_)
      | (with_reducible refine LeO.bind ?_ (fun _ => ?_))
      | exact ih0 _ _ _ _ _ _
      | exact ih1 _ _ _ _ _ _ _ _
      | exact ih2 _ _ _ _ _ _ _ _
      | exact ih3 _ _ _ _ _ _ _ _ _
      | exact ih4 _ _ _ _ _
      | exact ih5 _ _ _ _ _
      | exact ih6 _ _ _ _ _
      | exact spec_DrawTextCut.mono _ _
      | exact spec_DrawTextWith.mono _ _
      | exact spec_TextWith.mono _ _ _ _
      | exact LeO.none _
      | refine LeO.ite ?_ ?_
      | refine LeO.bind ?_ (fun _ => ?_)
    · intro y0 y1 y2 y3 y4 y5 y6 y7 y8
      unfold laws_FnWritten.j3
      repeat' first
      | (with_reducible exact ih0 _ _ _ _ _ _)
      | (with_reducible exact ih1 _ _ _ _ _ _ _ _)
      | (with_reducible exact ih2 _ _ _ _ _ _ _ _)
      | (with_reducible exact ih3 _ _ _ _ _ _ _ _ _)
      | (with_reducible exact ih4 _ _ _ _ _)
      | (with_reducible exact ih5 _ _ _ _ _)
      | (with_reducible exact ih6 _ _ _ _ _)
      | (with_reducible exact spec_DrawTextCut.mono _ _)
      | (with_reducible exact spec_DrawTextWith.mono _ _)
      | (with_reducible exact spec_TextWith.mono _ _ _ _)
      | (with_reducible exact LeO.refl _)
      | (with_reducible exact LeO.none _)
      | (with_reducible refine LeO.ite ?_ ?_)
      | (with_reducible refine LeO.bind ?_ (fun _ => ?_))
      | exact ih0 _ _ _ _ _ _
      | exact ih1 _ _ _ _ _ _ _ _
      | exact ih2 _ _ _ _ _ _ _ _
      | exact ih3 _ _ _ _ _ _ _ _ _
      | exact ih4 _ _ _ _ _
      | exact ih5 _ _ _ _ _
      | exact ih6 _ _ _ _ _
      | exact spec_DrawTextCut.mono _ _
      | exact spec_DrawTextWith.mono _ _
      | exact spec_TextWith.mono _ _ _ _
      | exact LeO.none _
      | refine LeO.ite ?_ ?_
      | refine LeO.bind ?_ (fun _ => ?_)
    · intro y0 y1 y2 y3 y4
      unfold laws_FnWritten.j4
      repeat' first
      | (with_reducible exact ih0 _ _ _ _ _ _)
      | (with_reducible exact ih1 _ _ _ _ _ _ _ _)
      | (with_reducible exact ih2 _ _ _ _ _ _ _ _)
      | (with_reducible exact ih3 _ _ _ _ _ _ _ _ _)
      | (with_reducible exact ih4 _ _ _ _ _)
      | (with_reducible exact ih5 _ _ _ _ _)
      | (with_reducible exact ih6 _ _ _ _ _)
      | (with_reducible exact spec_DrawTextCut.mono _ _)
      | (with_reducible exact spec_DrawTextWith.mono _ _)
      | (with_reducible exact spec_TextWith.mono _ _ _ _)
      | (with_reducible exact LeO.refl _)
      | (with_reducible exact LeO.none _)
      | (with_reducible refine LeO.ite ?_ ?_)
      | (with_reducible refine LeO.bind ?_ (fun _ => ?_))
      | exact ih0 _ _ _ _ _ _
      | exact ih1 _ _ _ _ _ _ _ _
      | exact ih2 _ _ _ _ _ _ _ _
      | exact ih3 _ _ _ _ _ _ _ _ _
      | exact ih4 _ _ _ _ _
      | exact ih5 _ _ _ _ _
      | exact ih6 _ _ _ _ _
      | exact spec_DrawTextCut.mono _ _
      | exact spec_DrawTextWith.mono _ _
      | exact spec_TextWith.mono _ _ _ _
      | exact LeO.none _
      | refine LeO.ite ?_ ?_
      | refine LeO.bind ?_ (fun _ => ?_)
    · intro y0 y1 y2 y3 y4
      unfold laws_FnWritten.j5
      repeat' first
      | (with_reducible exact ih0 _ _ _ _ _ _)
      | (with_reducible exact ih1 _ _ _ _ _ _ _ _)
      | (with_reducible exact ih2 _ _ _ _ _ _ _ _)
      | (with_reducible exact ih3 _ _ _ _ _ _ _ _ _)
      | (with_reducible exact ih4 _ _ _ _ _)
      | (with_reducible exact ih5 _ _ _ _ _)
      | (with_reducible exact ih6 _ _ _ _ _)
      | (with_reducible exact spec_DrawTextCut.mono _ _)
      | (with_reducible exact spec_DrawTextWith.mono _ _)
      | (with_reducible exact spec_TextWith.mono _ _ _ _)
      | (with_reducible exact LeO.refl _)
      | (with_reducible exact LeO.none _)
      | (with_reducible refine LeO.ite ?_ ?_)
      | (with_reducible refine LeO.bind ?_ (fun _ => ?_))
      | exact ih0 _ _ _ _ _ _
      | exact ih1 _ _ _ _ _ _ _ _
      | exact ih2 _ _ _ _ _ _ _ _
      | exact ih3 _ _ _ _ _ _ _ _ _
      | exact ih4 _ _ _ _ _
      | exact ih5 _ _ _ _ _
      | exact ih6 _ _ _ _ _
      | exact spec_DrawTextCut.mono _ _
      | exact spec_DrawTextWith.mono _ _
      | exact spec_TextWith.mono _ _ _ _
      | exact LeO.none _
      | refine LeO.ite ?_ ?_
      | refine LeO.bind ?_ (fun _ => ?_)
    · intro y0 y1 y2 y3 y4
      unfold laws_FnWritten.l1
      repeat' first
      | (with_reducible exact ih0 _ _ _ _ _ _)
      | (with_reducible exact ih1 _ _ _ _ _ _ _ _)
      | (with_reducible exact ih2 _ _ _ _ _ _ _ _)
      | (with_reducible exact ih3 _ _ _ _ _ _ _ _ _)
      | (with_reducible exact ih4 _ _ _ _ _)
      | (with_reducible exact ih5 _ _ _ _ _)
      | (with_reducible exact ih6 _ _ _ _ _)
      | (with_reducible exact spec_DrawTextCut.mono _ _)
      | (with_reducible exact spec_DrawTextWith.mono _ _)
      | (with_reducible exact spec_TextWith.mono _ _ _ _)
      | (with_reducible exact LeO.refl _)
      | (with_reducible exact LeO.none _)
      | (with_reducible refine LeO.ite ?_ ?_)
      | (with_reducible refine LeO.bind ?_ (fun _ => ?_))
      | exact ih0 _ _ _ _ _ _
      | exact ih1 _ _ _ _ _ _ _ _
      | exact ih2 _ _ _ _ _ _ _ _
      | exact ih3 _ _ _ _ _ _ _ _ _
      | exact ih4 _ _ _ _ _
      | exact ih5 _ _ _ _ _
      | exact ih6 _ _ _ _ _
      | exact spec_DrawTextCut.mono _ _
      | exact spec_DrawTextWith.mono _ _
      | exact spec_TextWith.mono _ _ _ _
      | exact LeO.none _
      | refine LeO.ite ?_ ?_
      | refine LeO.bind ?_ (fun _ => ?_)
theorem laws_FnWritten.mono : ∀ a0 k, LeO (laws_FnWritten.f k a0) (laws_FnWritten.f (k + 1) a0) := by
  intro a0 k
  obtain ⟨ih0, ih1, ih2, ih3, ih4, ih5, ih6⟩ := laws_FnWritten.mono_l k
  unfold laws_FnWritten.f
  repeat' first
      | (with_reducible exact ih0 _ _ _ _ _ _)
      | (with_reducible exact ih1 _ _ _ _ _ _ _ _)
      | (with_reducible exact ih2 _ _ _ _ _ _ _ _)
      | (with_reducible exact ih3 _ _ _ _ _ _ _ _ _)
      | (with_reducible exact ih4 _ _ _ _ _)
      | (with_reducible exact ih5 _ _ _ _ _)
      | (with_reducible exact ih6 _ _ _ _ _)
      | (with_reducible exact spec_DrawTextCut.mono _ _)
      | (with_reducible exact spec_DrawTextWith.mono _ _)
      | (with_reducible exact spec_TextWith.mono _ _ _ _)
      | (with_reducible exact LeO.refl _)
      | (with_reducible exact LeO.none _)
      | (with_reducible refine LeO.ite ?_ ?_)
      | (with_reducible refine LeO.bind ?_ (fun _ => ?_))
      | exact ih0 _ _ _ _ _ _
      | exact ih1 _ _ _ _ _ _ _ _
      | exact ih2 _ _ _ _ _ _ _ _
      | exact ih3 _ _ _ _ _ _ _ _ _
      | exact ih4 _ _ _ _ _
      | exact ih5 _ _ _ _ _
      | exact ih6 _ _ _ _ _
      | exact spec_DrawTextCut.mono _ _
      | exact spec_DrawTextWith.mono _ _
      | exact spec_TextWith.mono _ _ _ _
      | exact LeO.none _
      | refine LeO.ite ?_ ?_
      | refine LeO.bind ?_ (fun _ => ?_)
set_option maxHeartbeats 8000000 in
set_option maxRecDepth 100000 in
theorem laws_FnWritten.calls (k : Nat) (A0 : Option Addr) (c0 : Nat) (l0 : List Int) (r : Bool) (w : World) (hr0 : Kd.C (Kd.int .u8) w A0 l0.length l0) (hc0 : l0.length ≤ c0) (h : laws_FnWritten.f k l0 = some r) :
    Calls Try.prog 3 #[.slice A0 l0.length c0] w fun e w' => e = .returned (.bool r) ∧ Below w.heap.size w w' := by
  have HR0 := Aside0.mk hr0
  have HC0 := Aside0.mk hc0
  clear hr0 hc0
  have HB := Aside0.mk (Below.refl w.heap.size w)
  have H : ((laws_big.f l0).bind fun t195 => (if t195 = true then (some true) else ((spec_DrawTextWith.f k l0).bind fun bt196 => ((impl_TextWith.f bt196.1 bt196.2.1 bt196.2.2).bind fun t199 => ((spec_TextWith.f k bt196.1 bt196.2.1 bt196.2.2).bind fun t200 => (if t199.toList = t200.toList then ((impl_TextCut.f (⟨#[97, 98, 99]⟩ : ByteArray) 2).bind fun t201 => (laws_FnWritten.j0 k l0 bt196.1 bt196.2.1 bt196.2.2 t199 (t201.toList != ([97, 98] : List UInt8)))) else (laws_FnWritten.j0 k l0 bt196.1 bt196.2.1 bt196.2.2 t199 true))))))) = some r := h
  clear h
  replace H := Option.bind_eq_some_iff.mp H
  obtain ⟨t195, A20, H⟩ := H
  replace H : (if t195 = true then (some true) else ((spec_DrawTextWith.f k l0).bind fun bt196 => ((impl_TextWith.f bt196.1 bt196.2.1 bt196.2.2).bind fun t199 => ((spec_TextWith.f k bt196.1 bt196.2.1 bt196.2.2).bind fun t200 => (if t199.toList = t200.toList then ((impl_TextCut.f (⟨#[97, 98, 99]⟩ : ByteArray) 2).bind fun t201 => (laws_FnWritten.j0 k l0 bt196.1 bt196.2.1 bt196.2.2 t199 (t201.toList != ([97, 98] : List UInt8)))) else (laws_FnWritten.j0 k l0 bt196.1 bt196.2.1 bt196.2.2 t199 true)))))) = some r := H
  have A2 := Aside0.mk A20
  clear A20
  by_cases c3 : t195 = true
  · subst c3
    have H1 : (some true) = some r := by rw [if_pos rfl] at H; exact H
    clear H
    have H := H1
    clear H1
    obtain rfl := Option.some.inj H
    go_enter Try.func3, Try.ntmps3
    go_wp2_with (first | (go_at_call 8; (with_reducible refine (laws_big.calls _ _ l0 true _ ?side1 ?side2 A2.out).mono ?_); (case side1 => repeat (first | exact HR0.out | (with_reducible refine Kd.C_alloc ?_ _) | (with_reducible refine Kd.C_drewN ?_ _) | (with_reducible refine Kd.C_drew ?_))); (case side2 => exact HC0.out); rintro e w' ⟨rfl, ⟨nd, rfl⟩⟩; (try first | exact ⟨rfl, _, World.drewN_drewN _ _ _⟩ | exact ⟨rfl, _, Eq.trans (World.drewN_drewN _ _ _) (congrArg (World.drewN _) (Nat.add_assoc _ _ _))⟩)))
    repeat (go_quiet (first | (go_at_call 8; (with_reducible refine (laws_big.calls _ _ l0 true _ ?side1 ?side2 A2.out).mono ?_); (case side1 => repeat (first | exact HR0.out | (with_reducible refine Kd.C_alloc ?_ _) | (with_reducible refine Kd.C_drewN ?_ _) | (with_reducible refine Kd.C_drew ?_))); (case side2 => exact HC0.out); rintro e w' ⟨rfl, ⟨nd, rfl⟩⟩; (try first | exact ⟨rfl, _, World.drewN_drewN _ _ _⟩ | exact ⟨rfl, _, Eq.trans (World.drewN_drewN _ _ _) (congrArg (World.drewN _) (Nat.add_assoc _ _ _))⟩))); try go_wp2_with (first | (go_at_call 8; (with_reducible refine (laws_big.calls _ _ l0 true _ ?side1 ?side2 A2.out).mono ?_); (case side1 => repeat (first | exact HR0.out | (with_reducible refine Kd.C_alloc ?_ _) | (with_reducible refine Kd.C_drewN ?_ _) | (with_reducible refine Kd.C_drew ?_))); (case side2 => exact HC0.out); rintro e w' ⟨rfl, ⟨nd, rfl⟩⟩; (try first | exact ⟨rfl, _, World.drewN_drewN _ _ _⟩ | exact ⟨rfl, _, Eq.trans (World.drewN_drewN _ _ _) (congrArg (World.drewN _) (Nat.add_assoc _ _ _))⟩))))
    go_ret
    exact ⟨by first | rfl | (simp [errW_none, errW_some] <;> rfl) | (simp [*, errW_none, errW_some] <;> rfl), by repeat (first | (with_reducible first | exact HB.out | apply below_alloc | apply pw_below_drewN | apply below_drew1) | exact HB.out)⟩
  · replace c3 := Bool.eq_false_iff.mpr c3
    subst c3
    have H1 : ((spec_DrawTextWith.f k l0).bind fun bt196 => ((impl_TextWith.f bt196.1 bt196.2.1 bt196.2.2).bind fun t199 => ((spec_TextWith.f k bt196.1 bt196.2.1 bt196.2.2).bind fun t200 => (if t199.toList = t200.toList then ((impl_TextCut.f (⟨#[97, 98, 99]⟩ : ByteArray) 2).bind fun t201 => (laws_FnWritten.j0 k l0 bt196.1 bt196.2.1 bt196.2.2 t199 (t201.toList != ([97, 98] : List UInt8)))) else (laws_FnWritten.j0 k l0 bt196.1 bt196.2.1 bt196.2.2 t199 true))))) = some r := by rw [if_neg (show ¬ (false = true) by decide)] at H; exact H
    clear H
    have H := H1
    clear H1
    replace H := Option.bind_eq_some_iff.mp H
    obtain ⟨⟨t196, t197, t198⟩, A40, H⟩ := H
    replace H : ((impl_TextWith.f t196 t197 t198).bind fun t199 => ((spec_TextWith.f k t196 t197 t198).bind fun t200 => (if t199.toList = t200.toList then ((impl_TextCut.f (⟨#[97, 98, 99]⟩ : ByteArray) 2).bind fun t201 => (laws_FnWritten.j0 k l0 t196 t197 t198 t199 (t201.toList != ([97, 98] : List UInt8)))) else (laws_FnWritten.j0 k l0 t196 t197 t198 t199 true)))) = some r := H
    have A4 := Aside0.mk A40
    clear A40
    replace H := Option.bind_eq_some_iff.mp H
    obtain ⟨t199, A50, H⟩ := H
    replace H : ((spec_TextWith.f k t196 t197 t198).bind fun t200 => (if t199.toList = t200.toList then ((impl_TextCut.f (⟨#[97, 98, 99]⟩ : ByteArray) 2).bind fun t201 => (laws_FnWritten.j0 k l0 t196 t197 t198 t199 (t201.toList != ([97, 98] : List UInt8)))) else (laws_FnWritten.j0 k l0 t196 t197 t198 t199 true))) = some r := H
    have A5 := Aside0.mk A50
    clear A50
    have HC6 := Aside0.mk H
    clear H
    go_enter Try.func3, Try.ntmps3
    go_upto_region 5 with (first | (go_at_call 8; (with_reducible refine (laws_big.calls _ _ l0 false _ ?side1 ?side2 A2.out).mono ?_); (case side1 => repeat (first | exact HR0.out | (with_reducible refine Kd.C_alloc ?_ _) | (with_reducible refine Kd.C_drewN ?_ _) | (with_reducible refine Kd.C_drew ?_))); (case side2 => exact HC0.out); rintro e w' ⟨rfl, ⟨nd, rfl⟩⟩; (try first | exact ⟨rfl, _, World.drewN_drewN _ _ _⟩ | exact ⟨rfl, _, Eq.trans (World.drewN_drewN _ _ _) (congrArg (World.drewN _) (Nat.add_assoc _ _ _))⟩)) | (go_at_call 9; (with_reducible refine (spec_DrawTextWith.calls k _ _ l0 t196 t197 t198 _ ?side1 ?side2 A4.out).mono ?_); (case side1 => repeat (first | exact HR0.out | (with_reducible refine Kd.C_alloc ?_ _) | (with_reducible refine Kd.C_drewN ?_ _) | (with_reducible refine Kd.C_drew ?_))); (case side2 => exact HC0.out); rintro e w7 ⟨rfl, hb⟩; have n0_ := Aside0.mk (below_step (by repeat (first | (with_reducible first | exact HB.out | apply below_alloc | apply pw_below_drewN | apply below_drew1) | exact HB.out)) hb); clear HB; have HB := n0_; clear n0_; (try clear hb); (try clear hb2); (try clear hk); (try clear hi)) | (go_at_call 10; (with_reducible refine (impl_TextWith.calls t196 t197 t198 t199 _ A5.out).mono ?_); rintro e w8 ⟨rfl, hb⟩; have n0_ := Aside0.mk (below_step (by repeat (first | (with_reducible first | exact HB.out | apply below_alloc | apply pw_below_drewN | apply below_drew1) | exact HB.out)) hb); clear HB; have HB := n0_; clear n0_; (try clear hb); (try clear hb2); (try clear hk); (try clear hi)))
    repeat (go_quiet (first | (go_at_call 8; (with_reducible refine (laws_big.calls _ _ l0 false _ ?side1 ?side2 A2.out).mono ?_); (case side1 => repeat (first | exact HR0.out | (with_reducible refine Kd.C_alloc ?_ _) | (with_reducible refine Kd.C_drewN ?_ _) | (with_reducible refine Kd.C_drew ?_))); (case side2 => exact HC0.out); rintro e w' ⟨rfl, ⟨nd, rfl⟩⟩; (try first | exact ⟨rfl, _, World.drewN_drewN _ _ _⟩ | exact ⟨rfl, _, Eq.trans (World.drewN_drewN _ _ _) (congrArg (World.drewN _) (Nat.add_assoc _ _ _))⟩)) | (go_at_call 9; (with_reducible refine (spec_DrawTextWith.calls k _ _ l0 t196 t197 t198 _ ?side1 ?side2 A4.out).mono ?_); (case side1 => repeat (first | exact HR0.out | (with_reducible refine Kd.C_alloc ?_ _) | (with_reducible refine Kd.C_drewN ?_ _) | (with_reducible refine Kd.C_drew ?_))); (case side2 => exact HC0.out); rintro e w7 ⟨rfl, hb⟩; have n0_ := Aside0.mk (below_step (by repeat (first | (with_reducible first | exact HB.out | apply below_alloc | apply pw_below_drewN | apply below_drew1) | exact HB.out)) hb); clear HB; have HB := n0_; clear n0_; (try clear hb); (try clear hb2); (try clear hk); (try clear hi)) | (go_at_call 10; (with_reducible refine (impl_TextWith.calls t196 t197 t198 t199 _ A5.out).mono ?_); rintro e w8 ⟨rfl, hb⟩; have n0_ := Aside0.mk (below_step (by repeat (first | (with_reducible first | exact HB.out | apply below_alloc | apply pw_below_drewN | apply below_drew1) | exact HB.out)) hb); clear HB; have HB := n0_; clear n0_; (try clear hb); (try clear hb2); (try clear hk); (try clear hi))); go_upto_region 5 with (first | (go_at_call 8; (with_reducible refine (laws_big.calls _ _ l0 false _ ?side1 ?side2 A2.out).mono ?_); (case side1 => repeat (first | exact HR0.out | (with_reducible refine Kd.C_alloc ?_ _) | (with_reducible refine Kd.C_drewN ?_ _) | (with_reducible refine Kd.C_drew ?_))); (case side2 => exact HC0.out); rintro e w' ⟨rfl, ⟨nd, rfl⟩⟩; (try first | exact ⟨rfl, _, World.drewN_drewN _ _ _⟩ | exact ⟨rfl, _, Eq.trans (World.drewN_drewN _ _ _) (congrArg (World.drewN _) (Nat.add_assoc _ _ _))⟩)) | (go_at_call 9; (with_reducible refine (spec_DrawTextWith.calls k _ _ l0 t196 t197 t198 _ ?side1 ?side2 A4.out).mono ?_); (case side1 => repeat (first | exact HR0.out | (with_reducible refine Kd.C_alloc ?_ _) | (with_reducible refine Kd.C_drewN ?_ _) | (with_reducible refine Kd.C_drew ?_))); (case side2 => exact HC0.out); rintro e w7 ⟨rfl, hb⟩; have n0_ := Aside0.mk (below_step (by repeat (first | (with_reducible first | exact HB.out | apply below_alloc | apply pw_below_drewN | apply below_drew1) | exact HB.out)) hb); clear HB; have HB := n0_; clear n0_; (try clear hb); (try clear hb2); (try clear hk); (try clear hi)) | (go_at_call 10; (with_reducible refine (impl_TextWith.calls t196 t197 t198 t199 _ A5.out).mono ?_); rintro e w8 ⟨rfl, hb⟩; have n0_ := Aside0.mk (below_step (by repeat (first | (with_reducible first | exact HB.out | apply below_alloc | apply pw_below_drewN | apply below_drew1) | exact HB.out)) hb); clear HB; have HB := n0_; clear n0_; (try clear hb); (try clear hb2); (try clear hk); (try clear hi))))
    (try simp only [Act.put, List.setIfInBounds_toArray, List.set_cons_zero, List.set_cons_succ])
    go_cut [33] (fun v33 wc => ∃ (kq : Nat) (x33_5 : Bool), v33 = .bool x33_5 ∧ Aside0 (laws_FnWritten.j0 kq l0 t196 t197 t198 t199 x33_5 = some r) ∧ Aside0 (kq ≤ k) ∧ Aside0 (Below w.heap.size w wc))
    case first =>
      have H := HC6.out
      clear HC6
      replace H := Option.bind_eq_some_iff.mp H
      obtain ⟨t200, A90, H⟩ := H
      replace H : (if t199.toList = t200.toList then ((impl_TextCut.f (⟨#[97, 98, 99]⟩ : ByteArray) 2).bind fun t201 => (laws_FnWritten.j0 k l0 t196 t197 t198 t199 (t201.toList != ([97, 98] : List UInt8)))) else (laws_FnWritten.j0 k l0 t196 t197 t198 t199 true)) = some r := H
      have A9 := Aside0.mk A90
      clear A90
      by_cases c10 : t199.toList = t200.toList
      · rw [if_pos c10] at H
        have c10b0 : (t199.toList == t200.toList) = true := beq_iff_eq.mpr c10
        have c10b1 : (t199.toList != t200.toList) = false := bne_eq_false_iff_eq.mpr c10
        clear c10
        (first | rw [c10b0] | (simp only [i64_w, i32_w]; rw [c10b0]) | skip)
        replace H := Option.bind_eq_some_iff.mp H
        obtain ⟨t201, A110, H⟩ := H
        replace H : (laws_FnWritten.j0 k l0 t196 t197 t198 t199 (t201.toList != ([97, 98] : List UInt8))) = some r := H
        have A11 := Aside0.mk A110
        clear A110
        have H' := Aside0.mk H
        clear H
        go_wp2_with (first | (go_at_call 11; (with_reducible refine (spec_TextWith.calls k t196 t197 t198 t200 _ A9.out).mono ?_); rintro e w12 ⟨rfl, hb⟩; have n0_ := Aside0.mk (below_step (by repeat (first | (with_reducible first | exact HB.out | apply below_alloc | apply pw_below_drewN | apply below_drew1) | exact HB.out)) hb); clear HB; have HB := n0_; clear n0_; (try clear hb); (try clear hb2); (try clear hk); (try clear hi)) | (go_at_call 12; (with_reducible refine (impl_TextCut.calls (⟨#[97, 98, 99]⟩ : ByteArray) 2 t201 _ A11.out).mono ?_); rintro e w13 ⟨rfl, hb⟩; have n0_ := Aside0.mk (below_step (by repeat (first | (with_reducible first | exact HB.out | apply below_alloc | apply pw_below_drewN | apply below_drew1) | exact HB.out)) hb); clear HB; have HB := n0_; clear n0_; (try clear hb); (try clear hb2); (try clear hk); (try clear hi)))
        repeat (go_quiet (first | (go_at_call 11; (with_reducible refine (spec_TextWith.calls k t196 t197 t198 t200 _ A9.out).mono ?_); rintro e w12 ⟨rfl, hb⟩; have n0_ := Aside0.mk (below_step (by repeat (first | (with_reducible first | exact HB.out | apply below_alloc | apply pw_below_drewN | apply below_drew1) | exact HB.out)) hb); clear HB; have HB := n0_; clear n0_; (try clear hb); (try clear hb2); (try clear hk); (try clear hi)) | (go_at_call 12; (with_reducible refine (impl_TextCut.calls (⟨#[97, 98, 99]⟩ : ByteArray) 2 t201 _ A11.out).mono ?_); rintro e w13 ⟨rfl, hb⟩; have n0_ := Aside0.mk (below_step (by repeat (first | (with_reducible first | exact HB.out | apply below_alloc | apply pw_below_drewN | apply below_drew1) | exact HB.out)) hb); clear HB; have HB := n0_; clear n0_; (try clear hb); (try clear hb2); (try clear hk); (try clear hi))); try go_wp2_with (first | (go_at_call 11; (with_reducible refine (spec_TextWith.calls k t196 t197 t198 t200 _ A9.out).mono ?_); rintro e w12 ⟨rfl, hb⟩; have n0_ := Aside0.mk (below_step (by repeat (first | (with_reducible first | exact HB.out | apply below_alloc | apply pw_below_drewN | apply below_drew1) | exact HB.out)) hb); clear HB; have HB := n0_; clear n0_; (try clear hb); (try clear hb2); (try clear hk); (try clear hi)) | (go_at_call 12; (with_reducible refine (impl_TextCut.calls (⟨#[97, 98, 99]⟩ : ByteArray) 2 t201 _ A11.out).mono ?_); rintro e w13 ⟨rfl, hb⟩; have n0_ := Aside0.mk (below_step (by repeat (first | (with_reducible first | exact HB.out | apply below_alloc | apply pw_below_drewN | apply below_drew1) | exact HB.out)) hb); clear HB; have HB := n0_; clear n0_; (try clear hb); (try clear hb2); (try clear hk); (try clear hi))))
        go_meet
        case rel => exact ⟨_, ((t201.toList != ([97, 98] : List UInt8))), (by first | rfl | (simp; done) | (simp [*]; done)), H', ⟨by first | omega | exact Nat.le_refl _⟩, ⟨by repeat (first | (with_reducible first | exact HB.out | apply below_alloc | apply pw_below_drewN | apply below_drew1) | exact HB.out)⟩⟩
      · rw [if_neg c10] at H
        have c10b0 : (t199.toList == t200.toList) = false := beq_eq_false_iff_ne.mpr c10
        have c10b1 : (t199.toList != t200.toList) = true := bne_iff_ne.mpr c10
        (first | rw [c10b0] | (simp only [i64_w, i32_w]; rw [c10b0]) | skip)
        have H' := Aside0.mk H
        clear H
        go_wp2_with (first | (go_at_call 11; (with_reducible refine (spec_TextWith.calls k t196 t197 t198 t200 _ A9.out).mono ?_); rintro e w14 ⟨rfl, hb⟩; have n0_ := Aside0.mk (below_step (by repeat (first | (with_reducible first | exact HB.out | apply below_alloc | apply pw_below_drewN | apply below_drew1) | exact HB.out)) hb); clear HB; have HB := n0_; clear n0_; (try clear hb); (try clear hb2); (try clear hk); (try clear hi)))
        repeat (go_quiet (first | (go_at_call 11; (with_reducible refine (spec_TextWith.calls k t196 t197 t198 t200 _ A9.out).mono ?_); rintro e w14 ⟨rfl, hb⟩; have n0_ := Aside0.mk (below_step (by repeat (first | (with_reducible first | exact HB.out | apply below_alloc | apply pw_below_drewN | apply below_drew1) | exact HB.out)) hb); clear HB; have HB := n0_; clear n0_; (try clear hb); (try clear hb2); (try clear hk); (try clear hi))); try go_wp2_with (first | (go_at_call 11; (with_reducible refine (spec_TextWith.calls k t196 t197 t198 t200 _ A9.out).mono ?_); rintro e w14 ⟨rfl, hb⟩; have n0_ := Aside0.mk (below_step (by repeat (first | (with_reducible first | exact HB.out | apply below_alloc | apply pw_below_drewN | apply below_drew1) | exact HB.out)) hb); clear HB; have HB := n0_; clear n0_; (try clear hb); (try clear hb2); (try clear hk); (try clear hi))))
        go_meet
        case rel => exact ⟨_, (true), (by first | rfl | (simp; done) | (simp [*]; done)), H', ⟨by first | omega | exact Nat.le_refl _⟩, ⟨by repeat (first | (with_reducible first | exact HB.out | apply below_alloc | apply pw_below_drewN | apply below_drew1) | exact HB.out)⟩⟩
    case rest =>
      clear HC6
      try clear c1
      try clear p2
      try clear c3
      try clear c10
      try clear c10b0
      try clear c10b1
      obtain ⟨kq, x33_5, rfl, HA, HJ5, HB⟩ := hcut
      cases kq with
      | zero => exact absurd HA.out (by simp [laws_FnWritten.j0])
      | succ kj5 =>
        have H := HA.out
        clear HA
        simp only [laws_FnWritten.j0] at H
        by_cases c15 : x33_5 = true
        · subst c15
          have H1 : (some false) = some r := by rw [if_pos rfl] at H; exact H
          clear H
          have H := H1
          clear H1
          obtain rfl := Option.some.inj H
          go_wp2
          repeat (go_quiet (fail); try go_wp2)
          go_ret
          exact ⟨by first | rfl | (simp [errW_none, errW_some] <;> rfl) | (simp [*, errW_none, errW_some] <;> rfl), by repeat (first | (with_reducible first | exact HB.out | apply below_alloc | apply pw_below_drewN | apply below_drew1) | exact HB.out)⟩
        · replace c15 := Bool.eq_false_iff.mpr c15
          subst c15
          have H1 : ((spec_DrawTextCut.f kj5 l0).bind fun bt202 => ((impl_TextCut.f bt202.1 bt202.2).bind fun t204 => (if bt202.2 ≥ 0 then (if bt202.2 ≤ 128 then (laws_FnWritten.j1 kj5 t196 t197 t198 t199 bt202.1 bt202.2 t204 ((t204.size : Int) != bt202.2)) else (laws_FnWritten.j1 kj5 t196 t197 t198 t199 bt202.1 bt202.2 t204 false)) else (laws_FnWritten.j1 kj5 t196 t197 t198 t199 bt202.1 bt202.2 t204 false)))) = some r := by rw [if_neg (show ¬ (false = true) by decide)] at H; exact H
          clear H
          have H := H1
          clear H1
          replace H := Option.bind_eq_some_iff.mp H
          obtain ⟨⟨t202, t203⟩, A160, H⟩ := H
          replace H : ((impl_TextCut.f t202 t203).bind fun t204 => (if t203 ≥ 0 then (if t203 ≤ 128 then (laws_FnWritten.j1 kj5 t196 t197 t198 t199 t202 t203 t204 ((t204.size : Int) != t203)) else (laws_FnWritten.j1 kj5 t196 t197 t198 t199 t202 t203 t204 false)) else (laws_FnWritten.j1 kj5 t196 t197 t198 t199 t202 t203 t204 false))) = some r := H
          have A16 := Aside0.mk A160
          clear A160
          replace H := Option.bind_eq_some_iff.mp H
          obtain ⟨t204, A170, H⟩ := H
          replace H : (if t203 ≥ 0 then (if t203 ≤ 128 then (laws_FnWritten.j1 kj5 t196 t197 t198 t199 t202 t203 t204 ((t204.size : Int) != t203)) else (laws_FnWritten.j1 kj5 t196 t197 t198 t199 t202 t203 t204 false)) else (laws_FnWritten.j1 kj5 t196 t197 t198 t199 t202 t203 t204 false)) = some r := H
          have A17 := Aside0.mk A170
          clear A170
          have HC18 := Aside0.mk H
          clear H
          go_upto_region 9 with (first | (go_at_call 13; (with_reducible refine (spec_DrawTextCut.calls kj5 _ _ l0 t202 t203 _ ?side1 ?side2 A16.out).mono ?_); (case side1 => repeat (first | exact (Kd.C_below HR0.out HB.out) | (with_reducible refine Kd.C_alloc ?_ _) | (with_reducible refine Kd.C_drewN ?_ _) | (with_reducible refine Kd.C_drew ?_))); (case side2 => exact HC0.out); rintro e w19 ⟨rfl, hb⟩; have n0_ := Aside0.mk (below_step (by repeat (first | (with_reducible first | exact HB.out | apply below_alloc | apply pw_below_drewN | apply below_drew1) | exact HB.out)) hb); clear HB; have HB := n0_; clear n0_; (try clear hb); (try clear hb2); (try clear hk); (try clear hi)) | (go_at_call 12; (with_reducible refine (impl_TextCut.calls t202 t203 t204 _ A17.out).mono ?_); rintro e w20 ⟨rfl, hb⟩; have n0_ := Aside0.mk (below_step (by repeat (first | (with_reducible first | exact HB.out | apply below_alloc | apply pw_below_drewN | apply below_drew1) | exact HB.out)) hb); clear HB; have HB := n0_; clear n0_; (try clear hb); (try clear hb2); (try clear hk); (try clear hi)))
          repeat (go_quiet (first | (go_at_call 13; (with_reducible refine (spec_DrawTextCut.calls kj5 _ _ l0 t202 t203 _ ?side1 ?side2 A16.out).mono ?_); (case side1 => repeat (first | exact (Kd.C_below HR0.out HB.out) | (with_reducible refine Kd.C_alloc ?_ _) | (with_reducible refine Kd.C_drewN ?_ _) | (with_reducible refine Kd.C_drew ?_))); (case side2 => exact HC0.out); rintro e w19 ⟨rfl, hb⟩; have n0_ := Aside0.mk (below_step (by repeat (first | (with_reducible first | exact HB.out | apply below_alloc | apply pw_below_drewN | apply below_drew1) | exact HB.out)) hb); clear HB; have HB := n0_; clear n0_; (try clear hb); (try clear hb2); (try clear hk); (try clear hi)) | (go_at_call 12; (with_reducible refine (impl_TextCut.calls t202 t203 t204 _ A17.out).mono ?_); rintro e w20 ⟨rfl, hb⟩; have n0_ := Aside0.mk (below_step (by repeat (first | (with_reducible first | exact HB.out | apply below_alloc | apply pw_below_drewN | apply below_drew1) | exact HB.out)) hb); clear HB; have HB := n0_; clear n0_; (try clear hb); (try clear hb2); (try clear hk); (try clear hi))); go_upto_region 9 with (first | (go_at_call 13; (with_reducible refine (spec_DrawTextCut.calls kj5 _ _ l0 t202 t203 _ ?side1 ?side2 A16.out).mono ?_); (case side1 => repeat (first | exact (Kd.C_below HR0.out HB.out) | (with_reducible refine Kd.C_alloc ?_ _) | (with_reducible refine Kd.C_drewN ?_ _) | (with_reducible refine Kd.C_drew ?_))); (case side2 => exact HC0.out); rintro e w19 ⟨rfl, hb⟩; have n0_ := Aside0.mk (below_step (by repeat (first | (with_reducible first | exact HB.out | apply below_alloc | apply pw_below_drewN | apply below_drew1) | exact HB.out)) hb); clear HB; have HB := n0_; clear n0_; (try clear hb); (try clear hb2); (try clear hk); (try clear hi)) | (go_at_call 12; (with_reducible refine (impl_TextCut.calls t202 t203 t204 _ A17.out).mono ?_); rintro e w20 ⟨rfl, hb⟩; have n0_ := Aside0.mk (below_step (by repeat (first | (with_reducible first | exact HB.out | apply below_alloc | apply pw_below_drewN | apply below_drew1) | exact HB.out)) hb); clear HB; have HB := n0_; clear n0_; (try clear hb); (try clear hb2); (try clear hk); (try clear hi))))
          (try simp only [Act.put, List.setIfInBounds_toArray, List.set_cons_zero, List.set_cons_succ])
          go_cut [53] (fun v53 wc => ∃ (kq : Nat) (x53_17 : Bool), v53 = .bool x53_17 ∧ Aside0 (laws_FnWritten.j1 kq t196 t197 t198 t199 t202 t203 t204 x53_17 = some r) ∧ Aside0 (kq ≤ kj5) ∧ Aside0 (Below w.heap.size w wc))
          case first =>
            have H := HC18.out
            clear HC18
            by_cases c21 : t203 ≥ 0
            · rw [if_pos c21] at H
              have c21b0 : decide (0 ≤ t203) = true := decide_eq_true c21
              clear c21
              (first | rw [c21b0] | (simp only [i64_w, i32_w]; rw [c21b0]) | skip)
              by_cases c22 : t203 ≤ 128
              · rw [if_pos c22] at H
                have c22b0 : decide (t203 ≤ 128) = true := decide_eq_true c22
                clear c22
                have H' := Aside0.mk H
                clear H
                go_wp2
                repeat (go_quiet (fail); try go_wp2)
                go_meet
                case rel => exact ⟨_, (((t204.size : Int) != t203)), (by first | rfl | (simp; done) | (simp [*]; done)), H', ⟨by have := HJ5.out; first | omega | exact Nat.le_refl _⟩, ⟨by repeat (first | (with_reducible first | exact HB.out | apply below_alloc | apply pw_below_drewN | apply below_drew1) | exact HB.out)⟩⟩
              · rw [if_neg c22] at H
                have c22b0 : decide (t203 ≤ 128) = false := decide_eq_false c22
                clear c22
                have H' := Aside0.mk H
                clear H
                go_wp2
                repeat (go_quiet (fail); try go_wp2)
                go_meet
                case rel => exact ⟨_, (false), (by first | rfl | (simp; done) | (simp [*]; done)), H', ⟨by have := HJ5.out; first | omega | exact Nat.le_refl _⟩, ⟨by repeat (first | (with_reducible first | exact HB.out | apply below_alloc | apply pw_below_drewN | apply below_drew1) | exact HB.out)⟩⟩
            · rw [if_neg c21] at H
              have c21b0 : decide (0 ≤ t203) = false := decide_eq_false c21
              clear c21
              (first | rw [c21b0] | (simp only [i64_w, i32_w]; rw [c21b0]) | skip)
              have H' := Aside0.mk H
              clear H
              go_wp2
              repeat (go_quiet (fail); try go_wp2)
              go_meet
              case rel => exact ⟨_, (false), (by first | rfl | (simp; done) | (simp [*]; done)), H', ⟨by have := HJ5.out; first | omega | exact Nat.le_refl _⟩, ⟨by repeat (first | (with_reducible first | exact HB.out | apply below_alloc | apply pw_below_drewN | apply below_drew1) | exact HB.out)⟩⟩
          case rest =>
            clear HC18
            try clear c1
            try clear c2
            try clear p2
            try clear c3
            try clear c10
            try clear c10b0
            try clear c10b1
            try clear c15
            try clear c21
            try clear c21b0
            try clear c22
            try clear c22b0
            try clear p2
            obtain ⟨kq, x53_17, rfl, HA, HJ17, HB⟩ := hcut
            cases kq with
            | zero => exact absurd HA.out (by simp [laws_FnWritten.j1])
            | succ kj17 =>
              have H := HA.out
              clear HA
              simp only [laws_FnWritten.j1] at H
              by_cases c23 : x53_17 = true
              · subst c23
                have H1 : (some false) = some r := by rw [if_pos rfl] at H; exact H
                clear H
                have H := H1
                clear H1
                obtain rfl := Option.some.inj H
                go_wp2
                repeat (go_quiet (fail); try go_wp2)
                go_ret
                exact ⟨by first | rfl | (simp [errW_none, errW_some] <;> rfl) | (simp [*, errW_none, errW_some] <;> rfl), by repeat (first | (with_reducible first | exact HB.out | apply below_alloc | apply pw_below_drewN | apply below_drew1) | exact HB.out)⟩
              · replace c23 := Bool.eq_false_iff.mpr c23
                subst c23
                have H1 : (laws_FnWritten.l0 kj17 t196 t197 t198 t199 t202 t203 t204 0) = some r := by rw [if_neg (show ¬ (false = true) by decide)] at H; exact H
                clear H
                have H := H1
                clear H1
                have H' := Aside0.mk H
                clear H
                go_wp2
                repeat (go_quiet (fail); try go_wp2)
                go_loopg [10] kj17 (fun kq v10 w' => ∃ (x10_3 : Int), v10 = .int .i64 x10_3 ∧ Aside0 (laws_FnWritten.l0 kq t196 t197 t198 t199 t202 t203 t204 x10_3 = some r) ∧ Aside0 (kq ≤ kj17) ∧ Aside0 (Below w.heap.size w w'))
                case atStart => exact ⟨(0), (by first | rfl | (simp; done) | (simp [*]; done)), H', ⟨Nat.le_refl _⟩, ⟨by repeat (first | (with_reducible first | exact HB.out | apply below_alloc | apply pw_below_drewN | apply below_drew1) | exact HB.out)⟩⟩
                case round => as_aux_lemma =>
                  clear H'
                  try clear c1
                  try clear c2
                  try clear p2
                  try clear c3
                  try clear c10
                  try clear c10b0
                  try clear c10b1
                  try clear c15
                  try clear c21
                  try clear c21b0
                  try clear c22
                  try clear c22b0
                  try clear c23
                  try clear p2
                  obtain ⟨x10_3, rfl, HA, HK3, HB⟩ := hrel
                  cases gk with
                  | zero => exact absurd HA.out (by simp [laws_FnWritten.l0])
                  | succ k3 =>
                    have H := HA.out
                    clear HA
                    simp only [laws_FnWritten.l0] at H
                    have HC24 := Aside0.mk H
                    clear H
                    go_upto_region 12 with (fail)
                    repeat (go_quiet (fail); go_upto_region 12 with (fail))
                    go_cut [60] (fun v60 wc => ∃ (kq : Nat) (x60_23 : Bool), v60 = .bool x60_23 ∧ Aside0 (laws_FnWritten.j3 kq t196 t197 t198 t199 t202 t203 t204 x10_3 x60_23 = some r) ∧ Aside0 (kq ≤ k3) ∧ Aside0 (Below w.heap.size w wc))
                    case first =>
                      have H := HC24.out
                      clear HC24
                      by_cases c25 : x10_3 < t203
                      · rw [if_pos c25] at H
                        have c25b0 : decide (x10_3 < t203) = true := decide_eq_true c25
                        clear c25
                        (first | rw [c25b0] | (simp only [i64_w, i32_w]; rw [c25b0]) | skip)
                        have H' := Aside0.mk H
                        clear H
                        go_wp2
                        repeat (go_quiet (fail); try go_wp2)
                        go_meet
                        case rel => exact ⟨_, (decide (t203 ≤ 128)), (by first | rfl | (simp; done) | (simp [*]; done)), H', ⟨by have := HJ5.out; have := HJ17.out; have := HK3.out; first | omega | exact Nat.le_refl _⟩, ⟨by repeat (first | (with_reducible first | exact HB.out | apply below_alloc | apply pw_below_drewN | apply below_drew1) | exact HB.out)⟩⟩
                      · rw [if_neg c25] at H
                        have c25b0 : decide (x10_3 < t203) = false := decide_eq_false c25
                        clear c25
                        (first | rw [c25b0] | (simp only [i64_w, i32_w]; rw [c25b0]) | skip)
                        have H' := Aside0.mk H
                        clear H
                        go_wp2
                        repeat (go_quiet (fail); try go_wp2)
                        go_meet
                        case rel => exact ⟨_, (false), (by first | rfl | (simp; done) | (simp [*]; done)), H', ⟨by have := HJ5.out; have := HJ17.out; have := HK3.out; first | omega | exact Nat.le_refl _⟩, ⟨by repeat (first | (with_reducible first | exact HB.out | apply below_alloc | apply pw_below_drewN | apply below_drew1) | exact HB.out)⟩⟩
                    case rest =>
                      clear HC24
                      try clear c1
                      try clear c2
                      try clear p2
                      try clear c3
                      try clear c10
                      try clear c10b0
                      try clear c10b1
                      try clear c15
                      try clear c21
                      try clear c21b0
                      try clear c22
                      try clear c22b0
                      try clear c23
                      try clear c25
                      try clear c25b0
                      try clear p2
                      obtain ⟨kq, x60_23, rfl, HA, HJ23, HB⟩ := hcut
                      cases kq with
                      | zero => exact absurd HA.out (by simp [laws_FnWritten.j3])
                      | succ kj23 =>
                        have H := HA.out
                        clear HA
                        simp only [laws_FnWritten.j3] at H
                        by_cases c26 : x60_23 = true
                        · subst c26
                          have H1 : (if x10_3 < (t202.size : Int) then (if 0 ≤ x10_3 then (if x10_3 < (t204.size : Int) then (if (bt t204 x10_3) = (bt t202 x10_3) then (if x10_3 ≥ (t202.size : Int) then (if (bt t204 x10_3) = 0 then (laws_FnWritten.l0 kj23 t196 t197 t198 t199 t202 t203 t204 (wrap64 (x10_3 + 1))) else (some false)) else (laws_FnWritten.l0 kj23 t196 t197 t198 t199 t202 t203 t204 (wrap64 (x10_3 + 1)))) else (some false)) else (none)) else (none)) else (if x10_3 ≥ (t202.size : Int) then (if 0 ≤ x10_3 then (if x10_3 < (t204.size : Int) then (if (bt t204 x10_3) = 0 then (laws_FnWritten.l0 kj23 t196 t197 t198 t199 t202 t203 t204 (wrap64 (x10_3 + 1))) else (some false)) else (none)) else (none)) else (laws_FnWritten.l0 kj23 t196 t197 t198 t199 t202 t203 t204 (wrap64 (x10_3 + 1))))) = some r := by rw [if_pos rfl] at H; exact H
                          clear H
                          have H := H1
                          clear H1
                          by_cases c27 : x10_3 < (t202.size : Int)
                          · rw [if_pos c27] at H
                            have c27b0 : decide (x10_3 < (t202.size : Int)) = true := decide_eq_true c27
                            clear c27
                            by_cases c28 : 0 ≤ x10_3
                            · rw [if_pos c28] at H
                              have c28b0 : decide (0 ≤ x10_3) = true := decide_eq_true c28
                              clear c28
                              by_cases c29 : x10_3 < (t204.size : Int)
                              · rw [if_pos c29] at H
                                have c29b0 : decide (x10_3 < (t204.size : Int)) = true := decide_eq_true c29
                                clear c29
                                by_cases c32 : (bt t204 x10_3) = (bt t202 x10_3)
                                · rw [if_pos c32] at H
                                  have c32b0 : ((bt t204 x10_3) == (bt t202 x10_3)) = true := beq_iff_eq.mpr c32
                                  have c32b1 : ((bt t204 x10_3) != (bt t202 x10_3)) = false := bne_eq_false_iff_eq.mpr c32
                                  clear c32
                                  by_cases c33 : x10_3 ≥ (t202.size : Int)
                                  · rw [if_pos c33] at H
                                    have c33b0 : decide ((t202.size : Int) ≤ x10_3) = true := decide_eq_true c33
                                    clear c33
                                    by_cases c35 : (bt t204 x10_3) = 0
                                    · rw [if_pos c35] at H
                                      have c35b0 : ((bt t204 x10_3) == 0) = true := beq_iff_eq.mpr c35
                                      have c35b1 : ((bt t204 x10_3) != 0) = false := bne_eq_false_iff_eq.mpr c35
                                      clear c35
                                      have H' := Aside0.mk H
                                      clear H
                                      have p30 : 0 ≤ (x10_3 : Int) := of_decide_eq_true (by first | (with_reducible assumption) | assumption)
                                      have q30 : x10_3 < (t204.size : Int) := of_decide_eq_true (by first | (with_reducible assumption) | assumption)
                                      have hx30 := bt_at t204 x10_3
                                      replace p30 := eq_true p30
                                      replace q30 := eq_true q30
                                      have p31 : 0 ≤ (x10_3 : Int) := of_decide_eq_true (by first | (with_reducible assumption) | assumption)
                                      have q31 : x10_3 < (t202.size : Int) := of_decide_eq_true (by first | (with_reducible assumption) | assumption)
                                      have hx31 := bt_at t202 x10_3
                                      replace p31 := eq_true p31
                                      replace q31 := eq_true q31
                                      have p34 : 0 ≤ (x10_3 : Int) := of_decide_eq_true (by first | (with_reducible assumption) | assumption)
                                      have q34 : x10_3 < (t204.size : Int) := of_decide_eq_true (by first | (with_reducible assumption) | assumption)
                                      have hx34 := bt_at t204 x10_3
                                      replace p34 := eq_true p34
                                      replace q34 := eq_true q34
                                      go_wp2
                                      repeat (go_quiet (fail); try go_wp2)
                                      go_roundg kj23
                                      case measure => have := HJ5.out; have := HJ17.out; have := HK3.out; have := HJ23.out; omega
                                      case rel => exact ⟨(wrap64 (x10_3 + 1)), (by first | rfl | (simp; done) | (simp [*]; done)), H', ⟨by have := HJ5.out; have := HJ17.out; have := HK3.out; have := HJ23.out; omega⟩, ⟨by repeat (first | (with_reducible first | exact HB.out | apply below_alloc | apply pw_below_drewN | apply below_drew1) | exact HB.out)⟩⟩
                                    · rw [if_neg c35] at H
                                      have c35b0 : ((bt t204 x10_3) == 0) = false := beq_eq_false_iff_ne.mpr c35
                                      have c35b1 : ((bt t204 x10_3) != 0) = true := bne_iff_ne.mpr c35
                                      obtain rfl := Option.some.inj H
                                      have p30 : 0 ≤ (x10_3 : Int) := of_decide_eq_true (by first | (with_reducible assumption) | assumption)
                                      have q30 : x10_3 < (t204.size : Int) := of_decide_eq_true (by first | (with_reducible assumption) | assumption)
                                      have hx30 := bt_at t204 x10_3
                                      replace p30 := eq_true p30
                                      replace q30 := eq_true q30
                                      have p31 : 0 ≤ (x10_3 : Int) := of_decide_eq_true (by first | (with_reducible assumption) | assumption)
                                      have q31 : x10_3 < (t202.size : Int) := of_decide_eq_true (by first | (with_reducible assumption) | assumption)
                                      have hx31 := bt_at t202 x10_3
                                      replace p31 := eq_true p31
                                      replace q31 := eq_true q31
                                      have p34 : 0 ≤ (x10_3 : Int) := of_decide_eq_true (by first | (with_reducible assumption) | assumption)
                                      have q34 : x10_3 < (t204.size : Int) := of_decide_eq_true (by first | (with_reducible assumption) | assumption)
                                      have hx34 := bt_at t204 x10_3
                                      replace p34 := eq_true p34
                                      replace q34 := eq_true q34
                                      go_wp2
                                      repeat (go_quiet (fail); try go_wp2)
                                      go_ret
                                      exact ⟨by first | rfl | (simp [errW_none, errW_some] <;> rfl) | (simp [*, errW_none, errW_some] <;> rfl), by repeat (first | (with_reducible first | exact HB.out | apply below_alloc | apply pw_below_drewN | apply below_drew1) | exact HB.out)⟩
                                  · rw [if_neg c33] at H
                                    have c33b0 : decide ((t202.size : Int) ≤ x10_3) = false := decide_eq_false c33
                                    clear c33
                                    have H' := Aside0.mk H
                                    clear H
                                    have p30 : 0 ≤ (x10_3 : Int) := of_decide_eq_true (by first | (with_reducible assumption) | assumption)
                                    have q30 : x10_3 < (t204.size : Int) := of_decide_eq_true (by first | (with_reducible assumption) | assumption)
                                    have hx30 := bt_at t204 x10_3
                                    replace p30 := eq_true p30
                                    replace q30 := eq_true q30
                                    have p31 : 0 ≤ (x10_3 : Int) := of_decide_eq_true (by first | (with_reducible assumption) | assumption)
                                    have q31 : x10_3 < (t202.size : Int) := of_decide_eq_true (by first | (with_reducible assumption) | assumption)
                                    have hx31 := bt_at t202 x10_3
                                    replace p31 := eq_true p31
                                    replace q31 := eq_true q31
                                    go_wp2
                                    repeat (go_quiet (fail); try go_wp2)
                                    go_roundg kj23
                                    case measure => have := HJ5.out; have := HJ17.out; have := HK3.out; have := HJ23.out; omega
                                    case rel => exact ⟨(wrap64 (x10_3 + 1)), (by first | rfl | (simp; done) | (simp [*]; done)), H', ⟨by have := HJ5.out; have := HJ17.out; have := HK3.out; have := HJ23.out; omega⟩, ⟨by repeat (first | (with_reducible first | exact HB.out | apply below_alloc | apply pw_below_drewN | apply below_drew1) | exact HB.out)⟩⟩
                                · rw [if_neg c32] at H
                                  have c32b0 : ((bt t204 x10_3) == (bt t202 x10_3)) = false := beq_eq_false_iff_ne.mpr c32
                                  have c32b1 : ((bt t204 x10_3) != (bt t202 x10_3)) = true := bne_iff_ne.mpr c32
                                  obtain rfl := Option.some.inj H
                                  have p30 : 0 ≤ (x10_3 : Int) := of_decide_eq_true (by first | (with_reducible assumption) | assumption)
                                  have q30 : x10_3 < (t204.size : Int) := of_decide_eq_true (by first | (with_reducible assumption) | assumption)
                                  have hx30 := bt_at t204 x10_3
                                  replace p30 := eq_true p30
                                  replace q30 := eq_true q30
                                  have p31 : 0 ≤ (x10_3 : Int) := of_decide_eq_true (by first | (with_reducible assumption) | assumption)
                                  have q31 : x10_3 < (t202.size : Int) := of_decide_eq_true (by first | (with_reducible assumption) | assumption)
                                  have hx31 := bt_at t202 x10_3
                                  replace p31 := eq_true p31
                                  replace q31 := eq_true q31
                                  go_wp2
                                  repeat (go_quiet (fail); try go_wp2)
                                  go_ret
                                  exact ⟨by first | rfl | (simp [errW_none, errW_some] <;> rfl) | (simp [*, errW_none, errW_some] <;> rfl), by repeat (first | (with_reducible first | exact HB.out | apply below_alloc | apply pw_below_drewN | apply below_drew1) | exact HB.out)⟩
                              · rw [if_neg c29] at H
                                exact absurd H (by simp)
                            · rw [if_neg c28] at H
                              exact absurd H (by simp)
                          · rw [if_neg c27] at H
                            have c27b0 : decide (x10_3 < (t202.size : Int)) = false := decide_eq_false c27
                            clear c27
                            by_cases c36 : x10_3 ≥ (t202.size : Int)
                            · rw [if_pos c36] at H
                              have c36b0 : decide ((t202.size : Int) ≤ x10_3) = true := decide_eq_true c36
                              clear c36
                              by_cases c37 : 0 ≤ x10_3
                              · rw [if_pos c37] at H
                                have c37b0 : decide (0 ≤ x10_3) = true := decide_eq_true c37
                                clear c37
                                by_cases c38 : x10_3 < (t204.size : Int)
                                · rw [if_pos c38] at H
                                  have c38b0 : decide (x10_3 < (t204.size : Int)) = true := decide_eq_true c38
                                  clear c38
                                  by_cases c40 : (bt t204 x10_3) = 0
                                  · rw [if_pos c40] at H
                                    have c40b0 : ((bt t204 x10_3) == 0) = true := beq_iff_eq.mpr c40
                                    have c40b1 : ((bt t204 x10_3) != 0) = false := bne_eq_false_iff_eq.mpr c40
                                    clear c40
                                    have H' := Aside0.mk H
                                    clear H
                                    have p39 : 0 ≤ (x10_3 : Int) := of_decide_eq_true (by first | (with_reducible assumption) | assumption)
                                    have q39 : x10_3 < (t204.size : Int) := of_decide_eq_true (by first | (with_reducible assumption) | assumption)
                                    have hx39 := bt_at t204 x10_3
                                    replace p39 := eq_true p39
                                    replace q39 := eq_true q39
                                    go_wp2
                                    repeat (go_quiet (fail); try go_wp2)
                                    go_roundg kj23
                                    case measure => have := HJ5.out; have := HJ17.out; have := HK3.out; have := HJ23.out; omega
                                    case rel => exact ⟨(wrap64 (x10_3 + 1)), (by first | rfl | (simp; done) | (simp [*]; done)), H', ⟨by have := HJ5.out; have := HJ17.out; have := HK3.out; have := HJ23.out; omega⟩, ⟨by repeat (first | (with_reducible first | exact HB.out | apply below_alloc | apply pw_below_drewN | apply below_drew1) | exact HB.out)⟩⟩
                                  · rw [if_neg c40] at H
                                    have c40b0 : ((bt t204 x10_3) == 0) = false := beq_eq_false_iff_ne.mpr c40
                                    have c40b1 : ((bt t204 x10_3) != 0) = true := bne_iff_ne.mpr c40
                                    obtain rfl := Option.some.inj H
                                    have p39 : 0 ≤ (x10_3 : Int) := of_decide_eq_true (by first | (with_reducible assumption) | assumption)
                                    have q39 : x10_3 < (t204.size : Int) := of_decide_eq_true (by first | (with_reducible assumption) | assumption)
                                    have hx39 := bt_at t204 x10_3
                                    replace p39 := eq_true p39
                                    replace q39 := eq_true q39
                                    go_wp2
                                    repeat (go_quiet (fail); try go_wp2)
                                    go_ret
                                    exact ⟨by first | rfl | (simp [errW_none, errW_some] <;> rfl) | (simp [*, errW_none, errW_some] <;> rfl), by repeat (first | (with_reducible first | exact HB.out | apply below_alloc | apply pw_below_drewN | apply below_drew1) | exact HB.out)⟩
                                · rw [if_neg c38] at H
                                  exact absurd H (by simp)
                              · rw [if_neg c37] at H
                                exact absurd H (by simp)
                            · rw [if_neg c36] at H
                              have c36b0 : decide ((t202.size : Int) ≤ x10_3) = false := decide_eq_false c36
                              clear c36
                              have H' := Aside0.mk H
                              clear H
                              go_wp2
                              repeat (go_quiet (fail); try go_wp2)
                              go_roundg kj23
                              case measure => have := HJ5.out; have := HJ17.out; have := HK3.out; have := HJ23.out; omega
                              case rel => exact ⟨(wrap64 (x10_3 + 1)), (by first | rfl | (simp; done) | (simp [*]; done)), H', ⟨by have := HJ5.out; have := HJ17.out; have := HK3.out; have := HJ23.out; omega⟩, ⟨by repeat (first | (with_reducible first | exact HB.out | apply below_alloc | apply pw_below_drewN | apply below_drew1) | exact HB.out)⟩⟩
                        · replace c26 := Bool.eq_false_iff.mpr c26
                          subst c26
                          have H1 : (if (t198.size : Int) = 0 then (laws_FnWritten.j4 kj23 t196 t197 t198 t199 true) else (if t197 < 0 then (laws_FnWritten.j4 kj23 t196 t197 t198 t199 true) else (laws_FnWritten.j4 kj23 t196 t197 t198 t199 (decide (t197 > (wrap64 (128 - (t198.size : Int)))))))) = some r := by rw [if_neg (show ¬ (false = true) by decide)] at H; exact H
                          clear H
                          have H := H1
                          clear H1
                          have HC41 := Aside0.mk H
                          clear H
                          go_upto_region 16 with (fail)
                          repeat (go_quiet (fail); go_upto_region 16 with (fail))
                          go_cut [101] (fun v101 wc => ∃ (kq : Nat) (x101_40 : Bool), v101 = .bool x101_40 ∧ Aside0 (laws_FnWritten.j4 kq t196 t197 t198 t199 x101_40 = some r) ∧ Aside0 (kq ≤ kj23) ∧ Aside0 (Below w.heap.size w wc))
                          case first =>
                            have H := HC41.out
                            clear HC41
                            by_cases c42 : (t198.size : Int) = 0
                            · rw [if_pos c42] at H
                              have c42b0 : ((t198.size : Int) == 0) = true := beq_iff_eq.mpr c42
                              have c42b1 : ((t198.size : Int) != 0) = false := bne_eq_false_iff_eq.mpr c42
                              clear c42
                              (first | rw [c42b0] | (simp only [i64_w, i32_w]; rw [c42b0]) | skip)
                              have H' := Aside0.mk H
                              clear H
                              go_wp2
                              repeat (go_quiet (fail); try go_wp2)
                              go_meet
                              case rel => exact ⟨_, (true), (by first | rfl | (simp; done) | (simp [*]; done)), H', ⟨by have := HJ5.out; have := HJ17.out; have := HK3.out; have := HJ23.out; first | omega | exact Nat.le_refl _⟩, ⟨by repeat (first | (with_reducible first | exact HB.out | apply below_alloc | apply pw_below_drewN | apply below_drew1) | exact HB.out)⟩⟩
                            · rw [if_neg c42] at H
                              have c42b0 : ((t198.size : Int) == 0) = false := beq_eq_false_iff_ne.mpr c42
                              have c42b1 : ((t198.size : Int) != 0) = true := bne_iff_ne.mpr c42
                              (first | rw [c42b0] | (simp only [i64_w, i32_w]; rw [c42b0]) | skip)
                              by_cases c43 : t197 < 0
                              · rw [if_pos c43] at H
                                have c43b0 : decide (t197 < 0) = true := decide_eq_true c43
                                clear c43
                                have H' := Aside0.mk H
                                clear H
                                go_wp2
                                repeat (go_quiet (fail); try go_wp2)
                                go_meet
                                case rel => exact ⟨_, (true), (by first | rfl | (simp; done) | (simp [*]; done)), H', ⟨by have := HJ5.out; have := HJ17.out; have := HK3.out; have := HJ23.out; first | omega | exact Nat.le_refl _⟩, ⟨by repeat (first | (with_reducible first | exact HB.out | apply below_alloc | apply pw_below_drewN | apply below_drew1) | exact HB.out)⟩⟩
                              · rw [if_neg c43] at H
                                have c43b0 : decide (t197 < 0) = false := decide_eq_false c43
                                clear c43
                                have H' := Aside0.mk H
                                clear H
                                go_wp2
                                repeat (go_quiet (fail); try go_wp2)
                                go_meet
                                case rel => exact ⟨_, (decide (t197 > (wrap64 (128 - (t198.size : Int))))), (by first | rfl | (simp; done) | (simp [*]; done)), H', ⟨by have := HJ5.out; have := HJ17.out; have := HK3.out; have := HJ23.out; first | omega | exact Nat.le_refl _⟩, ⟨by repeat (first | (with_reducible first | exact HB.out | apply below_alloc | apply pw_below_drewN | apply below_drew1) | exact HB.out)⟩⟩
                          case rest =>
                            clear HC41
                            try clear c1
                            try clear c2
                            try clear p2
                            try clear c3
                            try clear p3
                            try clear q3
                            try clear hx3
                            try clear c4
                            try clear p6
                            try clear c10
                            try clear c10b0
                            try clear c10b1
                            try clear c15
                            try clear c21
                            try clear c21b0
                            try clear c22
                            try clear c22b0
                            try clear c23
                            try clear c25
                            try clear c25b0
                            try clear c26
                            try clear c27
                            try clear c27b0
                            try clear c28
                            try clear c28b0
                            try clear c29
                            try clear c29b0
                            try clear p30
                            try clear q30
                            try clear hx30
                            try clear p31
                            try clear q31
                            try clear hx31
                            try clear c32
                            try clear c32b0
                            try clear c32b1
                            try clear c33
                            try clear c33b0
                            try clear p34
                            try clear q34
                            try clear hx34
                            try clear c35
                            try clear c35b0
                            try clear c35b1
                            try clear c36
                            try clear c36b0
                            try clear c37
                            try clear c37b0
                            try clear c38
                            try clear c38b0
                            try clear p39
                            try clear q39
                            try clear hx39
                            try clear c40
                            try clear c40b0
                            try clear c40b1
                            try clear c42
                            try clear c42b0
                            try clear c42b1
                            try clear c43
                            try clear c43b0
                            try clear p2
                            try clear p30
                            try clear p31
                            try clear p34
                            try clear p39
                            try clear q30
                            try clear q31
                            try clear q34
                            try clear q39
                            obtain ⟨kq, x101_40, rfl, HA, HJ40, HB⟩ := hcut
                            cases kq with
                            | zero => exact absurd HA.out (by simp [laws_FnWritten.j4])
                            | succ kj40 =>
                              have H := HA.out
                              clear HA
                              simp only [laws_FnWritten.j4] at H
                              by_cases c44 : x101_40 = true
                              · subst c44
                                have H1 : (some (t199.toList == t196.toList)) = some r := by rw [if_pos rfl] at H; exact H
                                clear H
                                have H := H1
                                clear H1
                                obtain rfl := Option.some.inj H
                                go_wp2
                                repeat (go_quiet (fail); try go_wp2)
                                go_ret
                                exact ⟨by first | rfl | (simp [errW_none, errW_some] <;> rfl) | (simp [*, errW_none, errW_some] <;> rfl), by repeat (first | (with_reducible first | exact HB.out | apply below_alloc | apply pw_below_drewN | apply below_drew1) | exact HB.out)⟩
                              · replace c44 := Bool.eq_false_iff.mpr c44
                                subst c44
                                have H1 : (if (t199.size : Int) < (wrap64 (t197 + (t198.size : Int))) then (laws_FnWritten.j5 kj40 t196 t197 t198 t199 true) else (if 0 ≤ t197 then (if t197 ≤ (wrap64 (t197 + (t198.size : Int))) then (if (wrap64 (t197 + (t198.size : Int))) ≤ (t199.size : Int) then (laws_FnWritten.j5 kj40 t196 t197 t198 t199 ((t199.extract (t197 : Int).toNat ((wrap64 (t197 + (t198.size : Int))) : Int).toNat).toList != t198.toList)) else (none)) else (none)) else (none))) = some r := by rw [if_neg (show ¬ (false = true) by decide)] at H; exact H
                                clear H
                                have H := H1
                                clear H1
                                have HC45 := Aside0.mk H
                                clear H
                                go_upto_region 18 with (fail)
                                repeat (go_quiet (fail); go_upto_region 18 with (fail))
                                go_cut [122] (fun v122 wc => ∃ (kq : Nat) (x122_44 : Bool), v122 = .bool x122_44 ∧ Aside0 (laws_FnWritten.j5 kq t196 t197 t198 t199 x122_44 = some r) ∧ Aside0 (kq ≤ kj40) ∧ Aside0 (Below w.heap.size w wc))
                                case first =>
                                  have H := HC45.out
                                  clear HC45
                                  by_cases c46 : (t199.size : Int) < (wrap64 (t197 + (t198.size : Int)))
                                  · rw [if_pos c46] at H
                                    have c46b0 : decide ((t199.size : Int) < (wrap64 (t197 + (t198.size : Int)))) = true := decide_eq_true c46
                                    clear c46
                                    (first | rw [c46b0] | (simp only [i64_w, i32_w]; rw [c46b0]) | skip)
                                    have H' := Aside0.mk H
                                    clear H
                                    go_wp2
                                    repeat (go_quiet (fail); try go_wp2)
                                    go_meet
                                    case rel => exact ⟨_, (true), (by first | rfl | (simp; done) | (simp [*]; done)), H', ⟨by have := HJ5.out; have := HJ17.out; have := HK3.out; have := HJ23.out; have := HJ40.out; first | omega | exact Nat.le_refl _⟩, ⟨by repeat (first | (with_reducible first | exact HB.out | apply below_alloc | apply pw_below_drewN | apply below_drew1) | exact HB.out)⟩⟩
                                  · rw [if_neg c46] at H
                                    have c46b0 : decide ((t199.size : Int) < (wrap64 (t197 + (t198.size : Int)))) = false := decide_eq_false c46
                                    clear c46
                                    (first | rw [c46b0] | (simp only [i64_w, i32_w]; rw [c46b0]) | skip)
                                    by_cases c47 : 0 ≤ t197
                                    · rw [if_pos c47] at H
                                      have c47b0 := eq_true c47
                                      have c47b1 : decide (0 ≤ t197) = true := decide_eq_true c47
                                      clear c47
                                      by_cases c48 : t197 ≤ (wrap64 (t197 + (t198.size : Int)))
                                      · rw [if_pos c48] at H
                                        have c48b0 := eq_true c48
                                        have c48b1 : decide (t197 ≤ (wrap64 (t197 + (t198.size : Int)))) = true := decide_eq_true c48
                                        by_cases c49 : (wrap64 (t197 + (t198.size : Int))) ≤ (t199.size : Int)
                                        · rw [if_pos c49] at H
                                          have c49b0 := eq_true c49
                                          have c49b1 : decide ((wrap64 (t197 + (t198.size : Int))) ≤ (t199.size : Int)) = true := decide_eq_true c49
                                          have H' := Aside0.mk H
                                          clear H
                                          go_wp2
                                          repeat (go_quiet (fail); try go_wp2)
                                          go_meet
                                          case rel => exact ⟨_, (((t199.extract (t197 : Int).toNat ((wrap64 (t197 + (t198.size : Int))) : Int).toNat).toList != t198.toList)), (by first | rfl | (simp; done) | (simp [*]; done)), H', ⟨by have := HJ5.out; have := HJ17.out; have := HK3.out; have := HJ23.out; have := HJ40.out; first | omega | exact Nat.le_refl _⟩, ⟨by repeat (first | (with_reducible first | exact HB.out | apply below_alloc | apply pw_below_drewN | apply below_drew1) | exact HB.out)⟩⟩
                                        · rw [if_neg c49] at H
                                          exact absurd H (by simp)
                                      · rw [if_neg c48] at H
                                        exact absurd H (by simp)
                                    · rw [if_neg c47] at H
                                      exact absurd H (by simp)
                                case rest =>
                                  clear HC45
                                  try clear c1
                                  try clear c2
                                  try clear p2
                                  try clear c3
                                  try clear p3
                                  try clear q3
                                  try clear hx3
                                  try clear c4
                                  try clear p6
                                  try clear c10
                                  try clear c10b0
                                  try clear c10b1
                                  try clear c15
                                  try clear c21
                                  try clear c21b0
                                  try clear c22
                                  try clear c22b0
                                  try clear c23
                                  try clear c25
                                  try clear c25b0
                                  try clear c26
                                  try clear c27
                                  try clear c27b0
                                  try clear c28
                                  try clear c28b0
                                  try clear c29
                                  try clear c29b0
                                  try clear p30
                                  try clear q30
                                  try clear hx30
                                  try clear p31
                                  try clear q31
                                  try clear hx31
                                  try clear c32
                                  try clear c32b0
                                  try clear c32b1
                                  try clear c33
                                  try clear c33b0
                                  try clear p34
                                  try clear q34
                                  try clear hx34
                                  try clear c35
                                  try clear c35b0
                                  try clear c35b1
                                  try clear c36
                                  try clear c36b0
                                  try clear c37
                                  try clear c37b0
                                  try clear c38
                                  try clear c38b0
                                  try clear p39
                                  try clear q39
                                  try clear hx39
                                  try clear c40
                                  try clear c40b0
                                  try clear c40b1
                                  try clear c42
                                  try clear c42b0
                                  try clear c42b1
                                  try clear c43
                                  try clear c43b0
                                  try clear c44
                                  try clear c46
                                  try clear c46b0
                                  try clear c47
                                  try clear c47b0
                                  try clear c47b1
                                  try clear c48
                                  try clear c48b0
                                  try clear c48b1
                                  try clear c49
                                  try clear c49b0
                                  try clear c49b1
                                  try clear p2
                                  try clear p3
                                  try clear p30
                                  try clear p31
                                  try clear p34
                                  try clear p39
                                  try clear p6
                                  try clear q3
                                  try clear q30
                                  try clear q31
                                  try clear q34
                                  try clear q39
                                  obtain ⟨kq, x122_44, rfl, HA, HJ44, HB⟩ := hcut
                                  cases kq with
                                  | zero => exact absurd HA.out (by simp [laws_FnWritten.j5])
                                  | succ kj44 =>
                                    have H := HA.out
                                    clear HA
                                    simp only [laws_FnWritten.j5] at H
                                    by_cases c50 : x122_44 = true
                                    · subst c50
                                      have H1 : (some false) = some r := by rw [if_pos rfl] at H; exact H
                                      clear H
                                      have H := H1
                                      clear H1
                                      obtain rfl := Option.some.inj H
                                      go_wp2
                                      repeat (go_quiet (fail); try go_wp2)
                                      go_ret
                                      exact ⟨by first | rfl | (simp [errW_none, errW_some] <;> rfl) | (simp [*, errW_none, errW_some] <;> rfl), by repeat (first | (with_reducible first | exact HB.out | apply below_alloc | apply pw_below_drewN | apply below_drew1) | exact HB.out)⟩
                                    · replace c50 := Bool.eq_false_iff.mpr c50
                                      subst c50
                                      have H1 : (laws_FnWritten.l1 kj44 t196 t197 t198 t199 0) = some r := by rw [if_neg (show ¬ (false = true) by decide)] at H; exact H
                                      clear H
                                      have H := H1
                                      clear H1
                                      have H' := Aside0.mk H
                                      clear H
                                      go_wp2
                                      repeat (go_quiet (fail); try go_wp2)
                                      go_loopg [11] kj44 (fun kq v11 w' => ∃ (x11_7 : Int), v11 = .int .i64 x11_7 ∧ Aside0 (laws_FnWritten.l1 kq t196 t197 t198 t199 x11_7 = some r) ∧ Aside0 (kq ≤ kj44) ∧ Aside0 (Below w.heap.size w w'))
                                      case atStart => exact ⟨(0), (by first | rfl | (simp; done) | (simp [*]; done)), H', ⟨Nat.le_refl _⟩, ⟨by repeat (first | (with_reducible first | exact HB.out | apply below_alloc | apply pw_below_drewN | apply below_drew1) | exact HB.out)⟩⟩
                                      case round => as_aux_lemma =>
                                        clear H'
                                        try clear c1
                                        try clear c2
                                        try clear p2
                                        try clear c3
                                        try clear p3
                                        try clear q3
                                        try clear hx3
                                        try clear c4
                                        try clear c5
                                        try clear p6
                                        try clear c10
                                        try clear c10b0
                                        try clear c10b1
                                        try clear c15
                                        try clear c21
                                        try clear c21b0
                                        try clear c22
                                        try clear c22b0
                                        try clear c23
                                        try clear c25
                                        try clear c25b0
                                        try clear c26
                                        try clear c27
                                        try clear c27b0
                                        try clear c28
                                        try clear c28b0
                                        try clear c29
                                        try clear c29b0
                                        try clear p30
                                        try clear q30
                                        try clear hx30
                                        try clear p31
                                        try clear q31
                                        try clear hx31
                                        try clear c32
                                        try clear c32b0
                                        try clear c32b1
                                        try clear c33
                                        try clear c33b0
                                        try clear p34
                                        try clear q34
                                        try clear hx34
                                        try clear c35
                                        try clear c35b0
                                        try clear c35b1
                                        try clear c36
                                        try clear c36b0
                                        try clear c37
                                        try clear c37b0
                                        try clear c38
                                        try clear c38b0
                                        try clear p39
                                        try clear q39
                                        try clear hx39
                                        try clear c40
                                        try clear c40b0
                                        try clear c40b1
                                        try clear c42
                                        try clear c42b0
                                        try clear c42b1
                                        try clear c43
                                        try clear c43b0
                                        try clear c44
                                        try clear c46
                                        try clear c46b0
                                        try clear c47
                                        try clear c47b0
                                        try clear c47b1
                                        try clear c48
                                        try clear c48b0
                                        try clear c48b1
                                        try clear c49
                                        try clear c49b0
                                        try clear c49b1
                                        try clear c50
                                        try clear p2
                                        try clear p3
                                        try clear p30
                                        try clear p31
                                        try clear p34
                                        try clear p39
                                        try clear p6
                                        try clear q3
                                        try clear q30
                                        try clear q31
                                        try clear q34
                                        try clear q39
                                        obtain ⟨x11_7, rfl, HA, HK7, HB⟩ := hrel
                                        cases gk with
                                        | zero => exact absurd HA.out (by simp [laws_FnWritten.l1])
                                        | succ k7 =>
                                          have H := HA.out
                                          clear HA
                                          simp only [laws_FnWritten.l1] at H
                                          by_cases c51 : x11_7 < (t199.size : Int)
                                          · rw [if_pos c51] at H
                                            have c51b0 : decide (x11_7 < (t199.size : Int)) = true := decide_eq_true c51
                                            clear c51
                                            by_cases c52 : x11_7 < t197
                                            · rw [if_pos c52] at H
                                              have c52b0 : decide (x11_7 < t197) = true := decide_eq_true c52
                                              clear c52
                                              by_cases c53 : x11_7 < (t196.size : Int)
                                              · rw [if_pos c53] at H
                                                have c53b0 : decide (x11_7 < (t196.size : Int)) = true := decide_eq_true c53
                                                clear c53
                                                by_cases c54 : 0 ≤ x11_7
                                                · rw [if_pos c54] at H
                                                  have c54b0 : decide (0 ≤ x11_7) = true := decide_eq_true c54
                                                  clear c54
                                                  by_cases c57 : (bt t199 x11_7) = (bt t196 x11_7)
                                                  · rw [if_pos c57] at H
                                                    have c57b0 : ((bt t199 x11_7) == (bt t196 x11_7)) = true := beq_iff_eq.mpr c57
                                                    have c57b1 : ((bt t199 x11_7) != (bt t196 x11_7)) = false := bne_eq_false_iff_eq.mpr c57
                                                    clear c57
                                                    by_cases c58 : x11_7 ≥ (t196.size : Int)
                                                    · rw [if_pos c58] at H
                                                      have c58b0 : decide ((t196.size : Int) ≤ x11_7) = true := decide_eq_true c58
                                                      clear c58
                                                      by_cases c60 : (bt t199 x11_7) = 0
                                                      · rw [if_pos c60] at H
                                                        have c60b0 : ((bt t199 x11_7) == 0) = true := beq_iff_eq.mpr c60
                                                        have c60b1 : ((bt t199 x11_7) != 0) = false := bne_eq_false_iff_eq.mpr c60
                                                        clear c60
                                                        by_cases c61 : x11_7 ≥ (wrap64 (t197 + (t198.size : Int)))
                                                        · rw [if_pos c61] at H
                                                          have c61b0 : decide ((wrap64 (t197 + (t198.size : Int))) ≤ x11_7) = true := decide_eq_true c61
                                                          clear c61
                                                          have H' := Aside0.mk H
                                                          clear H
                                                          have p55 : 0 ≤ (x11_7 : Int) := of_decide_eq_true (by first | (with_reducible assumption) | assumption)
                                                          have q55 : x11_7 < (t199.size : Int) := of_decide_eq_true (by first | (with_reducible assumption) | assumption)
                                                          have hx55 := bt_at t199 x11_7
                                                          replace p55 := eq_true p55
                                                          replace q55 := eq_true q55
                                                          have p56 : 0 ≤ (x11_7 : Int) := of_decide_eq_true (by first | (with_reducible assumption) | assumption)
                                                          have q56 : x11_7 < (t196.size : Int) := of_decide_eq_true (by first | (with_reducible assumption) | assumption)
                                                          have hx56 := bt_at t196 x11_7
                                                          replace p56 := eq_true p56
                                                          replace q56 := eq_true q56
                                                          have p59 : 0 ≤ (x11_7 : Int) := of_decide_eq_true (by first | (with_reducible assumption) | assumption)
                                                          have q59 : x11_7 < (t199.size : Int) := of_decide_eq_true (by first | (with_reducible assumption) | assumption)
                                                          have hx59 := bt_at t199 x11_7
                                                          replace p59 := eq_true p59
                                                          replace q59 := eq_true q59
                                                          have p62 : 0 ≤ (x11_7 : Int) := of_decide_eq_true (by first | (with_reducible assumption) | assumption)
                                                          have q62 : x11_7 < (t199.size : Int) := of_decide_eq_true (by first | (with_reducible assumption) | assumption)
                                                          have hx62 := bt_at t199 x11_7
                                                          replace p62 := eq_true p62
                                                          replace q62 := eq_true q62
                                                          have p63 : 0 ≤ (x11_7 : Int) := of_decide_eq_true (by first | (with_reducible assumption) | assumption)
                                                          have q63 : x11_7 < (t196.size : Int) := of_decide_eq_true (by first | (with_reducible assumption) | assumption)
                                                          have hx63 := bt_at t196 x11_7
                                                          replace p63 := eq_true p63
                                                          replace q63 := eq_true q63
                                                          go_wp2
                                                          repeat (go_quiet (fail); try go_wp2)
                                                          go_roundg k7
                                                          case measure => have := HJ5.out; have := HJ17.out; have := HK3.out; have := HJ23.out; have := HJ40.out; have := HJ44.out; have := HK7.out; omega
                                                          case rel => exact ⟨(wrap64 (x11_7 + 1)), (by first | rfl | (simp; done) | (simp [*]; done)), H', ⟨by have := HJ5.out; have := HJ17.out; have := HK3.out; have := HJ23.out; have := HJ40.out; have := HJ44.out; have := HK7.out; omega⟩, ⟨by repeat (first | (with_reducible first | exact HB.out | apply below_alloc | apply pw_below_drewN | apply below_drew1) | exact HB.out)⟩⟩
                                                        · rw [if_neg c61] at H
                                                          have c61b0 : decide ((wrap64 (t197 + (t198.size : Int))) ≤ x11_7) = false := decide_eq_false c61
                                                          clear c61
                                                          have H' := Aside0.mk H
                                                          clear H
                                                          have p55 : 0 ≤ (x11_7 : Int) := of_decide_eq_true (by first | (with_reducible assumption) | assumption)
                                                          have q55 : x11_7 < (t199.size : Int) := of_decide_eq_true (by first | (with_reducible assumption) | assumption)
                                                          have hx55 := bt_at t199 x11_7
                                                          replace p55 := eq_true p55
                                                          replace q55 := eq_true q55
                                                          have p56 : 0 ≤ (x11_7 : Int) := of_decide_eq_true (by first | (with_reducible assumption) | assumption)
                                                          have q56 : x11_7 < (t196.size : Int) := of_decide_eq_true (by first | (with_reducible assumption) | assumption)
                                                          have hx56 := bt_at t196 x11_7
                                                          replace p56 := eq_true p56
                                                          replace q56 := eq_true q56
                                                          have p59 : 0 ≤ (x11_7 : Int) := of_decide_eq_true (by first | (with_reducible assumption) | assumption)
                                                          have q59 : x11_7 < (t199.size : Int) := of_decide_eq_true (by first | (with_reducible assumption) | assumption)
                                                          have hx59 := bt_at t199 x11_7
                                                          replace p59 := eq_true p59
                                                          replace q59 := eq_true q59
                                                          go_wp2
                                                          repeat (go_quiet (fail); try go_wp2)
                                                          go_roundg k7
                                                          case measure => have := HJ5.out; have := HJ17.out; have := HK3.out; have := HJ23.out; have := HJ40.out; have := HJ44.out; have := HK7.out; omega
                                                          case rel => exact ⟨(wrap64 (x11_7 + 1)), (by first | rfl | (simp; done) | (simp [*]; done)), H', ⟨by have := HJ5.out; have := HJ17.out; have := HK3.out; have := HJ23.out; have := HJ40.out; have := HJ44.out; have := HK7.out; omega⟩, ⟨by repeat (first | (with_reducible first | exact HB.out | apply below_alloc | apply pw_below_drewN | apply below_drew1) | exact HB.out)⟩⟩
                                                      · rw [if_neg c60] at H
                                                        have c60b0 : ((bt t199 x11_7) == 0) = false := beq_eq_false_iff_ne.mpr c60
                                                        have c60b1 : ((bt t199 x11_7) != 0) = true := bne_iff_ne.mpr c60
                                                        obtain rfl := Option.some.inj H
                                                        have p55 : 0 ≤ (x11_7 : Int) := of_decide_eq_true (by first | (with_reducible assumption) | assumption)
                                                        have q55 : x11_7 < (t199.size : Int) := of_decide_eq_true (by first | (with_reducible assumption) | assumption)
                                                        have hx55 := bt_at t199 x11_7
                                                        replace p55 := eq_true p55
                                                        replace q55 := eq_true q55
                                                        have p56 : 0 ≤ (x11_7 : Int) := of_decide_eq_true (by first | (with_reducible assumption) | assumption)
                                                        have q56 : x11_7 < (t196.size : Int) := of_decide_eq_true (by first | (with_reducible assumption) | assumption)
                                                        have hx56 := bt_at t196 x11_7
                                                        replace p56 := eq_true p56
                                                        replace q56 := eq_true q56
                                                        have p59 : 0 ≤ (x11_7 : Int) := of_decide_eq_true (by first | (with_reducible assumption) | assumption)
                                                        have q59 : x11_7 < (t199.size : Int) := of_decide_eq_true (by first | (with_reducible assumption) | assumption)
                                                        have hx59 := bt_at t199 x11_7
                                                        replace p59 := eq_true p59
                                                        replace q59 := eq_true q59
                                                        go_wp2
                                                        repeat (go_quiet (fail); try go_wp2)
                                                        go_ret
                                                        exact ⟨by first | rfl | (simp [errW_none, errW_some] <;> rfl) | (simp [*, errW_none, errW_some] <;> rfl), by repeat (first | (with_reducible first | exact HB.out | apply below_alloc | apply pw_below_drewN | apply below_drew1) | exact HB.out)⟩
                                                    · rw [if_neg c58] at H
                                                      have c58b0 : decide ((t196.size : Int) ≤ x11_7) = false := decide_eq_false c58
                                                      clear c58
                                                      by_cases c64 : x11_7 ≥ (wrap64 (t197 + (t198.size : Int)))
                                                      · rw [if_pos c64] at H
                                                        have c64b0 : decide ((wrap64 (t197 + (t198.size : Int))) ≤ x11_7) = true := decide_eq_true c64
                                                        clear c64
                                                        have H' := Aside0.mk H
                                                        clear H
                                                        have p55 : 0 ≤ (x11_7 : Int) := of_decide_eq_true (by first | (with_reducible assumption) | assumption)
                                                        have q55 : x11_7 < (t199.size : Int) := of_decide_eq_true (by first | (with_reducible assumption) | assumption)
                                                        have hx55 := bt_at t199 x11_7
                                                        replace p55 := eq_true p55
                                                        replace q55 := eq_true q55
                                                        have p56 : 0 ≤ (x11_7 : Int) := of_decide_eq_true (by first | (with_reducible assumption) | assumption)
                                                        have q56 : x11_7 < (t196.size : Int) := of_decide_eq_true (by first | (with_reducible assumption) | assumption)
                                                        have hx56 := bt_at t196 x11_7
                                                        replace p56 := eq_true p56
                                                        replace q56 := eq_true q56
                                                        have p65 : 0 ≤ (x11_7 : Int) := of_decide_eq_true (by first | (with_reducible assumption) | assumption)
                                                        have q65 : x11_7 < (t199.size : Int) := of_decide_eq_true (by first | (with_reducible assumption) | assumption)
                                                        have hx65 := bt_at t199 x11_7
                                                        replace p65 := eq_true p65
                                                        replace q65 := eq_true q65
                                                        have p66 : 0 ≤ (x11_7 : Int) := of_decide_eq_true (by first | (with_reducible assumption) | assumption)
                                                        have q66 : x11_7 < (t196.size : Int) := of_decide_eq_true (by first | (with_reducible assumption) | assumption)
                                                        have hx66 := bt_at t196 x11_7
                                                        replace p66 := eq_true p66
                                                        replace q66 := eq_true q66
                                                        go_wp2
                                                        repeat (go_quiet (fail); try go_wp2)
                                                        go_roundg k7
                                                        case measure => have := HJ5.out; have := HJ17.out; have := HK3.out; have := HJ23.out; have := HJ40.out; have := HJ44.out; have := HK7.out; omega
                                                        case rel => exact ⟨(wrap64 (x11_7 + 1)), (by first | rfl | (simp; done) | (simp [*]; done)), H', ⟨by have := HJ5.out; have := HJ17.out; have := HK3.out; have := HJ23.out; have := HJ40.out; have := HJ44.out; have := HK7.out; omega⟩, ⟨by repeat (first | (with_reducible first | exact HB.out | apply below_alloc | apply pw_below_drewN | apply below_drew1) | exact HB.out)⟩⟩
                                                      · rw [if_neg c64] at H
                                                        have c64b0 : decide ((wrap64 (t197 + (t198.size : Int))) ≤ x11_7) = false := decide_eq_false c64
                                                        clear c64
                                                        have H' := Aside0.mk H
                                                        clear H
                                                        have p55 : 0 ≤ (x11_7 : Int) := of_decide_eq_true (by first | (with_reducible assumption) | assumption)
                                                        have q55 : x11_7 < (t199.size : Int) := of_decide_eq_true (by first | (with_reducible assumption) | assumption)
                                                        have hx55 := bt_at t199 x11_7
                                                        replace p55 := eq_true p55
                                                        replace q55 := eq_true q55
                                                        have p56 : 0 ≤ (x11_7 : Int) := of_decide_eq_true (by first | (with_reducible assumption) | assumption)
                                                        have q56 : x11_7 < (t196.size : Int) := of_decide_eq_true (by first | (with_reducible assumption) | assumption)
                                                        have hx56 := bt_at t196 x11_7
                                                        replace p56 := eq_true p56
                                                        replace q56 := eq_true q56
                                                        go_wp2
                                                        repeat (go_quiet (fail); try go_wp2)
                                                        go_roundg k7
                                                        case measure => have := HJ5.out; have := HJ17.out; have := HK3.out; have := HJ23.out; have := HJ40.out; have := HJ44.out; have := HK7.out; omega
                                                        case rel => exact ⟨(wrap64 (x11_7 + 1)), (by first | rfl | (simp; done) | (simp [*]; done)), H', ⟨by have := HJ5.out; have := HJ17.out; have := HK3.out; have := HJ23.out; have := HJ40.out; have := HJ44.out; have := HK7.out; omega⟩, ⟨by repeat (first | (with_reducible first | exact HB.out | apply below_alloc | apply pw_below_drewN | apply below_drew1) | exact HB.out)⟩⟩
                                                  · rw [if_neg c57] at H
                                                    have c57b0 : ((bt t199 x11_7) == (bt t196 x11_7)) = false := beq_eq_false_iff_ne.mpr c57
                                                    have c57b1 : ((bt t199 x11_7) != (bt t196 x11_7)) = true := bne_iff_ne.mpr c57
                                                    obtain rfl := Option.some.inj H
                                                    have p55 : 0 ≤ (x11_7 : Int) := of_decide_eq_true (by first | (with_reducible assumption) | assumption)
                                                    have q55 : x11_7 < (t199.size : Int) := of_decide_eq_true (by first | (with_reducible assumption) | assumption)
                                                    have hx55 := bt_at t199 x11_7
                                                    replace p55 := eq_true p55
                                                    replace q55 := eq_true q55
                                                    have p56 : 0 ≤ (x11_7 : Int) := of_decide_eq_true (by first | (with_reducible assumption) | assumption)
                                                    have q56 : x11_7 < (t196.size : Int) := of_decide_eq_true (by first | (with_reducible assumption) | assumption)
                                                    have hx56 := bt_at t196 x11_7
                                                    replace p56 := eq_true p56
                                                    replace q56 := eq_true q56
                                                    go_wp2
                                                    repeat (go_quiet (fail); try go_wp2)
                                                    go_ret
                                                    exact ⟨by first | rfl | (simp [errW_none, errW_some] <;> rfl) | (simp [*, errW_none, errW_some] <;> rfl), by repeat (first | (with_reducible first | exact HB.out | apply below_alloc | apply pw_below_drewN | apply below_drew1) | exact HB.out)⟩
                                                · rw [if_neg c54] at H
                                                  exact absurd H (by simp)
                                              · rw [if_neg c53] at H
                                                have c53b0 : decide (x11_7 < (t196.size : Int)) = false := decide_eq_false c53
                                                clear c53
                                                by_cases c67 : x11_7 ≥ (t196.size : Int)
                                                · rw [if_pos c67] at H
                                                  have c67b0 : decide ((t196.size : Int) ≤ x11_7) = true := decide_eq_true c67
                                                  clear c67
                                                  by_cases c68 : 0 ≤ x11_7
                                                  · rw [if_pos c68] at H
                                                    have c68b0 : decide (0 ≤ x11_7) = true := decide_eq_true c68
                                                    clear c68
                                                    by_cases c70 : (bt t199 x11_7) = 0
                                                    · rw [if_pos c70] at H
                                                      have c70b0 : ((bt t199 x11_7) == 0) = true := beq_iff_eq.mpr c70
                                                      have c70b1 : ((bt t199 x11_7) != 0) = false := bne_eq_false_iff_eq.mpr c70
                                                      clear c70
                                                      by_cases c71 : x11_7 ≥ (wrap64 (t197 + (t198.size : Int)))
                                                      · rw [if_pos c71] at H
                                                        have c71b0 : decide ((wrap64 (t197 + (t198.size : Int))) ≤ x11_7) = true := decide_eq_true c71
                                                        clear c71
                                                        exact absurd H (by simp)
                                                      · rw [if_neg c71] at H
                                                        have c71b0 : decide ((wrap64 (t197 + (t198.size : Int))) ≤ x11_7) = false := decide_eq_false c71
                                                        clear c71
                                                        have H' := Aside0.mk H
                                                        clear H
                                                        have p69 : 0 ≤ (x11_7 : Int) := of_decide_eq_true (by first | (with_reducible assumption) | assumption)
                                                        have q69 : x11_7 < (t199.size : Int) := of_decide_eq_true (by first | (with_reducible assumption) | assumption)
                                                        have hx69 := bt_at t199 x11_7
                                                        replace p69 := eq_true p69
                                                        replace q69 := eq_true q69
                                                        go_wp2
                                                        repeat (go_quiet (fail); try go_wp2)
                                                        go_roundg k7
                                                        case measure => have := HJ5.out; have := HJ17.out; have := HK3.out; have := HJ23.out; have := HJ40.out; have := HJ44.out; have := HK7.out; omega
                                                        case rel => exact ⟨(wrap64 (x11_7 + 1)), (by first | rfl | (simp; done) | (simp [*]; done)), H', ⟨by have := HJ5.out; have := HJ17.out; have := HK3.out; have := HJ23.out; have := HJ40.out; have := HJ44.out; have := HK7.out; omega⟩, ⟨by repeat (first | (with_reducible first | exact HB.out | apply below_alloc | apply pw_below_drewN | apply below_drew1) | exact HB.out)⟩⟩
                                                    · rw [if_neg c70] at H
                                                      have c70b0 : ((bt t199 x11_7) == 0) = false := beq_eq_false_iff_ne.mpr c70
                                                      have c70b1 : ((bt t199 x11_7) != 0) = true := bne_iff_ne.mpr c70
                                                      obtain rfl := Option.some.inj H
                                                      have p69 : 0 ≤ (x11_7 : Int) := of_decide_eq_true (by first | (with_reducible assumption) | assumption)
                                                      have q69 : x11_7 < (t199.size : Int) := of_decide_eq_true (by first | (with_reducible assumption) | assumption)
                                                      have hx69 := bt_at t199 x11_7
                                                      replace p69 := eq_true p69
                                                      replace q69 := eq_true q69
                                                      go_wp2
                                                      repeat (go_quiet (fail); try go_wp2)
                                                      go_ret
                                                      exact ⟨by first | rfl | (simp [errW_none, errW_some] <;> rfl) | (simp [*, errW_none, errW_some] <;> rfl), by repeat (first | (with_reducible first | exact HB.out | apply below_alloc | apply pw_below_drewN | apply below_drew1) | exact HB.out)⟩
                                                  · rw [if_neg c68] at H
                                                    exact absurd H (by simp)
                                                · rw [if_neg c67] at H
                                                  have c67b0 : decide ((t196.size : Int) ≤ x11_7) = false := decide_eq_false c67
                                                  clear c67
                                                  by_cases c73 : x11_7 ≥ (wrap64 (t197 + (t198.size : Int)))
                                                  · rw [if_pos c73] at H
                                                    have c73b0 : decide ((wrap64 (t197 + (t198.size : Int))) ≤ x11_7) = true := decide_eq_true c73
                                                    clear c73
                                                    by_cases c74 : 0 ≤ x11_7
                                                    · rw [if_pos c74] at H
                                                      have c74b0 : decide (0 ≤ x11_7) = true := decide_eq_true c74
                                                      clear c74
                                                      exact absurd H (by simp)
                                                    · rw [if_neg c74] at H
                                                      exact absurd H (by simp)
                                                  · rw [if_neg c73] at H
                                                    have c73b0 : decide ((wrap64 (t197 + (t198.size : Int))) ≤ x11_7) = false := decide_eq_false c73
                                                    clear c73
                                                    have H' := Aside0.mk H
                                                    clear H
                                                    go_wp2
                                                    repeat (go_quiet (fail); try go_wp2)
                                                    go_roundg k7
                                                    case measure => have := HJ5.out; have := HJ17.out; have := HK3.out; have := HJ23.out; have := HJ40.out; have := HJ44.out; have := HK7.out; omega
                                                    case rel => exact ⟨(wrap64 (x11_7 + 1)), (by first | rfl | (simp; done) | (simp [*]; done)), H', ⟨by have := HJ5.out; have := HJ17.out; have := HK3.out; have := HJ23.out; have := HJ40.out; have := HJ44.out; have := HK7.out; omega⟩, ⟨by repeat (first | (with_reducible first | exact HB.out | apply below_alloc | apply pw_below_drewN | apply below_drew1) | exact HB.out)⟩⟩
                                            · rw [if_neg c52] at H
                                              have c52b0 : decide (x11_7 < t197) = false := decide_eq_false c52
                                              clear c52
                                              by_cases c76 : x11_7 ≥ (wrap64 (t197 + (t198.size : Int)))
                                              · rw [if_pos c76] at H
                                                have c76b0 : decide ((wrap64 (t197 + (t198.size : Int))) ≤ x11_7) = true := decide_eq_true c76
                                                clear c76
                                                by_cases c77 : 0 ≤ x11_7
                                                · rw [if_pos c77] at H
                                                  have c77b0 : decide (0 ≤ x11_7) = true := decide_eq_true c77
                                                  clear c77
                                                  by_cases c79 : x11_7 < (t196.size : Int)
                                                  · rw [if_pos c79] at H
                                                    have c79b0 : decide (x11_7 < (t196.size : Int)) = true := decide_eq_true c79
                                                    clear c79
                                                    by_cases c81 : (bt t199 x11_7) = (bt t196 x11_7)
                                                    · rw [if_pos c81] at H
                                                      have c81b0 : ((bt t199 x11_7) == (bt t196 x11_7)) = true := beq_iff_eq.mpr c81
                                                      have c81b1 : ((bt t199 x11_7) != (bt t196 x11_7)) = false := bne_eq_false_iff_eq.mpr c81
                                                      clear c81
                                                      have H' := Aside0.mk H
                                                      clear H
                                                      have p78 : 0 ≤ (x11_7 : Int) := of_decide_eq_true (by first | (with_reducible assumption) | assumption)
                                                      have q78 : x11_7 < (t199.size : Int) := of_decide_eq_true (by first | (with_reducible assumption) | assumption)
                                                      have hx78 := bt_at t199 x11_7
                                                      replace p78 := eq_true p78
                                                      replace q78 := eq_true q78
                                                      have p80 : 0 ≤ (x11_7 : Int) := of_decide_eq_true (by first | (with_reducible assumption) | assumption)
                                                      have q80 : x11_7 < (t196.size : Int) := of_decide_eq_true (by first | (with_reducible assumption) | assumption)
                                                      have hx80 := bt_at t196 x11_7
                                                      replace p80 := eq_true p80
                                                      replace q80 := eq_true q80
                                                      go_wp2
                                                      repeat (go_quiet (fail); try go_wp2)
                                                      go_roundg k7
                                                      case measure => have := HJ5.out; have := HJ17.out; have := HK3.out; have := HJ23.out; have := HJ40.out; have := HJ44.out; have := HK7.out; omega
                                                      case rel => exact ⟨(wrap64 (x11_7 + 1)), (by first | rfl | (simp; done) | (simp [*]; done)), H', ⟨by have := HJ5.out; have := HJ17.out; have := HK3.out; have := HJ23.out; have := HJ40.out; have := HJ44.out; have := HK7.out; omega⟩, ⟨by repeat (first | (with_reducible first | exact HB.out | apply below_alloc | apply pw_below_drewN | apply below_drew1) | exact HB.out)⟩⟩
                                                    · rw [if_neg c81] at H
                                                      have c81b0 : ((bt t199 x11_7) == (bt t196 x11_7)) = false := beq_eq_false_iff_ne.mpr c81
                                                      have c81b1 : ((bt t199 x11_7) != (bt t196 x11_7)) = true := bne_iff_ne.mpr c81
                                                      obtain rfl := Option.some.inj H
                                                      have p78 : 0 ≤ (x11_7 : Int) := of_decide_eq_true (by first | (with_reducible assumption) | assumption)
                                                      have q78 : x11_7 < (t199.size : Int) := of_decide_eq_true (by first | (with_reducible assumption) | assumption)
                                                      have hx78 := bt_at t199 x11_7
                                                      replace p78 := eq_true p78
                                                      replace q78 := eq_true q78
                                                      have p80 : 0 ≤ (x11_7 : Int) := of_decide_eq_true (by first | (with_reducible assumption) | assumption)
                                                      have q80 : x11_7 < (t196.size : Int) := of_decide_eq_true (by first | (with_reducible assumption) | assumption)
                                                      have hx80 := bt_at t196 x11_7
                                                      replace p80 := eq_true p80
                                                      replace q80 := eq_true q80
                                                      go_wp2
                                                      repeat (go_quiet (fail); try go_wp2)
                                                      go_ret
                                                      exact ⟨by first | rfl | (simp [errW_none, errW_some] <;> rfl) | (simp [*, errW_none, errW_some] <;> rfl), by repeat (first | (with_reducible first | exact HB.out | apply below_alloc | apply pw_below_drewN | apply below_drew1) | exact HB.out)⟩
                                                  · rw [if_neg c79] at H
                                                    exact absurd H (by simp)
                                                · rw [if_neg c77] at H
                                                  exact absurd H (by simp)
                                              · rw [if_neg c76] at H
                                                have c76b0 : decide ((wrap64 (t197 + (t198.size : Int))) ≤ x11_7) = false := decide_eq_false c76
                                                clear c76
                                                have H' := Aside0.mk H
                                                clear H
                                                go_wp2
                                                repeat (go_quiet (fail); try go_wp2)
                                                go_roundg k7
                                                case measure => have := HJ5.out; have := HJ17.out; have := HK3.out; have := HJ23.out; have := HJ40.out; have := HJ44.out; have := HK7.out; omega
                                                case rel => exact ⟨(wrap64 (x11_7 + 1)), (by first | rfl | (simp; done) | (simp [*]; done)), H', ⟨by have := HJ5.out; have := HJ17.out; have := HK3.out; have := HJ23.out; have := HJ40.out; have := HJ44.out; have := HK7.out; omega⟩, ⟨by repeat (first | (with_reducible first | exact HB.out | apply below_alloc | apply pw_below_drewN | apply below_drew1) | exact HB.out)⟩⟩
                                          · rw [if_neg c51] at H
                                            have c51b0 : decide (x11_7 < (t199.size : Int)) = false := decide_eq_false c51
                                            clear c51
                                            obtain rfl := Option.some.inj H
                                            go_wp2
                                            repeat (go_quiet (fail); try go_wp2)
                                            go_ret
                                            exact ⟨by first | rfl | (simp [errW_none, errW_some] <;> rfl) | (simp [*, errW_none, errW_some] <;> rfl), by repeat (first | (with_reducible first | exact HB.out | apply below_alloc | apply pw_below_drewN | apply below_drew1) | exact HB.out)⟩

/-- THE ONE PURE STATEMENT of laws_FnWritten: yours. -/
def laws_FnWritten.Pure : Prop := ∀ (l0 : List Int), l0.length ≤ maxLen → l0.length * 1 ≤ 140737488351232 → (∀ x ∈ l0, (Lit.int .u8 x).wf = true) → ∃ k, laws_FnWritten.f k l0 = some true
theorem laws_FnWritten.walk (P : laws_FnWritten.Pure) (a0 : Option Addr) (len0 cap0 : Nat) (z0 : List Int) (w : World) (w0 : (a0 = none ∧ len0 = 0 ∧ cap0 = 0 ∧ z0 = []) ∨ ∃ x, a0 = some x ∧ len0 ≤ cap0 ∧ cap0 ≤ maxLen ∧ z0.length = cap0 ∧ (∀ i, i < z0.length → w.cell? (x.add i) = some (.int .u8 (z0.getD i 0))) ∧ ∀ n ∈ z0, (Lit.int .u8 n).wf = true) (y0 : len0 * 1 ≤ 140737488351232) :
    Calls Try.prog 3 #[.slice a0 len0 cap0] w fun e w' => e = .returned (.bool true) ∧ Below w.heap.size w w' := by
  obtain ⟨l0, rfl, hr0, hm0, hw0, hc0⟩ := ReadsInt.ofRowC w0
  obtain ⟨k, h⟩ := P l0 hm0 y0 hw0
  refine (laws_FnWritten.calls k _ _ l0 true w (Kd.C_of_reads (d := (0 : Int)) (h1 := fun _ => rfl) hr0) hc0 h).mono ?_
  rintro e w' ⟨rfl, hd⟩
  exact ⟨rfl, hd⟩

end Go.Proofs.Ytfgammfdaiicpaa.PFnWritten
