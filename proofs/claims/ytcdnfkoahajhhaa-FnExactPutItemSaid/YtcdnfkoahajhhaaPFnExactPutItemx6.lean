/- Contracts of Go functions, written by a program of ours over the print of the kit: each says that the call returns what the Lean function beside it computes. Conditions: as each theorem states them. -/
import Derived.Test.YtcdnfkoahajhhaaPkFnExactPutItem
import Derived.Test.YtcdnfkoahajhhaaPFnExactPutItemx0
import Derived.Test.YtcdnfkoahajhhaaPFnExactPutItemx1
import Derived.Test.YtcdnfkoahajhhaaPFnExactPutItemx2
import Derived.Test.YtcdnfkoahajhhaaPFnExactPutItemx3
import Derived.Test.YtcdnfkoahajhhaaPFnExactPutItemx4
import Derived.Test.YtcdnfkoahajhhaaPFnExactPutItemx5
namespace Go.Proofs.Ytcdnfkoahajhhaa.PFnExactPutItem
open Go.RowKit Go.Proofs.YtcdnfkoahajhhaaW.PrintWords Go.Proofs.YtcdnfkoahajhhaaW.PrintLast Go.Proofs.YtcdnfkoahajhhaaW.PrintMore
attribute [local go_sem] max2_int min2_int max_two min_two max_three min_three max_four min_four   -- for this text's walks alone
set_option linter.unusedVariables false
set_option linter.unusedSimpArgs false

/-! ### laws_FnExactPutItem: function 4 -/
mutual
def laws_FnExactPutItem.j0 : Nat → Int → List (S35) → ByteArray → Bool → ByteArray → Option (Bool)
 | 0, _, _, _, _, _ => none
 | k + 1, x5, x200000, x201000, x201001, x201002 => (laws_szItem.f x201000 x201001 x201002 x5).bind fun t202 => (if t202 < 0 then (some true) else (laws_FnExactPutItem.j1 k x200000 x201000 x201001 x201002))
def laws_FnExactPutItem.j1 : Nat → List (S35) → ByteArray → Bool → ByteArray → Option (Bool)
 | 0, _, _, _, _ => none
 | k + 1, x200000, x201000, x201001, x201002 => (laws_toView.f k x200000).bind fun t203 => ((laws_toItem.f x201000 x201001 x201002).bind fun bt206 => ((spec_PutItem.f k t203 bt206.1 bt206.2.1 bt206.2.2).bind fun t209 => ((laws_toView.f k x200000).bind fun t213 => ((laws_toItem.f x201000 x201001 x201002).bind fun bt217 => ((impl_PutItem.f t213 bt217.1 bt217.2.1 bt217.2.2).bind fun t220 => ((laws_eqView.f k t220 t209).bind fun t224 => (if t224 = true then (laws_FnExactPutItem.j2 k x200000 x201000 x201001 x201002 t209 t213 t220) else (some false))))))))
def laws_FnExactPutItem.j2 : Nat → List (S35) → ByteArray → Bool → ByteArray → List (S38) → List (S38) → List (S38) → Option (Bool)
 | 0, _, _, _, _, _, _, _ => none
 | k + 1, x200000, x201000, x201001, x201002, x213000, x217000, x224000 => (laws_toView.f k x200000).bind fun t225 => ((laws_eqView.f k x217000 t225).bind fun t228 => (if t228 = true then (laws_FnExactPutItem.j3 k x200000 x201000 x201001 x201002 x213000 x217000 x224000) else (some false)))
def laws_FnExactPutItem.j3 : Nat → List (S35) → ByteArray → Bool → ByteArray → List (S38) → List (S38) → List (S38) → Option (Bool)
 | 0, _, _, _, _, _, _, _ => none
 | k + 1, x200000, x201000, x201001, x201002, x213000, x217000, x224000 => (laws_markView.f k x217000 1).bind fun bt229 => (if bt229.1 < 0 then (laws_FnExactPutItem.j4 k true x200000 x201000 x201001 x201002 x213000 x224000) else ((laws_eqView.f k x224000 x213000).bind fun t231 => (laws_FnExactPutItem.j4 k (!t231) x200000 x201000 x201001 x201002 x213000 x224000)))
def laws_FnExactPutItem.j4 : Nat → Bool → List (S35) → ByteArray → Bool → ByteArray → List (S38) → List (S38) → Option (Bool)
 | 0, _, _, _, _, _, _, _ => none
 | k + 1, x53, x200000, x201000, x201001, x201002, x213000, x224000 => if x53 = true then (some false) else (laws_FnExactPutItem.j5 k x200000 x201000 x201001 x201002 x213000 x224000)
def laws_FnExactPutItem.j5 : Nat → List (S35) → ByteArray → Bool → ByteArray → List (S38) → List (S38) → Option (Bool)
 | 0, _, _, _, _, _, _ => none
 | k + 1, x200000, x201000, x201001, x201002, x213000, x224000 => (laws_markView.f k x224000 1).bind fun bt232 => ((laws_heldView.f k bt232.2 1).bind fun t234 => (if t234 < 0 then (some false) else (laws_FnExactPutItem.j6 k bt232.1 t234 x200000 x201000 x201001 x201002 x213000 bt232.2)))
def laws_FnExactPutItem.j6 : Nat → Int → Int → List (S35) → ByteArray → Bool → ByteArray → List (S38) → List (S38) → Option (Bool)
 | 0, _, _, _, _, _, _, _, _ => none
 | k + 1, x10, x11, x200000, x201000, x201001, x201002, x213000, x224000 => if x11 = x10 then (laws_FnExactPutItem.j7 k x10 x200000 x201000 x201001 x201002 x213000 x224000) else (some false)
def laws_FnExactPutItem.j7 : Nat → Int → List (S35) → ByteArray → Bool → ByteArray → List (S38) → List (S38) → Option (Bool)
 | 0, _, _, _, _, _, _, _ => none
 | k + 1, x10, x200000, x201000, x201001, x201002, x213000, x224000 => (laws_toView.f k x200000).bind fun t235 => ((laws_toItem.f x201000 x201001 x201002).bind fun bt238 => ((impl_PutItem.f t235 bt238.1 bt238.2.1 bt238.2.2).bind fun t241 => ((laws_eqView.f k t241 x213000).bind fun t245 => (if t245 = true then (laws_FnExactPutItem.j8 k x10 x224000) else (some false)))))
def laws_FnExactPutItem.j8 : Nat → Int → List (S38) → Option (Bool)
 | 0, _, _ => none
 | k + 1, x10, x224000 => (laws_heldView.f k x224000 1).bind fun t246 => (if t246 < 0 then (some false) else (if t246 = x10 then (some true) else (some false)))
end
def laws_FnExactPutItem.f (k : Nat) (l0_0 : List (S35)) (a1_0 : ByteArray) (a1_1 : Bool) (a1_2 : ByteArray) : Option (Bool) := (laws_szView.f k l0_0 1048576).bind fun t201 => (if t201 < 0 then (some true) else (laws_FnExactPutItem.j0 k t201 l0_0 a1_0 a1_1 a1_2))
theorem laws_FnExactPutItem.mono_l : ∀ k, (∀ y0 y1 y2 y3 y4, LeO (laws_FnExactPutItem.j0 k y0 y1 y2 y3 y4) (laws_FnExactPutItem.j0 (k + 1) y0 y1 y2 y3 y4)) ∧ (∀ y0 y1 y2 y3, LeO (laws_FnExactPutItem.j1 k y0 y1 y2 y3) (laws_FnExactPutItem.j1 (k + 1) y0 y1 y2 y3)) ∧ (∀ y0 y1 y2 y3 y4 y5 y6, LeO (laws_FnExactPutItem.j2 k y0 y1 y2 y3 y4 y5 y6) (laws_FnExactPutItem.j2 (k + 1) y0 y1 y2 y3 y4 y5 y6)) ∧ (∀ y0 y1 y2 y3 y4 y5 y6, LeO (laws_FnExactPutItem.j3 k y0 y1 y2 y3 y4 y5 y6) (laws_FnExactPutItem.j3 (k + 1) y0 y1 y2 y3 y4 y5 y6)) ∧ (∀ y0 y1 y2 y3 y4 y5 y6, LeO (laws_FnExactPutItem.j4 k y0 y1 y2 y3 y4 y5 y6) (laws_FnExactPutItem.j4 (k + 1) y0 y1 y2 y3 y4 y5 y6)) ∧ (∀ y0 y1 y2 y3 y4 y5, LeO (laws_FnExactPutItem.j5 k y0 y1 y2 y3 y4 y5) (laws_FnExactPutItem.j5 (k + 1) y0 y1 y2 y3 y4 y5)) ∧ (∀ y0 y1 y2 y3 y4 y5 y6 y7, LeO (laws_FnExactPutItem.j6 k y0 y1 y2 y3 y4 y5 y6 y7) (laws_FnExactPutItem.j6 (k + 1) y0 y1 y2 y3 y4 y5 y6 y7)) ∧ (∀ y0 y1 y2 y3 y4 y5 y6, LeO (laws_FnExactPutItem.j7 k y0 y1 y2 y3 y4 y5 y6) (laws_FnExactPutItem.j7 (k + 1) y0 y1 y2 y3 y4 y5 y6)) ∧ (∀ y0 y1, LeO (laws_FnExactPutItem.j8 k y0 y1) (laws_FnExactPutItem.j8 (k + 1) y0 y1))
 | 0 => ⟨fun _ _ _ _ _ r h => by simp [laws_FnExactPutItem.j0] at h, fun _ _ _ _ r h => by simp [laws_FnExactPutItem.j1] at h, fun _ _ _ _ _ _ _ r h => by simp [laws_FnExactPutItem.j2] at h, fun _ _ _ _ _ _ _ r h => by simp [laws_FnExactPutItem.j3] at h, fun _ _ _ _ _ _ _ r h => by simp [laws_FnExactPutItem.j4] at h, fun _ _ _ _ _ _ r h => by simp [laws_FnExactPutItem.j5] at h, fun _ _ _ _ _ _ _ _ r h => by simp [laws_FnExactPutItem.j6] at h, fun _ _ _ _ _ _ _ r h => by simp [laws_FnExactPutItem.j7] at h, fun _ _ r h => by simp [laws_FnExactPutItem.j8] at h⟩
 | k + 1 => by
  obtain ⟨ih0, ih1, ih2, ih3, ih4, ih5, ih6, ih7, ih8⟩ := laws_FnExactPutItem.mono_l k
  refine ⟨?_, ?_, ?_, ?_, ?_, ?_, ?_, ?_, ?_⟩
  ·intro y0 y1 y2 y3 y4
   unfold laws_FnExactPutItem.j0
   repeat' first
   | (with_reducible exact ih0 _ _ _ _ _)
   | (with_reducible exact ih1 _ _ _ _)
   | (with_reducible exact ih2 _ _ _ _ _ _ _)
   | (with_reducible exact ih3 _ _ _ _ _ _ _)
   | (with_reducible exact ih4 _ _ _ _ _ _ _)
   | (with_reducible exact ih5 _ _ _ _ _ _)
   | (with_reducible exact ih6 _ _ _ _ _ _ _ _)
   | (with_reducible exact ih7 _ _ _ _ _ _ _)
   | (with_reducible exact ih8 _ _)
   | (with_reducible exact laws_eqView.mono _ _ _)
   | (with_reducible exact laws_heldView.mono _ _ _)
   | (with_reducible exact laws_markView.mono _ _ _)
   | (with_reducible exact laws_szView.mono _ _ _)
   | (with_reducible exact laws_toView.mono _ _)
   | (with_reducible exact spec_PutItem.mono _ _ _ _ _)
   | (with_reducible exact LeO.refl _)
   | (with_reducible exact LeO.none _)
   | (with_reducible refine LeO.ite ?_ ?_)
   | (with_reducible refine LeO.bind ?_ (fun _ => ?_))
   | exact ih0 _ _ _ _ _
   | exact ih1 _ _ _ _
   | exact ih2 _ _ _ _ _ _ _
   | exact ih3 _ _ _ _ _ _ _
   | exact ih4 _ _ _ _ _ _ _
   | exact ih5 _ _ _ _ _ _
   | exact ih6 _ _ _ _ _ _ _ _
   | exact ih7 _ _ _ _ _ _ _
   | exact ih8 _ _
   | exact laws_eqView.mono _ _ _
   | exact laws_heldView.mono _ _ _
   | exact laws_markView.mono _ _ _
   | exact laws_szView.mono _ _ _
   | exact laws_toView.mono _ _
   | exact spec_PutItem.mono _ _ _ _ _
   | exact LeO.none _
   | refine LeO.ite ?_ ?_
   | refine LeO.bind ?_ (fun _ => ?_)
  ·intro y0 y1 y2 y3
   unfold laws_FnExactPutItem.j1
   repeat' first
   | (with_reducible exact ih0 _ _ _ _ _)
   | (with_reducible exact ih1 _ _ _ _)
   | (with_reducible exact ih2 _ _ _ _ _ _ _)
   | (with_reducible exact ih3 _ _ _ _ _ _ _)
   | (with_reducible exact ih4 _ _ _ _ _ _ _)
   | (with_reducible exact ih5 _ _ _ _ _ _)
   | (with_reducible exact ih6 _ _ _ _ _ _ _ _)
   | (with_reducible exact ih7 _ _ _ _ _ _ _)
   | (with_reducible exact ih8 _ _)
   | (with_reducible exact laws_eqView.mono _ _ _)
   | (with_reducible exact laws_heldView.mono _ _ _)
   | (with_reducible exact laws_markView.mono _ _ _)
   | (with_reducible exact laws_szView.mono _ _ _)
   | (with_reducible exact laws_toView.mono _ _)
   | (with_reducible exact spec_PutItem.mono _ _ _ _ _)
   | (with_reducible exact LeO.refl _)
   | (with_reducible exact LeO.none _)
   | (with_reducible refine LeO.ite ?_ ?_)
   | (with_reducible refine LeO.bind ?_ (fun _ => ?_))
   | exact ih0 _ _ _ _ _
   | exact ih1 _ _ _ _
   | exact ih2 _ _ _ _ _ _ _
   | exact ih3 _ _ _ _ _ _ _
   | exact ih4 _ _ _ _ _ _ _
   | exact ih5 _ _ _ _ _ _
   | exact ih6 _ _ _ _ _ _ _ _
   | exact ih7 _ _ _ _ _ _ _
   | exact ih8 _ _
   | exact laws_eqView.mono _ _ _
   | exact laws_heldView.mono _ _ _
   | exact laws_markView.mono _ _ _
   | exact laws_szView.mono _ _ _
   | exact laws_toView.mono _ _
   | exact spec_PutItem.mono _ _ _ _ _
   | exact LeO.none _
   | refine LeO.ite ?_ ?_
   | refine LeO.bind ?_ (fun _ => ?_)
  ·intro y0 y1 y2 y3 y4 y5 y6
   unfold laws_FnExactPutItem.j2
   repeat' first
   | (with_reducible exact ih0 _ _ _ _ _)
   | (with_reducible exact ih1 _ _ _ _)
   | (with_reducible exact ih2 _ _ _ _ _ _ _)
   | (with_reducible exact ih3 _ _ _ _ _ _ _)
   | (with_reducible exact ih4 _ _ _ _ _ _ _)
   | (with_reducible exact ih5 _ _ _ _ _ _)
   | (with_reducible exact ih6 _ _ _ _ _ _ _ _)
   | (with_reducible exact ih7 _ _ _ _ _ _ _)
   | (with_reducible exact ih8 _ _)
   | (with_reducible exact laws_eqView.mono _ _ _)
   | (with_reducible exact laws_heldView.mono _ _ _)
   | (with_reducible exact laws_markView.mono _ _ _)
   | (with_reducible exact laws_szView.mono _ _ _)
   | (with_reducible exact laws_toView.mono _ _)
   | (with_reducible exact spec_PutItem.mono _ _ _ _ _)
   | (with_reducible exact LeO.refl _)
   | (with_reducible exact LeO.none _)
   | (with_reducible refine LeO.ite ?_ ?_)
   | (with_reducible refine LeO.bind ?_ (fun _ => ?_))
   | exact ih0 _ _ _ _ _
   | exact ih1 _ _ _ _
   | exact ih2 _ _ _ _ _ _ _
   | exact ih3 _ _ _ _ _ _ _
   | exact ih4 _ _ _ _ _ _ _
   | exact ih5 _ _ _ _ _ _
   | exact ih6 _ _ _ _ _ _ _ _
   | exact ih7 _ _ _ _ _ _ _
   | exact ih8 _ _
   | exact laws_eqView.mono _ _ _
   | exact laws_heldView.mono _ _ _
   | exact laws_markView.mono _ _ _
   | exact laws_szView.mono _ _ _
   | exact laws_toView.mono _ _
   | exact spec_PutItem.mono _ _ _ _ _
   | exact LeO.none _
   | refine LeO.ite ?_ ?_
   | refine LeO.bind ?_ (fun _ => ?_)
  ·intro y0 y1 y2 y3 y4 y5 y6
   unfold laws_FnExactPutItem.j3
   repeat' first
   | (with_reducible exact ih0 _ _ _ _ _)
   | (with_reducible exact ih1 _ _ _ _)
   | (with_reducible exact ih2 _ _ _ _ _ _ _)
   | (with_reducible exact ih3 _ _ _ _ _ _ _)
   | (with_reducible exact ih4 _ _ _ _ _ _ _)
   | (with_reducible exact ih5 _ _ _ _ _ _)
   | (with_reducible exact ih6 _ _ _ _ _ _ _ _)
   | (with_reducible exact ih7 _ _ _ _ _ _ _)
   | (with_reducible exact ih8 _ _)
   | (with_reducible exact laws_eqView.mono _ _ _)
   | (with_reducible exact laws_heldView.mono _ _ _)
   | (with_reducible exact laws_markView.mono _ _ _)
   | (with_reducible exact laws_szView.mono _ _ _)
   | (with_reducible exact laws_toView.mono _ _)
   | (with_reducible exact spec_PutItem.mono _ _ _ _ _)
   | (with_reducible exact LeO.refl _)
   | (with_reducible exact LeO.none _)
   | (with_reducible refine LeO.ite ?_ ?_)
   | (with_reducible refine LeO.bind ?_ (fun _ => ?_))
   | exact ih0 _ _ _ _ _
   | exact ih1 _ _ _ _
   | exact ih2 _ _ _ _ _ _ _
   | exact ih3 _ _ _ _ _ _ _
   | exact ih4 _ _ _ _ _ _ _
   | exact ih5 _ _ _ _ _ _
   | exact ih6 _ _ _ _ _ _ _ _
   | exact ih7 _ _ _ _ _ _ _
   | exact ih8 _ _
   | exact laws_eqView.mono _ _ _
   | exact laws_heldView.mono _ _ _
   | exact laws_markView.mono _ _ _
   | exact laws_szView.mono _ _ _
   | exact laws_toView.mono _ _
   | exact spec_PutItem.mono _ _ _ _ _
   | exact LeO.none _
   | refine LeO.ite ?_ ?_
   | refine LeO.bind ?_ (fun _ => ?_)
  ·intro y0 y1 y2 y3 y4 y5 y6
   unfold laws_FnExactPutItem.j4
   repeat' first
   | (with_reducible exact ih0 _ _ _ _ _)
   | (with_reducible exact ih1 _ _ _ _)
   | (with_reducible exact ih2 _ _ _ _ _ _ _)
   | (with_reducible exact ih3 _ _ _ _ _ _ _)
   | (with_reducible exact ih4 _ _ _ _ _ _ _)
   | (with_reducible exact ih5 _ _ _ _ _ _)
   | (with_reducible exact ih6 _ _ _ _ _ _ _ _)
   | (with_reducible exact ih7 _ _ _ _ _ _ _)
   | (with_reducible exact ih8 _ _)
   | (with_reducible exact laws_eqView.mono _ _ _)
   | (with_reducible exact laws_heldView.mono _ _ _)
   | (with_reducible exact laws_markView.mono _ _ _)
   | (with_reducible exact laws_szView.mono _ _ _)
   | (with_reducible exact laws_toView.mono _ _)
   | (with_reducible exact spec_PutItem.mono _ _ _ _ _)
   | (with_reducible exact LeO.refl _)
   | (with_reducible exact LeO.none _)
   | (with_reducible refine LeO.ite ?_ ?_)
   | (with_reducible refine LeO.bind ?_ (fun _ => ?_))
   | exact ih0 _ _ _ _ _
   | exact ih1 _ _ _ _
   | exact ih2 _ _ _ _ _ _ _
   | exact ih3 _ _ _ _ _ _ _
   | exact ih4 _ _ _ _ _ _ _
   | exact ih5 _ _ _ _ _ _
   | exact ih6 _ _ _ _ _ _ _ _
   | exact ih7 _ _ _ _ _ _ _
   | exact ih8 _ _
   | exact laws_eqView.mono _ _ _
   | exact laws_heldView.mono _ _ _
   | exact laws_markView.mono _ _ _
   | exact laws_szView.mono _ _ _
   | exact laws_toView.mono _ _
   | exact spec_PutItem.mono _ _ _ _ _
   | exact LeO.none _
   | refine LeO.ite ?_ ?_
   | refine LeO.bind ?_ (fun _ => ?_)
  ·intro y0 y1 y2 y3 y4 y5
   unfold laws_FnExactPutItem.j5
   repeat' first
   | (with_reducible exact ih0 _ _ _ _ _)
   | (with_reducible exact ih1 _ _ _ _)
   | (with_reducible exact ih2 _ _ _ _ _ _ _)
   | (with_reducible exact ih3 _ _ _ _ _ _ _)
   | (with_reducible exact ih4 _ _ _ _ _ _ _)
   | (with_reducible exact ih5 _ _ _ _ _ _)
   | (with_reducible exact ih6 _ _ _ _ _ _ _ _)
   | (with_reducible exact ih7 _ _ _ _ _ _ _)
   | (with_reducible exact ih8 _ _)
   | (with_reducible exact laws_eqView.mono _ _ _)
   | (with_reducible exact laws_heldView.mono _ _ _)
   | (with_reducible exact laws_markView.mono _ _ _)
   | (with_reducible exact laws_szView.mono _ _ _)
   | (with_reducible exact laws_toView.mono _ _)
   | (with_reducible exact spec_PutItem.mono _ _ _ _ _)
   | (with_reducible exact LeO.refl _)
   | (with_reducible exact LeO.none _)
   | (with_reducible refine LeO.ite ?_ ?_)
   | (with_reducible refine LeO.bind ?_ (fun _ => ?_))
   | exact ih0 _ _ _ _ _
   | exact ih1 _ _ _ _
   | exact ih2 _ _ _ _ _ _ _
   | exact ih3 _ _ _ _ _ _ _
   | exact ih4 _ _ _ _ _ _ _
   | exact ih5 _ _ _ _ _ _
   | exact ih6 _ _ _ _ _ _ _ _
   | exact ih7 _ _ _ _ _ _ _
   | exact ih8 _ _
   | exact laws_eqView.mono _ _ _
   | exact laws_heldView.mono _ _ _
   | exact laws_markView.mono _ _ _
   | exact laws_szView.mono _ _ _
   | exact laws_toView.mono _ _
   | exact spec_PutItem.mono _ _ _ _ _
   | exact LeO.none _
   | refine LeO.ite ?_ ?_
   | refine LeO.bind ?_ (fun _ => ?_)
  ·intro y0 y1 y2 y3 y4 y5 y6 y7
   unfold laws_FnExactPutItem.j6
   repeat' first
   | (with_reducible exact ih0 _ _ _ _ _)
   | (with_reducible exact ih1 _ _ _ _)
   | (with_reducible exact ih2 _ _ _ _ _ _ _)
   | (with_reducible exact ih3 _ _ _ _ _ _ _)
   | (with_reducible exact ih4 _ _ _ _ _ _ _)
   | (with_reducible exact ih5 _ _ _ _ _ _)
   | (with_reducible exact ih6 _ _ _ _ _ _ _ _)
   | (with_reducible exact ih7 _ _ _ _ _ _ _)
   | (with_reducible exact ih8 _ _)
   | (with_reducible exact laws_eqView.mono _ _ _)
   | (with_reducible exact laws_heldView.mono _ _ _)
   | (with_reducible exact laws_markView.mono _ _ _)
   | (with_reducible exact laws_szView.mono _ _ _)
   | (with_reducible exact laws_toView.mono _ _)
   | (with_reducible exact spec_PutItem.mono _ _ _ _ _)
   | (with_reducible exact LeO.refl _)
   | (with_reducible exact LeO.none _)
   | (with_reducible refine LeO.ite ?_ ?_)
   | (with_reducible refine LeO.bind ?_ (fun _ => ?_))
   | exact ih0 _ _ _ _ _
   | exact ih1 _ _ _ _
   | exact ih2 _ _ _ _ _ _ _
   | exact ih3 _ _ _ _ _ _ _
   | exact ih4 _ _ _ _ _ _ _
   | exact ih5 _ _ _ _ _ _
   | exact ih6 _ _ _ _ _ _ _ _
   | exact ih7 _ _ _ _ _ _ _
   | exact ih8 _ _
   | exact laws_eqView.mono _ _ _
   | exact laws_heldView.mono _ _ _
   | exact laws_markView.mono _ _ _
   | exact laws_szView.mono _ _ _
   | exact laws_toView.mono _ _
   | exact spec_PutItem.mono _ _ _ _ _
   | exact LeO.none _
   | refine LeO.ite ?_ ?_
   | refine LeO.bind ?_ (fun _ => ?_)
  ·intro y0 y1 y2 y3 y4 y5 y6
   unfold laws_FnExactPutItem.j7
   repeat' first
   | (with_reducible exact ih0 _ _ _ _ _)
   | (with_reducible exact ih1 _ _ _ _)
   | (with_reducible exact ih2 _ _ _ _ _ _ _)
   | (with_reducible exact ih3 _ _ _ _ _ _ _)
   | (with_reducible exact ih4 _ _ _ _ _ _ _)
   | (with_reducible exact ih5 _ _ _ _ _ _)
   | (with_reducible exact ih6 _ _ _ _ _ _ _ _)
   | (with_reducible exact ih7 _ _ _ _ _ _ _)
   | (with_reducible exact ih8 _ _)
   | (with_reducible exact laws_eqView.mono _ _ _)
   | (with_reducible exact laws_heldView.mono _ _ _)
   | (with_reducible exact laws_markView.mono _ _ _)
   | (with_reducible exact laws_szView.mono _ _ _)
   | (with_reducible exact laws_toView.mono _ _)
   | (with_reducible exact spec_PutItem.mono _ _ _ _ _)
   | (with_reducible exact LeO.refl _)
   | (with_reducible exact LeO.none _)
   | (with_reducible refine LeO.ite ?_ ?_)
   | (with_reducible refine LeO.bind ?_ (fun _ => ?_))
   | exact ih0 _ _ _ _ _
   | exact ih1 _ _ _ _
   | exact ih2 _ _ _ _ _ _ _
   | exact ih3 _ _ _ _ _ _ _
   | exact ih4 _ _ _ _ _ _ _
   | exact ih5 _ _ _ _ _ _
   | exact ih6 _ _ _ _ _ _ _ _
   | exact ih7 _ _ _ _ _ _ _
   | exact ih8 _ _
   | exact laws_eqView.mono _ _ _
   | exact laws_heldView.mono _ _ _
   | exact laws_markView.mono _ _ _
   | exact laws_szView.mono _ _ _
   | exact laws_toView.mono _ _
   | exact spec_PutItem.mono _ _ _ _ _
   | exact LeO.none _
   | refine LeO.ite ?_ ?_
   | refine LeO.bind ?_ (fun _ => ?_)
  ·intro y0 y1
   unfold laws_FnExactPutItem.j8
   repeat' first
   | (with_reducible exact ih0 _ _ _ _ _)
   | (with_reducible exact ih1 _ _ _ _)
   | (with_reducible exact ih2 _ _ _ _ _ _ _)
   | (with_reducible exact ih3 _ _ _ _ _ _ _)
   | (with_reducible exact ih4 _ _ _ _ _ _ _)
   | (with_reducible exact ih5 _ _ _ _ _ _)
   | (with_reducible exact ih6 _ _ _ _ _ _ _ _)
   | (with_reducible exact ih7 _ _ _ _ _ _ _)
   | (with_reducible exact ih8 _ _)
   | (with_reducible exact laws_eqView.mono _ _ _)
   | (with_reducible exact laws_heldView.mono _ _ _)
   | (with_reducible exact laws_markView.mono _ _ _)
   | (with_reducible exact laws_szView.mono _ _ _)
   | (with_reducible exact laws_toView.mono _ _)
   | (with_reducible exact spec_PutItem.mono _ _ _ _ _)
   | (with_reducible exact LeO.refl _)
   | (with_reducible exact LeO.none _)
   | (with_reducible refine LeO.ite ?_ ?_)
   | (with_reducible refine LeO.bind ?_ (fun _ => ?_))
   | exact ih0 _ _ _ _ _
   | exact ih1 _ _ _ _
   | exact ih2 _ _ _ _ _ _ _
   | exact ih3 _ _ _ _ _ _ _
   | exact ih4 _ _ _ _ _ _ _
   | exact ih5 _ _ _ _ _ _
   | exact ih6 _ _ _ _ _ _ _ _
   | exact ih7 _ _ _ _ _ _ _
   | exact ih8 _ _
   | exact laws_eqView.mono _ _ _
   | exact laws_heldView.mono _ _ _
   | exact laws_markView.mono _ _ _
   | exact laws_szView.mono _ _ _
   | exact laws_toView.mono _ _
   | exact spec_PutItem.mono _ _ _ _ _
   | exact LeO.none _
   | refine LeO.ite ?_ ?_
   | refine LeO.bind ?_ (fun _ => ?_)
theorem laws_FnExactPutItem.mono : ∀ a0 a1 a2 a3 k, LeO (laws_FnExactPutItem.f k a0 a1 a2 a3) (laws_FnExactPutItem.f (k + 1) a0 a1 a2 a3) := by
 intro a0 a1 a2 a3 k
 obtain ⟨ih0, ih1, ih2, ih3, ih4, ih5, ih6, ih7, ih8⟩ := laws_FnExactPutItem.mono_l k
 unfold laws_FnExactPutItem.f
 repeat' first
   | (with_reducible exact ih0 _ _ _ _ _)
   | (with_reducible exact ih1 _ _ _ _)
   | (with_reducible exact ih2 _ _ _ _ _ _ _)
   | (with_reducible exact ih3 _ _ _ _ _ _ _)
   | (with_reducible exact ih4 _ _ _ _ _ _ _)
   | (with_reducible exact ih5 _ _ _ _ _ _)
   | (with_reducible exact ih6 _ _ _ _ _ _ _ _)
   | (with_reducible exact ih7 _ _ _ _ _ _ _)
   | (with_reducible exact ih8 _ _)
   | (with_reducible exact laws_eqView.mono _ _ _)
   | (with_reducible exact laws_heldView.mono _ _ _)
   | (with_reducible exact laws_markView.mono _ _ _)
   | (with_reducible exact laws_szView.mono _ _ _)
   | (with_reducible exact laws_toView.mono _ _)
   | (with_reducible exact spec_PutItem.mono _ _ _ _ _)
   | (with_reducible exact LeO.refl _)
   | (with_reducible exact LeO.none _)
   | (with_reducible refine LeO.ite ?_ ?_)
   | (with_reducible refine LeO.bind ?_ (fun _ => ?_))
   | exact ih0 _ _ _ _ _
   | exact ih1 _ _ _ _
   | exact ih2 _ _ _ _ _ _ _
   | exact ih3 _ _ _ _ _ _ _
   | exact ih4 _ _ _ _ _ _ _
   | exact ih5 _ _ _ _ _ _
   | exact ih6 _ _ _ _ _ _ _ _
   | exact ih7 _ _ _ _ _ _ _
   | exact ih8 _ _
   | exact laws_eqView.mono _ _ _
   | exact laws_heldView.mono _ _ _
   | exact laws_markView.mono _ _ _
   | exact laws_szView.mono _ _ _
   | exact laws_toView.mono _ _
   | exact spec_PutItem.mono _ _ _ _ _
   | exact LeO.none _
   | refine LeO.ite ?_ ?_
   | refine LeO.bind ?_ (fun _ => ?_)
set_option maxHeartbeats 8000000 in
set_option maxRecDepth 100000 in
theorem laws_FnExactPutItem.calls (k : Nat) (A0_0 : Option Addr) (c0_0 : Nat) (l0_0 : List (S35)) (a1_0 : ByteArray) (a1_1 : Bool) (a1_2 : ByteArray) (r : Bool) (w : World) (hr0_0 : Kd.C k35 w A0_0 l0_0.length l0_0) (hc0_0 : l0_0.length ≤ c0_0) (h : laws_FnExactPutItem.f k l0_0 a1_0 a1_1 a1_2 = some r) :
  Calls Try.prog 4 #[.agg #[.slice A0_0 l0_0.length c0_0], .agg #[.string a1_0, .bool a1_1, .string a1_2]] w fun e w' => e = .returned (.bool r) ∧ Below w.heap.size w w' := by
 have hu24 := Try.underlying24
 have hu35 := Try.underlying35
 have hu28 := Try.underlying28
 have HR0_0 := Aside0.mk hr0_0
 have HC0_0 := Aside0.mk hc0_0
 clear hr0_0 hc0_0
 have HB := Aside0.mk (Below.refl w.heap.size w)
 have H : ((laws_szView.f k l0_0 1048576).bind fun t201 => (if t201 < 0 then (some true) else (laws_FnExactPutItem.j0 k t201 l0_0 a1_0 a1_1 a1_2))) = some r := h
 clear h
 replace H := Option.bind_eq_some_iff.mp H
 obtain ⟨t201, A30, H⟩ := H
 replace H : (if t201 < 0 then (some true) else (laws_FnExactPutItem.j0 k t201 l0_0 a1_0 a1_1 a1_2)) = some r := H
 have A3 := Aside0.mk A30
 clear A30
 have HC4 := Aside0.mk H
 clear H
 go_enter Try.func4, Try.ntmps4
 go_upto_if 17 with (first | ((with_reducible refine gate_dst (N := 2) rfl ?_); refine box_event ?hg (N := 2) ?hd (cs := #[.slice A0_0 l0_0.length c0_0]) (t := 24) ?hr ?_; (case hd => rfl); (case hg => rfl); (case hr => first | (go_simp; done) | (go_simp; rfl)); intro gb199 hg w5 hbox hb; have n0_ := Aside0.mk (below_step tq_0 hb); have n1_ := Aside0.mk (hbox); have n2_ := Aside0.mk (gb_ hg tq_0); have n3_ := Aside0.mk (gb_ hg tq_0); clear HB; have HB := n0_; have BK199 := n1_; have GW199 := n2_; have GE199 := n3_; clear n0_ n1_ n2_ n3_; clear hb hbox hg) | ((with_reducible refine gate_dst (N := 3) rfl ?_); refine box_event ?hg (N := 3) ?hd (cs := #[.string a1_0, .bool a1_1, .string a1_2]) (t := 35) ?hr ?_; (case hd => rfl); (case hg => rfl); (case hr => first | (go_simp; done) | (go_simp; rfl)); intro gb200 hg w6 hbox hb; have n0_ := Aside0.mk (blk_below tq_1 hb); have n1_ := Aside0.mk (below_step tq_66 hb); have n2_ := Aside0.mk (hbox); have n3_ := Aside0.mk (gb_ hg tq_66); have n4_ := Aside0.mk (gb_ hg tq_66); have n5_ := Aside0.mk (ltne_ hg (blk_lt tq_1)); have n6_ := Aside0.mk (gtne_ hg (blk_lt tq_1)); clear BK199 HB; have BK199 := n0_; have HB := n1_; have BK200 := n2_; have GW200 := n3_; have GE200 := n4_; have NB199_200 := n5_; have NB200_199 := n6_; clear n0_ n1_ n2_ n3_ n4_ n5_ n6_; clear hb hbox hg; have hnb7 := NB199_200.out; have hnc7 := NB200_199.out; have hcz8_0 := bc_ BK199.out 0; have hfz8_0 := blk_frozen BK199.out 0) | ((with_reducible refine gate_callee (f := 15) rfl ?_); refine goesL_ (some 15) rfl rfl Try.func15 (by kernel_rfl) rfl #[.agg #[.slice A0_0 l0_0.length c0_0], .int .i64 1048576] rfl tq_4 ?_; (with_reducible refine (laws_szView.calls k _ _ l0_0 1048576 t201 _ ?side1 ?side2 A3.out).mono ?_); (case side1 => exact tq_19); (case side2 => exact HC0_0.out); rintro e w9 ⟨rfl, hb⟩; refine ⟨_, rfl, ?_⟩; have n0_ := Aside0.mk (blk_below tq_1 hb); have n1_ := Aside0.mk (blk_below tq_2 hb); have n2_ := Aside0.mk (below_step tq_10 hb); clear BK199 BK200 HB; have BK199 := n0_; have BK200 := n1_; have HB := n2_; clear n0_ n1_ n2_; (try clear hb); (try clear hb2); (try clear hk); (try clear hi)))
 (try simp only [Act.put, List.setIfInBounds_toArray, List.set_cons_zero, List.set_cons_succ])
 go_cut [] (fun wc => ∃ (kq : Nat), Aside0 (laws_FnExactPutItem.j0 kq t201 l0_0 a1_0 a1_1 a1_2 = some r) ∧ Aside0 (kq ≤ k) ∧ Aside0 (wc.heap[gb199]? = some (.cells #[(.slice A0_0 l0_0.length c0_0)] 24 (0, 0))) ∧ Aside0 (wc.heap[gb200]? = some (.cells #[.string a1_0, .bool a1_1, .string a1_2] 35 (0, 0))) ∧ Aside0 (Below w.heap.size w wc))
 case first =>
  have H := HC4.out
  clear HC4
  by_cases c10 : t201 < 0
  ·rw [if_pos c10] at H
   have c10b0 : decide (t201 < 0) = true := decide_eq_true c10
   clear c10
   (first | rw [c10b0] | (simp only [i64_w, i32_w]; rw [c10b0]) | skip)
   obtain rfl := Option.some.inj H
   go_wp2
   go_ret
   exact ⟨by first | rfl | (simp [errW_none, errW_some] <;> rfl) | (simp [*, errW_none, errW_some] <;> rfl), by repeat (first | (with_reducible first | exact HB.out | apply below_alloc | apply pw_below_drewN | apply below_drew1 | refine below_set ?_ GE199.out | refine below_set ?_ GE200.out) | exact HB.out)⟩
  ·rw [if_neg c10] at H
   have c10b0 : decide (t201 < 0) = false := decide_eq_false c10
   clear c10
   (first | rw [c10b0] | (simp only [i64_w, i32_w]; rw [c10b0]) | skip)
   have H' := Aside0.mk H
   clear H
   go_wp2
   go_meet
   case rel => exact ⟨_, H', ⟨by first | omega | exact Nat.le_refl _⟩, ⟨by (with_reducible repeat (first | refine blk_drewN ?_ _ | refine blk_drew ?_ | refine blk_alloc ?_ _)); exact BK199.out⟩, ⟨by (with_reducible repeat (first | refine blk_drewN ?_ _ | refine blk_drew ?_ | refine blk_alloc ?_ _)); exact BK200.out⟩, ⟨by repeat (first | (with_reducible first | exact HB.out | apply below_alloc | apply pw_below_drewN | apply below_drew1 | refine below_set ?_ GE199.out | refine below_set ?_ GE200.out) | exact HB.out)⟩⟩
 case rest =>
  clear HC4
  try clear c1
  try clear p2
  try clear c4
  try clear c7
  try clear c10
  try clear c10b0
  try clear hcz8_0
  try clear hfz8_0
  obtain ⟨kq, HA, HJ3, BK199, BK200, HB⟩ := hcut
  cases kq with
  | zero => exact absurd HA.out (by simp [laws_FnExactPutItem.j0])
  | succ kj3 =>
   have H := HA.out
   clear HA
   simp only [laws_FnExactPutItem.j0] at H
   replace H := Option.bind_eq_some_iff.mp H
   obtain ⟨t202, A110, H⟩ := H
   replace H : (if t202 < 0 then (some true) else (laws_FnExactPutItem.j1 kj3 l0_0 a1_0 a1_1 a1_2)) = some r := H
   have A11 := Aside0.mk A110
   clear A110
   have HC12 := Aside0.mk H
   clear H
   have hnb13 := NB200_199.out
   have hnc13 := NB199_200.out
   have hcz14_0 := bc_ BK200.out 0
   have hcz14_1 := bc_ BK200.out 1
   have hcz14_2 := bc_ BK200.out 2
   have hfz14_0 := blk_frozen BK200.out 0
   have hfz14_1 := blk_frozen BK200.out 1
   have hfz14_2 := blk_frozen BK200.out 2
   go_upto_if 22 with (first | ((with_reducible refine gate_callee (f := 22) rfl ?_); refine goesL_ (some 20) rfl rfl Try.func22 (by kernel_rfl) rfl #[.agg #[.string a1_0, .bool a1_1, .string a1_2], .int .i64 t201] rfl tq_4 ?_; (with_reducible refine (laws_szItem.calls a1_0 a1_1 a1_2 t201 t202 _ A11.out).mono ?_); rintro e w15 ⟨rfl, hb⟩; refine ⟨_, rfl, ?_⟩; have n0_ := Aside0.mk (blk_below tq_1 hb); have n1_ := Aside0.mk (blk_below tq_2 hb); have n2_ := Aside0.mk (below_step tq_10 hb); clear BK199 BK200 HB; have BK199 := n0_; have BK200 := n1_; have HB := n2_; clear n0_ n1_ n2_; (try clear hb); (try clear hb2); (try clear hk); (try clear hi)))
   (try simp only [Act.put, List.setIfInBounds_toArray, List.set_cons_zero, List.set_cons_succ])
   go_cut [] (fun wc => ∃ (kq : Nat), Aside0 (laws_FnExactPutItem.j1 kq l0_0 a1_0 a1_1 a1_2 = some r) ∧ Aside0 (kq ≤ kj3) ∧ Aside0 (wc.heap[gb199]? = some (.cells #[(.slice A0_0 l0_0.length c0_0)] 24 (0, 0))) ∧ Aside0 (wc.heap[gb200]? = some (.cells #[.string a1_0, .bool a1_1, .string a1_2] 35 (0, 0))) ∧ Aside0 (Below w.heap.size w wc))
   case first =>
    have H := HC12.out
    clear HC12
    by_cases c16 : t202 < 0
    ·rw [if_pos c16] at H
     have c16b0 : decide (t202 < 0) = true := decide_eq_true c16
     clear c16
     (first | rw [c16b0] | (simp only [i64_w, i32_w]; rw [c16b0]) | skip)
     obtain rfl := Option.some.inj H
     go_wp2
     go_ret
     exact ⟨by first | rfl | (simp [errW_none, errW_some] <;> rfl) | (simp [*, errW_none, errW_some] <;> rfl), by repeat (first | (with_reducible first | exact HB.out | apply below_alloc | apply pw_below_drewN | apply below_drew1 | refine below_set ?_ GE199.out | refine below_set ?_ GE200.out) | exact HB.out)⟩
    ·rw [if_neg c16] at H
     have c16b0 : decide (t202 < 0) = false := decide_eq_false c16
     clear c16
     (first | rw [c16b0] | (simp only [i64_w, i32_w]; rw [c16b0]) | skip)
     have H' := Aside0.mk H
     clear H
     go_wp2
     go_meet
     case rel => exact ⟨_, H', ⟨by have := HJ3.out; first | omega | exact Nat.le_refl _⟩, ⟨by (with_reducible repeat (first | refine blk_drewN ?_ _ | refine blk_drew ?_ | refine blk_alloc ?_ _)); exact BK199.out⟩, ⟨by (with_reducible repeat (first | refine blk_drewN ?_ _ | refine blk_drew ?_ | refine blk_alloc ?_ _)); exact BK200.out⟩, ⟨by repeat (first | (with_reducible first | exact HB.out | apply below_alloc | apply pw_below_drewN | apply below_drew1 | refine below_set ?_ GE199.out | refine below_set ?_ GE200.out) | exact HB.out)⟩⟩
   case rest =>
    clear HC12
    try clear c1
    try clear c2
    try clear p2
    try clear c4
    try clear c7
    try clear c10
    try clear c10b0
    try clear c13
    try clear c15
    try clear c16
    try clear c16b0
    try clear hcz14_0
    try clear hcz14_1
    try clear hcz14_2
    try clear hcz8_0
    try clear hfz14_0
    try clear hfz14_1
    try clear hfz14_2
    try clear hfz8_0
    try clear p2
    obtain ⟨kq, HA, HJ11, BK199, BK200, HB⟩ := hcut
    cases kq with
    | zero => exact absurd HA.out (by simp [laws_FnExactPutItem.j1])
    | succ kj11 =>
     have H := HA.out
     clear HA
     simp only [laws_FnExactPutItem.j1] at H
     replace H := Option.bind_eq_some_iff.mp H
     obtain ⟨t203, A170, H⟩ := H
     replace H : ((laws_toItem.f a1_0 a1_1 a1_2).bind fun bt206 => ((spec_PutItem.f kj11 t203 bt206.1 bt206.2.1 bt206.2.2).bind fun t209 => ((laws_toView.f kj11 l0_0).bind fun t213 => ((laws_toItem.f a1_0 a1_1 a1_2).bind fun bt217 => ((impl_PutItem.f t213 bt217.1 bt217.2.1 bt217.2.2).bind fun t220 => ((laws_eqView.f kj11 t220 t209).bind fun t224 => (if t224 = true then (laws_FnExactPutItem.j2 kj11 l0_0 a1_0 a1_1 a1_2 t209 t213 t220) else (some false)))))))) = some r := H
     have A17 := Aside0.mk A170
     clear A170
     replace H := Option.bind_eq_some_iff.mp H
     obtain ⟨⟨t206, t207, t208⟩, A180, H⟩ := H
     replace H : ((spec_PutItem.f kj11 t203 t206 t207 t208).bind fun t209 => ((laws_toView.f kj11 l0_0).bind fun t213 => ((laws_toItem.f a1_0 a1_1 a1_2).bind fun bt217 => ((impl_PutItem.f t213 bt217.1 bt217.2.1 bt217.2.2).bind fun t220 => ((laws_eqView.f kj11 t220 t209).bind fun t224 => (if t224 = true then (laws_FnExactPutItem.j2 kj11 l0_0 a1_0 a1_1 a1_2 t209 t213 t220) else (some false))))))) = some r := H
     have A18 := Aside0.mk A180
     clear A180
     replace H := Option.bind_eq_some_iff.mp H
     obtain ⟨t209, A190, H⟩ := H
     replace H : ((laws_toView.f kj11 l0_0).bind fun t213 => ((laws_toItem.f a1_0 a1_1 a1_2).bind fun bt217 => ((impl_PutItem.f t213 bt217.1 bt217.2.1 bt217.2.2).bind fun t220 => ((laws_eqView.f kj11 t220 t209).bind fun t224 => (if t224 = true then (laws_FnExactPutItem.j2 kj11 l0_0 a1_0 a1_1 a1_2 t209 t213 t220) else (some false)))))) = some r := H
     have A19 := Aside0.mk A190
     clear A190
     replace H := Option.bind_eq_some_iff.mp H
     obtain ⟨t213, A200, H⟩ := H
     replace H : ((laws_toItem.f a1_0 a1_1 a1_2).bind fun bt217 => ((impl_PutItem.f t213 bt217.1 bt217.2.1 bt217.2.2).bind fun t220 => ((laws_eqView.f kj11 t220 t209).bind fun t224 => (if t224 = true then (laws_FnExactPutItem.j2 kj11 l0_0 a1_0 a1_1 a1_2 t209 t213 t220) else (some false))))) = some r := H
     have A20 := Aside0.mk A200
     clear A200
     replace H := Option.bind_eq_some_iff.mp H
     obtain ⟨⟨t217, t218, t219⟩, A210, H⟩ := H
     replace H : ((impl_PutItem.f t213 t217 t218 t219).bind fun t220 => ((laws_eqView.f kj11 t220 t209).bind fun t224 => (if t224 = true then (laws_FnExactPutItem.j2 kj11 l0_0 a1_0 a1_1 a1_2 t209 t213 t220) else (some false)))) = some r := H
     have A21 := Aside0.mk A210
     clear A210
     replace H := Option.bind_eq_some_iff.mp H
     obtain ⟨t220, A220, H⟩ := H
     replace H : ((laws_eqView.f kj11 t220 t209).bind fun t224 => (if t224 = true then (laws_FnExactPutItem.j2 kj11 l0_0 a1_0 a1_1 a1_2 t209 t213 t220) else (some false))) = some r := H
     have A22 := Aside0.mk A220
     clear A220
     replace H := Option.bind_eq_some_iff.mp H
     obtain ⟨t224, A230, H⟩ := H
     replace H : (if t224 = true then (laws_FnExactPutItem.j2 kj11 l0_0 a1_0 a1_1 a1_2 t209 t213 t220) else (some false)) = some r := H
     have A23 := Aside0.mk A230
     clear A230
     have HC24 := Aside0.mk H
     clear H
     try go_wp2
     have n0_ := Aside0.mk (blk_drew BK199.out)
     have n1_ := Aside0.mk (blk_drew BK200.out)
     have n2_ := Aside0.mk (below_drew1 HB.out)
     clear BK199 BK200 HB
     have BK199 := n0_
     have BK200 := n1_
     have HB := n2_
     clear n0_ n1_ n2_
     refine start_ (n := 7) (S := fun w' => w'.cell? ⟨gb199, 0, none⟩ = some (.slice A0_0 l0_0.length c0_0) ∧ w'.cell? ⟨gb200, 0, none⟩ = some (.string a1_0) ∧ w'.cell? ⟨gb200, 1, none⟩ = some (.bool a1_1) ∧ w'.cell? ⟨gb200, 2, none⟩ = some (.string a1_2)) (ds := []) #[false, false, false, false, false, false, false] (by kernel_rfl) rfl rfl ⟨(blk_cell BK199.out 0).trans rfl, (blk_cell BK200.out 0).trans rfl, (blk_cell BK200.out 1).trans rfl, (blk_cell BK200.out 2).trans rfl⟩ (fun hHeld => ?_)
     generalize wc.drew = w25 at BK199 BK200 HB hHeld ⊢
     refine take_ (i := 0) (N := some 23) (v := ?_) (a' := ?_) #[true, false, false, false, false, false, false] rfl rfl (by kernel_rfl) (fun _ _ _ h => h) (Or.inl ⟨by rfl, ?_⟩) hHeld ?_ ?_
     rotate_left
     ·rintro w' ⟨s0, s1, s2, s3⟩
      go_simp
      with_reducible rfl
     rotate_left
     ·simp only [Act.put, List.setIfInBounds_toArray, List.set_cons_zero, List.set_cons_succ, i64_w, i32_w]
      rfl
     refine take_ (i := 2) (N := some 25) (v := ?_) (a' := ?_) #[true, false, true, false, false, false, false] rfl rfl (by kernel_rfl) (fun _ _ _ h => h) (Or.inl ⟨by rfl, ?_⟩) hHeld ?_ ?_
     rotate_left
     ·rintro w' ⟨s0, s1, s2, s3⟩
      go_simp
      with_reducible rfl
     rotate_left
     ·simp only [Act.put, List.setIfInBounds_toArray, List.set_cons_zero, List.set_cons_succ, i64_w, i32_w]
      rfl
     refine join_ (σ := Value × Value × Nat) 1 bq_0 (fun s_ => [(24, .agg #[s_.1]), (26, .agg #[.string t206, .bool t207, .string t208]), (27, .agg #[s_.2.1]), (6, .pointer (some ⟨s_.2.2, 0, none⟩))]) (fun s_ w' => (w'.cell? ⟨gb199, 0, none⟩ = some (.slice A0_0 l0_0.length c0_0) ∧ w'.cell? ⟨gb200, 0, none⟩ = some (.string a1_0) ∧ w'.cell? ⟨gb200, 1, none⟩ = some (.bool a1_1) ∧ w'.cell? ⟨gb200, 2, none⟩ = some (.string a1_2)) ∧ (Kd.R k38 38 w' w.heap.size (fun k_ => some k_ ≠ (s_.2.1 : Value).ownBlock) s_.1 t203) ∧ (Kd.R k38 38 w' w.heap.size (fun k_ => some k_ ≠ (s_.1 : Value).ownBlock) s_.2.1 t209) ∧ (w'.heap[gb199]? = some (.cells #[.slice A0_0 l0_0.length c0_0] 24 (0, 0))) ∧ (w'.heap[gb200]? = some (.cells #[.string a1_0, .bool a1_1, .string a1_2] 35 (0, 0))) ∧ (w'.heap[s_.2.2]? = some (.cells #[.slice none 0 0] 28 (0, 0))) ∧ (w.heap.size ≤ s_.2.2) ∧ (w.heap.size ≤ s_.2.2) ∧ (gb199 ≠ s_.2.2) ∧ (s_.2.2 ≠ gb199) ∧ (gb200 ≠ s_.2.2) ∧ (s_.2.2 ≠ gb200) ∧ (Below w.heap.size w w')) ?_ ?_
     rotate_left
     ·intro hCont
      refine two_ (i := 1) (j := 5) (Ni := some 24) (Nj := some 6) #[true, true, true, false, false, false, false] #[true, false, true, false, false, true, false] rfl rfl rfl rfl (by kernel_rfl) (by decide) (by decide) (fun K hK => ?_) (fun K hK => ?_)
      ·skip
       refine goes_ Try.func17 (by kernel_rfl) rfl #[.agg #[.slice A0_0 l0_0.length c0_0]] (by rfl) rfl rfl tq_4 ?_
       with_reducible refine (laws_toView.calls kj11 _ _ l0_0 t203 _ ?side1 ?side2 A17.out).mono ?_
       (case side1 => exact tq_19)
       (case side2 => exact HC0_0.out)
       rintro e w26 ⟨v204, rfl, ho0, hb⟩
       refine ⟨_, rfl, ?_⟩
       have n0_ := Aside0.mk (Kd.R_lower ho0 (below_size tq_10))
       have n1_ := Aside0.mk (blk_below tq_1 hb)
       have n2_ := Aside0.mk (blk_below tq_2 hb)
       have n3_ := Aside0.mk (below_step tq_10 hb)
       clear BK199 BK200 HB
       have HO205 := n0_
       have BK199 := n1_
       have BK200 := n2_
       have HB := n3_
       clear n0_ n1_ n2_ n3_
       (try clear hb)
       (try clear hb2)
       (try clear hk)
       (try clear hi)
       (try clear ho0)
       refine hK.out _ _ ⟨(blk_cell BK199.out 0).trans rfl, (blk_cell BK200.out 0).trans rfl, (blk_cell BK200.out 1).trans rfl, (blk_cell BK200.out 2).trans rfl⟩ (fun hHeld => ?_)
       clear hK K
       refine norm_ (a' := ?_) ?_ ?_
       rotate_left
       ·show Act.put _ (some 24) _ = _
        simp only [Act.put, List.setIfInBounds_toArray, List.set_cons_zero, List.set_cons_succ, i64_w, i32_w]
        rfl
       refine two_ (i := 3) (j := 5) (Ni := some 26) (Nj := some 6) #[true, true, true, true, false, false, false] bq_21 rfl rfl rfl rfl (by kernel_rfl) (by decide) (by decide) (fun K hK => ?_) (fun K hK => ?_)
       ·skip
        refine goes_ Try.func24 (by kernel_rfl) rfl #[.agg #[.string a1_0, .bool a1_1, .string a1_2]] (by rfl) rfl rfl tq_4 ?_
        with_reducible refine (laws_toItem.calls a1_0 a1_1 a1_2 t206 t207 t208 _ A18.out).mono ?_
        rintro e w27 ⟨rfl, hb⟩
        refine ⟨_, rfl, ?_⟩
        have n0_ := Aside0.mk (Kd.R_below tq_18 hb)
        have n1_ := Aside0.mk (blk_below tq_1 hb)
        have n2_ := Aside0.mk (blk_below tq_2 hb)
        have n3_ := Aside0.mk (below_step tq_10 hb)
        clear HO205 BK199 BK200 HB
        have HO205 := n0_
        have BK199 := n1_
        have BK200 := n2_
        have HB := n3_
        clear n0_ n1_ n2_ n3_
        (try clear hb)
        (try clear hb2)
        (try clear hk)
        (try clear hi)
        obtain ⟨Ao28, co28, eo28⟩ := Kd.R_slice HO205.out
        (first | subst eo28 | (injection eo28 with f1_ f2_ f3_; have f4_ := f1_.symm; have f5_ := f3_.symm; clear f1_ f2_ f3_; subst f4_; subst f5_))
        refine hK.out _ _ ⟨(blk_cell BK199.out 0).trans rfl, (blk_cell BK200.out 0).trans rfl, (blk_cell BK200.out 1).trans rfl, (blk_cell BK200.out 2).trans rfl⟩ (fun hHeld => ?_)
        clear hK K
        refine norm_ (a' := ?_) ?_ ?_
        rotate_left
        ·show Act.put _ (some 26) _ = _
         simp only [Act.put, List.setIfInBounds_toArray, List.set_cons_zero, List.set_cons_succ, i64_w, i32_w]
         rfl
        refine two_ (i := 4) (j := 5) (Ni := some 27) (Nj := some 6) #[true, true, true, true, true, false, false] bq_10 rfl rfl rfl rfl (by kernel_rfl) (by decide) (by decide) (fun K hK => ?_) (fun K hK => ?_)
        ·skip
         refine goes_ Try.func23 (by kernel_rfl) rfl #[.agg #[.slice Ao28 t203.length co28], .agg #[.string t206, .bool t207, .string t208]] (by rfl) rfl rfl tq_4 ?_
         with_reducible refine (spec_PutItem.calls kj11 _ _ t203 t206 t207 t208 t209 _ ?side1 ?side2 A19.out).mono ?_
         (case side1 => exact tq_51)
         (case side2 => exact (Kd.R_reads' HO205.out).2.1)
         rintro e w29 ⟨v210, rfl, ho0, hb⟩
         refine ⟨_, rfl, ?_⟩
         have n0_ := Aside0.mk (Kd.R_elder' tq_18 (Kd.R_base ho0) hb)
         have n1_ := Aside0.mk (Kd.R_lower (Kd.R_new' ho0 (Kd.R_lt tq_18)) (below_size tq_10))
         have n2_ := Aside0.mk (blk_below tq_1 hb)
         have n3_ := Aside0.mk (blk_below tq_2 hb)
         have n4_ := Aside0.mk (below_step tq_10 hb)
         clear HO205 BK199 BK200 HB
         have HO205 := n0_
         have HO211 := n1_
         have BK199 := n2_
         have BK200 := n3_
         have HB := n4_
         clear n0_ n1_ n2_ n3_ n4_
         (try clear hb)
         (try clear hb2)
         (try clear hk)
         (try clear hi)
         (try clear ho0)
         refine hK.out _ _ ⟨(blk_cell BK199.out 0).trans rfl, (blk_cell BK200.out 0).trans rfl, (blk_cell BK200.out 1).trans rfl, (blk_cell BK200.out 2).trans rfl⟩ (fun hHeld => ?_)
         clear hK K
         refine norm_ (a' := ?_) ?_ ?_
         rotate_left
         ·show Act.put _ (some 27) _ = _
          simp only [Act.put, List.setIfInBounds_toArray, List.set_cons_zero, List.set_cons_succ, i64_w, i32_w]
          rfl
         refine one_ (i := 5) (N := some 6) bq_0 rfl rfl (by kernel_rfl) (by decide) (fun K hK => ?_)
         refine box_step ?hg (N := 6) ?hd (cs := #[.slice none 0 0]) (t := 28) ?hr ?_; (case hd => rfl); (case hg => rfl); (case hr => first | (go_simp; done) | (go_simp; rfl))
         intro gb212 hg w30 hbox hb
         have n0_ := Aside0.mk (Kd.R_below tq_18 hb)
         have n1_ := Aside0.mk (Kd.R_below tq_31 hb)
         have n2_ := Aside0.mk (blk_below tq_1 hb)
         have n3_ := Aside0.mk (blk_below tq_2 hb)
         have n4_ := Aside0.mk (below_step tq_10 hb)
         have n5_ := Aside0.mk (hbox)
         have n6_ := Aside0.mk (gb_ hg tq_10)
         have n7_ := Aside0.mk (gb_ hg tq_10)
         have n8_ := Aside0.mk (ltne_ hg (blk_lt tq_1))
         have n9_ := Aside0.mk (gtne_ hg (blk_lt tq_1))
         have n10_ := Aside0.mk (ltne_ hg (blk_lt tq_2))
         have n11_ := Aside0.mk (gtne_ hg (blk_lt tq_2))
         clear HO205 HO211 BK199 BK200 HB
         have HO205 := n0_
         have HO211 := n1_
         have BK199 := n2_
         have BK200 := n3_
         have HB := n4_
         have BK212 := n5_
         have GW212 := n6_
         have GE212 := n7_
         have NB199_212 := n8_
         have NB212_199 := n9_
         have NB200_212 := n10_
         have NB212_200 := n11_
         clear n0_ n1_ n2_ n3_ n4_ n5_ n6_ n7_ n8_ n9_ n10_ n11_ hb hbox hg
         refine hK.out _ _ ⟨(blk_cell BK199.out 0).trans rfl, (blk_cell BK200.out 0).trans rfl, (blk_cell BK200.out 1).trans rfl, (blk_cell BK200.out 2).trans rfl⟩ (fun hHeld => ?_)
         clear hK K
         refine norm_ (a' := ?_) ?_ ?_
         rotate_left
         ·show Act.put _ (some 6) _ = _
          simp only [Act.put, List.setIfInBounds_toArray, List.set_cons_zero, List.set_cons_succ, i64_w, i32_w]
          rfl
         exact norm_ tq_34 (hCont (.slice Ao28 t203.length co28, v210, gb212) _ ⟨hHeld, tq_59, tq_58, tq_1, tq_2, tq_5, GW212.out, GE212.out, NB199_212.out, NB212_199.out, NB200_212.out, NB212_200.out, tq_9⟩)
        ·skip
         refine box_step ?hg (N := 6) ?hd (cs := #[.slice none 0 0]) (t := 28) ?hr ?_; (case hd => rfl); (case hg => rfl); (case hr => first | (go_simp; done) | (go_simp; rfl))
         intro gb212 hg w28 hbox hb
         have n0_ := Aside0.mk (Kd.R_below tq_18 hb)
         have n1_ := Aside0.mk (blk_below tq_1 hb)
         have n2_ := Aside0.mk (blk_below tq_2 hb)
         have n3_ := Aside0.mk (below_step tq_10 hb)
         have n4_ := Aside0.mk (hbox)
         have n5_ := Aside0.mk (gb_ hg tq_10)
         have n6_ := Aside0.mk (gb_ hg tq_10)
         have n7_ := Aside0.mk (ltne_ hg (blk_lt tq_1))
         have n8_ := Aside0.mk (gtne_ hg (blk_lt tq_1))
         have n9_ := Aside0.mk (ltne_ hg (blk_lt tq_2))
         have n10_ := Aside0.mk (gtne_ hg (blk_lt tq_2))
         clear HO205 BK199 BK200 HB
         have HO205 := n0_
         have BK199 := n1_
         have BK200 := n2_
         have HB := n3_
         have BK212 := n4_
         have GW212 := n5_
         have GE212 := n6_
         have NB199_212 := n7_
         have NB212_199 := n8_
         have NB200_212 := n9_
         have NB212_200 := n10_
         clear n0_ n1_ n2_ n3_ n4_ n5_ n6_ n7_ n8_ n9_ n10_ hb hbox hg
         obtain ⟨Ao29, co29, eo29⟩ := Kd.R_slice HO205.out
         (first | subst eo29 | (injection eo29 with f1_ f2_ f3_; have f4_ := f1_.symm; have f5_ := f3_.symm; clear f1_ f2_ f3_; subst f4_; subst f5_))
         refine hK.out _ _ ⟨(blk_cell BK199.out 0).trans rfl, (blk_cell BK200.out 0).trans rfl, (blk_cell BK200.out 1).trans rfl, (blk_cell BK200.out 2).trans rfl⟩ (fun hHeld => ?_)
         clear hK K
         refine norm_ (a' := ?_) ?_ ?_
         rotate_left
         ·show Act.put _ (some 6) _ = _
          simp only [Act.put, List.setIfInBounds_toArray, List.set_cons_zero, List.set_cons_succ, i64_w, i32_w]
          rfl
         refine one_ (i := 4) (N := some 27) bq_0 rfl rfl (by kernel_rfl) (by decide) (fun K hK => ?_)
         refine goes_ Try.func23 (by kernel_rfl) rfl #[.agg #[.slice Ao29 t203.length co29], .agg #[.string t206, .bool t207, .string t208]] (by rfl) rfl rfl tq_4 ?_
         with_reducible refine (spec_PutItem.calls kj11 _ _ t203 t206 t207 t208 t209 _ ?side1 ?side2 A19.out).mono ?_
         (case side1 => exact tq_51)
         (case side2 => exact (Kd.R_reads' HO205.out).2.1)
         rintro e w30 ⟨v210, rfl, ho0, hb⟩
         refine ⟨_, rfl, ?_⟩
         have n0_ := Aside0.mk (Kd.R_elder' tq_18 (Kd.R_base ho0) hb)
         have n1_ := Aside0.mk (Kd.R_lower (Kd.R_new' ho0 (Kd.R_lt tq_18)) (below_size tq_9))
         have n2_ := Aside0.mk (blk_below tq_1 hb)
         have n3_ := Aside0.mk (blk_below tq_2 hb)
         have n4_ := Aside0.mk (blk_below tq_5 hb)
         have n5_ := Aside0.mk (below_step tq_9 hb)
         clear HO205 BK199 BK200 BK212 HB
         have HO205 := n0_
         have HO211 := n1_
         have BK199 := n2_
         have BK200 := n3_
         have BK212 := n4_
         have HB := n5_
         clear n0_ n1_ n2_ n3_ n4_ n5_
         (try clear hb)
         (try clear hb2)
         (try clear hk)
         (try clear hi)
         (try clear ho0)
         refine hK.out _ _ ⟨(blk_cell BK199.out 0).trans rfl, (blk_cell BK200.out 0).trans rfl, (blk_cell BK200.out 1).trans rfl, (blk_cell BK200.out 2).trans rfl⟩ (fun hHeld => ?_)
         clear hK K
         refine norm_ (a' := ?_) ?_ ?_
         rotate_left
         ·show Act.put _ (some 27) _ = _
          simp only [Act.put, List.setIfInBounds_toArray, List.set_cons_zero, List.set_cons_succ, i64_w, i32_w]
          rfl
         exact norm_ tq_34 (hCont (.slice Ao29 t203.length co29, v210, gb212) _ ⟨hHeld, tq_59, tq_58, tq_1, tq_2, tq_5, GW212.out, GE212.out, NB199_212.out, NB212_199.out, NB200_212.out, NB212_200.out, tq_9⟩)
       ·skip
        refine box_step ?hg (N := 6) ?hd (cs := #[.slice none 0 0]) (t := 28) ?hr ?_; (case hd => rfl); (case hg => rfl); (case hr => first | (go_simp; done) | (go_simp; rfl))
        intro gb212 hg w27 hbox hb
        have n0_ := Aside0.mk (Kd.R_below tq_18 hb)
        have n1_ := Aside0.mk (blk_below tq_1 hb)
        have n2_ := Aside0.mk (blk_below tq_2 hb)
        have n3_ := Aside0.mk (below_step tq_10 hb)
        have n4_ := Aside0.mk (hbox)
        have n5_ := Aside0.mk (gb_ hg tq_10)
        have n6_ := Aside0.mk (gb_ hg tq_10)
        have n7_ := Aside0.mk (ltne_ hg (blk_lt tq_1))
        have n8_ := Aside0.mk (gtne_ hg (blk_lt tq_1))
        have n9_ := Aside0.mk (ltne_ hg (blk_lt tq_2))
        have n10_ := Aside0.mk (gtne_ hg (blk_lt tq_2))
        clear HO205 BK199 BK200 HB
        have HO205 := n0_
        have BK199 := n1_
        have BK200 := n2_
        have HB := n3_
        have BK212 := n4_
        have GW212 := n5_
        have GE212 := n6_
        have NB199_212 := n7_
        have NB212_199 := n8_
        have NB200_212 := n9_
        have NB212_200 := n10_
        clear n0_ n1_ n2_ n3_ n4_ n5_ n6_ n7_ n8_ n9_ n10_ hb hbox hg
        refine hK.out _ _ ⟨(blk_cell BK199.out 0).trans rfl, (blk_cell BK200.out 0).trans rfl, (blk_cell BK200.out 1).trans rfl, (blk_cell BK200.out 2).trans rfl⟩ (fun hHeld => ?_)
        clear hK K
        refine norm_ (a' := ?_) ?_ ?_
        rotate_left
        ·show Act.put _ (some 6) _ = _
         simp only [Act.put, List.setIfInBounds_toArray, List.set_cons_zero, List.set_cons_succ, i64_w, i32_w]
         rfl
        refine one_ (i := 3) (N := some 26) bq_10 rfl rfl (by kernel_rfl) (by decide) (fun K hK => ?_)
        refine goes_ Try.func24 (by kernel_rfl) rfl #[.agg #[.string a1_0, .bool a1_1, .string a1_2]] (by rfl) rfl rfl tq_4 ?_
        with_reducible refine (laws_toItem.calls a1_0 a1_1 a1_2 t206 t207 t208 _ A18.out).mono ?_
        rintro e w28 ⟨rfl, hb⟩
        refine ⟨_, rfl, ?_⟩
        have n0_ := Aside0.mk (Kd.R_below tq_18 hb)
        have n1_ := Aside0.mk (blk_below tq_1 hb)
        have n2_ := Aside0.mk (blk_below tq_2 hb)
        have n3_ := Aside0.mk (blk_below tq_5 hb)
        have n4_ := Aside0.mk (below_step tq_9 hb)
        clear HO205 BK199 BK200 BK212 HB
        have HO205 := n0_
        have BK199 := n1_
        have BK200 := n2_
        have BK212 := n3_
        have HB := n4_
        clear n0_ n1_ n2_ n3_ n4_
        (try clear hb)
        (try clear hb2)
        (try clear hk)
        (try clear hi)
        obtain ⟨Ao29, co29, eo29⟩ := Kd.R_slice HO205.out
        (first | subst eo29 | (injection eo29 with f1_ f2_ f3_; have f4_ := f1_.symm; have f5_ := f3_.symm; clear f1_ f2_ f3_; subst f4_; subst f5_))
        refine hK.out _ _ ⟨(blk_cell BK199.out 0).trans rfl, (blk_cell BK200.out 0).trans rfl, (blk_cell BK200.out 1).trans rfl, (blk_cell BK200.out 2).trans rfl⟩ (fun hHeld => ?_)
        clear hK K
        refine norm_ (a' := ?_) ?_ ?_
        rotate_left
        ·show Act.put _ (some 26) _ = _
         simp only [Act.put, List.setIfInBounds_toArray, List.set_cons_zero, List.set_cons_succ, i64_w, i32_w]
         rfl
        refine one_ (i := 4) (N := some 27) bq_0 rfl rfl (by kernel_rfl) (by decide) (fun K hK => ?_)
        refine goes_ Try.func23 (by kernel_rfl) rfl #[.agg #[.slice Ao29 t203.length co29], .agg #[.string t206, .bool t207, .string t208]] (by rfl) rfl rfl tq_4 ?_
        with_reducible refine (spec_PutItem.calls kj11 _ _ t203 t206 t207 t208 t209 _ ?side1 ?side2 A19.out).mono ?_
        (case side1 => exact tq_51)
        (case side2 => exact (Kd.R_reads' HO205.out).2.1)
        rintro e w30 ⟨v210, rfl, ho0, hb⟩
        refine ⟨_, rfl, ?_⟩
        have n0_ := Aside0.mk (Kd.R_elder' tq_18 (Kd.R_base ho0) hb)
        have n1_ := Aside0.mk (Kd.R_lower (Kd.R_new' ho0 (Kd.R_lt tq_18)) (below_size tq_9))
        have n2_ := Aside0.mk (blk_below tq_1 hb)
        have n3_ := Aside0.mk (blk_below tq_2 hb)
        have n4_ := Aside0.mk (blk_below tq_5 hb)
        have n5_ := Aside0.mk (below_step tq_9 hb)
        clear HO205 BK199 BK200 BK212 HB
        have HO205 := n0_
        have HO211 := n1_
        have BK199 := n2_
        have BK200 := n3_
        have BK212 := n4_
        have HB := n5_
        clear n0_ n1_ n2_ n3_ n4_ n5_
        (try clear hb)
        (try clear hb2)
        (try clear hk)
        (try clear hi)
        (try clear ho0)
        refine hK.out _ _ ⟨(blk_cell BK199.out 0).trans rfl, (blk_cell BK200.out 0).trans rfl, (blk_cell BK200.out 1).trans rfl, (blk_cell BK200.out 2).trans rfl⟩ (fun hHeld => ?_)
        clear hK K
        refine norm_ (a' := ?_) ?_ ?_
        rotate_left
        ·show Act.put _ (some 27) _ = _
         simp only [Act.put, List.setIfInBounds_toArray, List.set_cons_zero, List.set_cons_succ, i64_w, i32_w]
         rfl
        exact norm_ tq_34 (hCont (.slice Ao29 t203.length co29, v210, gb212) _ ⟨hHeld, tq_59, tq_58, tq_1, tq_2, tq_5, GW212.out, GE212.out, NB199_212.out, NB212_199.out, NB200_212.out, NB212_200.out, tq_9⟩)
      ·skip
       refine box_step ?hg (N := 6) ?hd (cs := #[.slice none 0 0]) (t := 28) ?hr ?_; (case hd => rfl); (case hg => rfl); (case hr => first | (go_simp; done) | (go_simp; rfl))
       intro gb212 hg w26 hbox hb
       have n0_ := Aside0.mk (blk_below tq_1 hb)
       have n1_ := Aside0.mk (blk_below tq_2 hb)
       have n2_ := Aside0.mk (below_step tq_10 hb)
       have n3_ := Aside0.mk (hbox)
       have n4_ := Aside0.mk (gb_ hg tq_10)
       have n5_ := Aside0.mk (gb_ hg tq_10)
       have n6_ := Aside0.mk (ltne_ hg (blk_lt tq_1))
       have n7_ := Aside0.mk (gtne_ hg (blk_lt tq_1))
       have n8_ := Aside0.mk (ltne_ hg (blk_lt tq_2))
       have n9_ := Aside0.mk (gtne_ hg (blk_lt tq_2))
       clear BK199 BK200 HB
       have BK199 := n0_
       have BK200 := n1_
       have HB := n2_
       have BK212 := n3_
       have GW212 := n4_
       have GE212 := n5_
       have NB199_212 := n6_
       have NB212_199 := n7_
       have NB200_212 := n8_
       have NB212_200 := n9_
       clear n0_ n1_ n2_ n3_ n4_ n5_ n6_ n7_ n8_ n9_ hb hbox hg
       refine hK.out _ _ ⟨(blk_cell BK199.out 0).trans rfl, (blk_cell BK200.out 0).trans rfl, (blk_cell BK200.out 1).trans rfl, (blk_cell BK200.out 2).trans rfl⟩ (fun hHeld => ?_)
       clear hK K
       refine norm_ (a' := ?_) ?_ ?_
       rotate_left
       ·show Act.put _ (some 6) _ = _
        simp only [Act.put, List.setIfInBounds_toArray, List.set_cons_zero, List.set_cons_succ, i64_w, i32_w]
        rfl
       refine one_ (i := 1) (N := some 24) bq_21 rfl rfl (by kernel_rfl) (by decide) (fun K hK => ?_)
       refine goes_ Try.func17 (by kernel_rfl) rfl #[.agg #[.slice A0_0 l0_0.length c0_0]] (by rfl) rfl rfl tq_4 ?_
       with_reducible refine (laws_toView.calls kj11 _ _ l0_0 t203 _ ?side1 ?side2 A17.out).mono ?_
       (case side1 => exact tq_19)
       (case side2 => exact HC0_0.out)
       rintro e w27 ⟨v204, rfl, ho0, hb⟩
       refine ⟨_, rfl, ?_⟩
       have n0_ := Aside0.mk (Kd.R_lower ho0 (below_size tq_9))
       have n1_ := Aside0.mk (blk_below tq_1 hb)
       have n2_ := Aside0.mk (blk_below tq_2 hb)
       have n3_ := Aside0.mk (blk_below tq_5 hb)
       have n4_ := Aside0.mk (below_step tq_9 hb)
       clear BK199 BK200 BK212 HB
       have HO205 := n0_
       have BK199 := n1_
       have BK200 := n2_
       have BK212 := n3_
       have HB := n4_
       clear n0_ n1_ n2_ n3_ n4_
       (try clear hb)
       (try clear hb2)
       (try clear hk)
       (try clear hi)
       (try clear ho0)
       refine hK.out _ _ ⟨(blk_cell BK199.out 0).trans rfl, (blk_cell BK200.out 0).trans rfl, (blk_cell BK200.out 1).trans rfl, (blk_cell BK200.out 2).trans rfl⟩ (fun hHeld => ?_)
       clear hK K
       refine norm_ (a' := ?_) ?_ ?_
       rotate_left
       ·show Act.put _ (some 24) _ = _
        simp only [Act.put, List.setIfInBounds_toArray, List.set_cons_zero, List.set_cons_succ, i64_w, i32_w]
        rfl
       refine one_ (i := 3) (N := some 26) bq_10 rfl rfl (by kernel_rfl) (by decide) (fun K hK => ?_)
       refine goes_ Try.func24 (by kernel_rfl) rfl #[.agg #[.string a1_0, .bool a1_1, .string a1_2]] (by rfl) rfl rfl tq_4 ?_
       with_reducible refine (laws_toItem.calls a1_0 a1_1 a1_2 t206 t207 t208 _ A18.out).mono ?_
       rintro e w28 ⟨rfl, hb⟩
       refine ⟨_, rfl, ?_⟩
       have n0_ := Aside0.mk (Kd.R_below tq_18 hb)
       have n1_ := Aside0.mk (blk_below tq_1 hb)
       have n2_ := Aside0.mk (blk_below tq_2 hb)
       have n3_ := Aside0.mk (blk_below tq_5 hb)
       have n4_ := Aside0.mk (below_step tq_9 hb)
       clear HO205 BK199 BK200 BK212 HB
       have HO205 := n0_
       have BK199 := n1_
       have BK200 := n2_
       have BK212 := n3_
       have HB := n4_
       clear n0_ n1_ n2_ n3_ n4_
       (try clear hb)
       (try clear hb2)
       (try clear hk)
       (try clear hi)
       obtain ⟨Ao29, co29, eo29⟩ := Kd.R_slice HO205.out
       (first | subst eo29 | (injection eo29 with f1_ f2_ f3_; have f4_ := f1_.symm; have f5_ := f3_.symm; clear f1_ f2_ f3_; subst f4_; subst f5_))
       refine hK.out _ _ ⟨(blk_cell BK199.out 0).trans rfl, (blk_cell BK200.out 0).trans rfl, (blk_cell BK200.out 1).trans rfl, (blk_cell BK200.out 2).trans rfl⟩ (fun hHeld => ?_)
       clear hK K
       refine norm_ (a' := ?_) ?_ ?_
       rotate_left
       ·show Act.put _ (some 26) _ = _
        simp only [Act.put, List.setIfInBounds_toArray, List.set_cons_zero, List.set_cons_succ, i64_w, i32_w]
        rfl
       refine one_ (i := 4) (N := some 27) bq_0 rfl rfl (by kernel_rfl) (by decide) (fun K hK => ?_)
       refine goes_ Try.func23 (by kernel_rfl) rfl #[.agg #[.slice Ao29 t203.length co29], .agg #[.string t206, .bool t207, .string t208]] (by rfl) rfl rfl tq_4 ?_
       with_reducible refine (spec_PutItem.calls kj11 _ _ t203 t206 t207 t208 t209 _ ?side1 ?side2 A19.out).mono ?_
       (case side1 => exact tq_51)
       (case side2 => exact (Kd.R_reads' HO205.out).2.1)
       rintro e w30 ⟨v210, rfl, ho0, hb⟩
       refine ⟨_, rfl, ?_⟩
       have n0_ := Aside0.mk (Kd.R_elder' tq_18 (Kd.R_base ho0) hb)
       have n1_ := Aside0.mk (Kd.R_lower (Kd.R_new' ho0 (Kd.R_lt tq_18)) (below_size tq_9))
       have n2_ := Aside0.mk (blk_below tq_1 hb)
       have n3_ := Aside0.mk (blk_below tq_2 hb)
       have n4_ := Aside0.mk (blk_below tq_5 hb)
       have n5_ := Aside0.mk (below_step tq_9 hb)
       clear HO205 BK199 BK200 BK212 HB
       have HO205 := n0_
       have HO211 := n1_
       have BK199 := n2_
       have BK200 := n3_
       have BK212 := n4_
       have HB := n5_
       clear n0_ n1_ n2_ n3_ n4_ n5_
       (try clear hb)
       (try clear hb2)
       (try clear hk)
       (try clear hi)
       (try clear ho0)
       refine hK.out _ _ ⟨(blk_cell BK199.out 0).trans rfl, (blk_cell BK200.out 0).trans rfl, (blk_cell BK200.out 1).trans rfl, (blk_cell BK200.out 2).trans rfl⟩ (fun hHeld => ?_)
       clear hK K
       refine norm_ (a' := ?_) ?_ ?_
       rotate_left
       ·show Act.put _ (some 27) _ = _
        simp only [Act.put, List.setIfInBounds_toArray, List.set_cons_zero, List.set_cons_succ, i64_w, i32_w]
        rfl
       exact norm_ tq_34 (hCont (.slice Ao29 t203.length co29, v210, gb212) _ ⟨hHeld, tq_59, tq_58, tq_1, tq_2, tq_5, GW212.out, GE212.out, NB199_212.out, NB212_199.out, NB200_212.out, NB212_200.out, tq_9⟩)
     rintro ⟨v204, v210, gb212⟩ w31 ⟨hS_, h0_, h1_, h2_, h3_, h4_, h5_, h6_, h7_, h8_, h9_, h10_, h11_⟩
     have n0_ : Aside0 (Kd.R k38 38 w31 w.heap.size (fun k_ => some k_ ≠ (v210 : Value).ownBlock) v204 t203) := ⟨h0_⟩
     have n1_ : Aside0 (Kd.R k38 38 w31 w.heap.size (fun k_ => some k_ ≠ (v204 : Value).ownBlock) v210 t209) := ⟨h1_⟩
     have n2_ : Aside0 (w31.heap[gb199]? = some (.cells #[.slice A0_0 l0_0.length c0_0] 24 (0, 0))) := ⟨h2_⟩
     have n3_ : Aside0 (w31.heap[gb200]? = some (.cells #[.string a1_0, .bool a1_1, .string a1_2] 35 (0, 0))) := ⟨h3_⟩
     have n4_ : Aside0 (w31.heap[gb212]? = some (.cells #[.slice none 0 0] 28 (0, 0))) := ⟨h4_⟩
     have n5_ : Aside0 (w.heap.size ≤ gb212) := ⟨h5_⟩
     have n6_ : Aside0 (w.heap.size ≤ gb212) := ⟨h6_⟩
     have n7_ : Aside0 (gb199 ≠ gb212) := ⟨h7_⟩
     have n8_ : Aside0 (gb212 ≠ gb199) := ⟨h8_⟩
     have n9_ : Aside0 (gb200 ≠ gb212) := ⟨h9_⟩
     have n10_ : Aside0 (gb212 ≠ gb200) := ⟨h10_⟩
     have n11_ : Aside0 (Below w.heap.size w w31) := ⟨h11_⟩
     clear BK199 BK200 HB h0_ h1_ h2_ h3_ h4_ h5_ h6_ h7_ h8_ h9_ h10_ h11_
     have HO205 := n0_
     have HO211 := n1_
     have BK199 := n2_
     have BK200 := n3_
     have BK212 := n4_
     have GW212 := n5_
     have GE212 := n6_
     have NB199_212 := n7_
     have NB212_199 := n8_
     have NB200_212 := n9_
     have NB212_200 := n10_
     have HB := n11_
     clear n0_ n1_ n2_ n3_ n4_ n5_ n6_ n7_ n8_ n9_ n10_ n11_
     have hHeld : w31.cell? ⟨gb199, 0, none⟩ = some (.slice A0_0 l0_0.length c0_0) ∧ w31.cell? ⟨gb200, 0, none⟩ = some (.string a1_0) ∧ w31.cell? ⟨gb200, 1, none⟩ = some (.bool a1_1) ∧ w31.cell? ⟨gb200, 2, none⟩ = some (.string a1_2) := hS_
     obtain ⟨Ao32, co32, eo32⟩ := Kd.R_slice HO211.out
     (first | subst eo32 | (injection eo32 with f1_ f2_ f3_; have f4_ := f1_.symm; have f5_ := f3_.symm; clear f1_ f2_ f3_; subst f4_; subst f5_))
     refine norm_ (a' := ?_) ?_ ?_
     rotate_left
     ·simp only [putAll, Act.put, List.setIfInBounds_toArray, List.set_cons_zero, List.set_cons_succ]
      rfl
     refine one_ (i := 6) (N := none) #[true, true, true, true, true, true, true] rfl rfl (by kernel_rfl) (by decide) (fun K hK => ?_)
     have hs33 : w31.cell? ⟨gb212, 0, none⟩ = some (.slice none 0 0) := (blk_cell BK212.out 0).trans rfl
     have hfs33 := blk_frozen BK212.out 0
     have hns33_0 := NB199_212.out
     have hns33_1 := NB200_212.out
     have hms33_0 := NB212_199.out
     have hms33_1 := NB212_200.out
     refine skip_ (w1 := ?_) (by rfl) rfl ?_ ?_
     rotate_left
     ·go_simp
      rfl
     refine hK.out _ _ ⟨((cell_far (p := ⟨gb212, _, none⟩) NB199_212.out _).trans (hHeld.1)), ((cell_far (p := ⟨gb212, _, none⟩) NB200_212.out _).trans (hHeld.2.1)), ((cell_far (p := ⟨gb212, _, none⟩) NB200_212.out _).trans (hHeld.2.2.1)), ((cell_far (p := ⟨gb212, _, none⟩) NB200_212.out _).trans (hHeld.2.2.2))⟩ (fun hHeld => ?_)
     clear hK K
     refine done_ (by kernel_rfl) ?_
     have hnb34 := NB199_200.out
     have hnc34 := NB200_199.out
     have hnb35 := NB199_212.out
     have hnc35 := NB212_199.out
     have hcz36_0 := bc_ BK199.out 0
     have hfz36_0 := blk_frozen BK199.out 0
     try go_wp2_with (first | ((with_reducible refine gate_callee (f := 17) rfl ?_); refine goesL_ (some 29) rfl rfl Try.func17 (by kernel_rfl) rfl #[.agg #[.slice A0_0 l0_0.length c0_0]] rfl tq_4 ?_; (with_reducible refine (laws_toView.calls kj11 _ _ l0_0 t213 _ ?side1 ?side2 A20.out).mono ?_); (case side1 => exact Kd.C_below HR0_0.out tq_9); (case side2 => exact HC0_0.out); rintro e w37 ⟨v214, rfl, ho0, hb⟩; refine ⟨_, rfl, ?_⟩; have n0_ := Aside0.mk (Kd.R_elder' tq_84 (Kd.R_base ho0) hb); have n1_ := Aside0.mk (Kd.R_elder' tq_83 (Kd.R_base ho0) hb); have n2_ := Aside0.mk (Kd.R_lower (Kd.R_new' (Kd.R_new' ho0 (Kd.R_lt tq_84)) (Kd.R_lt tq_83)) (below_size tq_9)); have n3_ := Aside0.mk (blk_below (g := gb199) (o := .cells #[.slice A0_0 l0_0.length c0_0] 24 (0, 0)) (by (with_reducible repeat (first | refine blk_drewN ?_ _ | refine blk_drew ?_ | refine blk_alloc ?_ _)); refine blk_far ?_ NB199_212.out _; (with_reducible repeat (first | refine blk_drewN ?_ _ | refine blk_drew ?_ | refine blk_alloc ?_ _)); exact BK199.out) hb); have n4_ := Aside0.mk (blk_below (g := gb200) (o := .cells #[.string a1_0, .bool a1_1, .string a1_2] 35 (0, 0)) (by (with_reducible repeat (first | refine blk_drewN ?_ _ | refine blk_drew ?_ | refine blk_alloc ?_ _)); refine blk_far ?_ NB200_212.out _; (with_reducible repeat (first | refine blk_drewN ?_ _ | refine blk_drew ?_ | refine blk_alloc ?_ _)); exact BK200.out) hb); have n5_ := Aside0.mk (blk_below (g := gb212) (o := .cells #[.slice Ao32 t209.length co32] 28 (0, 0)) (by (with_reducible repeat (first | refine blk_drewN ?_ _ | refine blk_drew ?_ | refine blk_alloc ?_ _)); refine blk_put (cs := #[.slice none 0 0]) ?_ 0 _ rfl; (with_reducible repeat (first | refine blk_drewN ?_ _ | refine blk_drew ?_ | refine blk_alloc ?_ _)); exact BK212.out) hb); have n6_ := Aside0.mk (below_step tq_9 hb); clear HO205 HO211 BK199 BK200 BK212 HB; have HO205 := n0_; have HO211 := n1_; have HO215 := n2_; have BK199 := n3_; have BK200 := n4_; have BK212 := n5_; have HB := n6_; clear n0_ n1_ n2_ n3_ n4_ n5_ n6_; (try clear hb); (try clear hb2); (try clear hk); (try clear hi); (try clear ho0)) | ((with_reducible refine gate_dst (N := 7) rfl ?_); refine box_event ?hg (N := 7) ?hd (cs := #[.slice none 0 0]) (t := 28) ?hr ?_; (case hd => rfl); (case hg => rfl); (case hr => first | (go_simp; done) | (go_simp; rfl)); intro gb216 hg w38 hbox hb; have n0_ := Aside0.mk (Kd.R_below tq_18 hb); have n1_ := Aside0.mk (Kd.R_below tq_31 hb); have n2_ := Aside0.mk (Kd.R_below tq_32 hb); have n3_ := Aside0.mk (blk_below tq_1 hb); have n4_ := Aside0.mk (blk_below tq_2 hb); have n5_ := Aside0.mk (blk_below tq_5 hb); have n6_ := Aside0.mk (below_step tq_9 hb); have n7_ := Aside0.mk (hbox); have n8_ := Aside0.mk (gb_ hg tq_9); have n9_ := Aside0.mk (gb_ hg tq_9); have n10_ := Aside0.mk (ltne_ hg (blk_lt tq_1)); have n11_ := Aside0.mk (gtne_ hg (blk_lt tq_1)); have n12_ := Aside0.mk (ltne_ hg (blk_lt tq_2)); have n13_ := Aside0.mk (gtne_ hg (blk_lt tq_2)); have n14_ := Aside0.mk (ltne_ hg (blk_lt tq_5)); have n15_ := Aside0.mk (gtne_ hg (blk_lt tq_5)); clear HO205 HO211 HO215 BK199 BK200 BK212 HB; have HO205 := n0_; have HO211 := n1_; have HO215 := n2_; have BK199 := n3_; have BK200 := n4_; have BK212 := n5_; have HB := n6_; have BK216 := n7_; have GW216 := n8_; have GE216 := n9_; have NB199_216 := n10_; have NB216_199 := n11_; have NB200_216 := n12_; have NB216_200 := n13_; have NB212_216 := n14_; have NB216_212 := n15_; clear n0_ n1_ n2_ n3_ n4_ n5_ n6_ n7_ n8_ n9_ n10_ n11_ n12_ n13_ n14_ n15_; clear hb hbox hg; obtain ⟨Ao39, co39, eo39⟩ := Kd.R_slice HO215.out; subst eo39; have hnb40 := NB216_199.out; have hnc40 := NB199_216.out; have hnb41 := NB216_200.out; have hnc41 := NB200_216.out; have hnb42 := NB216_212.out; have hnc42 := NB212_216.out; have hcz43_0 := bc_ BK216.out 0; have hfz43_0 := blk_frozen BK216.out 0))
     have n0_ : Aside0 (Kd.R k38 38 (w38.setCell ⟨gb216, 0, none⟩ (.slice Ao39 t213.length co39)) w.heap.size (fun k_ => some k_ ≠ (.slice Ao32 t209.length co32 : Value).ownBlock ∧ some k_ ≠ (.slice Ao39 t213.length co39 : Value).ownBlock) v204 t203) := ⟨by (with_reducible repeat (first | apply Kd.R_alloc | apply Kd.R_drewN | apply Kd.R_drew)); exact Kd.R_mono (Kd.R_far (p := ⟨gb216, 0, none⟩) (Kd.R_types HO205.out BK216.out (by decide)) (fun _ hk => hk.2) (.slice Ao39 t213.length co39)) (fun _ hk => ⟨hk.1.1, hk.1.2⟩)⟩
     have n1_ : Aside0 (Kd.R k38 38 (w38.setCell ⟨gb216, 0, none⟩ (.slice Ao39 t213.length co39)) w.heap.size (fun k_ => some k_ ≠ (v204 : Value).ownBlock ∧ some k_ ≠ (.slice Ao39 t213.length co39 : Value).ownBlock) (.slice Ao32 t209.length co32) t209) := ⟨by (with_reducible repeat (first | apply Kd.R_alloc | apply Kd.R_drewN | apply Kd.R_drew)); exact Kd.R_mono (Kd.R_far (p := ⟨gb216, 0, none⟩) (Kd.R_types HO211.out BK216.out (by decide)) (fun _ hk => hk.2) (.slice Ao39 t213.length co39)) (fun _ hk => ⟨hk.1.1, hk.1.2⟩)⟩
     have n2_ : Aside0 (Kd.R k38 38 (w38.setCell ⟨gb216, 0, none⟩ (.slice Ao39 t213.length co39)) w.heap.size (fun k_ => some k_ ≠ (v204 : Value).ownBlock ∧ some k_ ≠ (.slice Ao32 t209.length co32 : Value).ownBlock) (.slice Ao39 t213.length co39) t213) := ⟨by (with_reducible repeat (first | apply Kd.R_alloc | apply Kd.R_drewN | apply Kd.R_drew)); exact Kd.R_mono (Kd.R_far (p := ⟨gb216, 0, none⟩) (Kd.R_types HO215.out BK216.out (by decide)) (fun _ hk => hk.2) (.slice Ao39 t213.length co39)) (fun _ hk => ⟨hk.1.1.2, hk.1.2⟩)⟩
     have n3_ : Aside0 ((w38.setCell ⟨gb216, 0, none⟩ (.slice Ao39 t213.length co39)).heap[gb199]? = some (.cells #[.slice A0_0 l0_0.length c0_0] 24 (0, 0))) := ⟨by (with_reducible repeat (first | refine blk_drewN ?_ _ | refine blk_drew ?_ | refine blk_alloc ?_ _)); refine blk_far ?_ NB199_216.out _; (with_reducible repeat (first | refine blk_drewN ?_ _ | refine blk_drew ?_ | refine blk_alloc ?_ _)); exact BK199.out⟩
     have n4_ : Aside0 ((w38.setCell ⟨gb216, 0, none⟩ (.slice Ao39 t213.length co39)).heap[gb200]? = some (.cells #[.string a1_0, .bool a1_1, .string a1_2] 35 (0, 0))) := ⟨by (with_reducible repeat (first | refine blk_drewN ?_ _ | refine blk_drew ?_ | refine blk_alloc ?_ _)); refine blk_far ?_ NB200_216.out _; (with_reducible repeat (first | refine blk_drewN ?_ _ | refine blk_drew ?_ | refine blk_alloc ?_ _)); exact BK200.out⟩
     have n5_ : Aside0 ((w38.setCell ⟨gb216, 0, none⟩ (.slice Ao39 t213.length co39)).heap[gb212]? = some (.cells #[.slice Ao32 t209.length co32] 28 (0, 0))) := ⟨by (with_reducible repeat (first | refine blk_drewN ?_ _ | refine blk_drew ?_ | refine blk_alloc ?_ _)); refine blk_far ?_ NB212_216.out _; (with_reducible repeat (first | refine blk_drewN ?_ _ | refine blk_drew ?_ | refine blk_alloc ?_ _)); exact BK212.out⟩
     have n6_ : Aside0 ((w38.setCell ⟨gb216, 0, none⟩ (.slice Ao39 t213.length co39)).heap[gb216]? = some (.cells #[.slice Ao39 t213.length co39] 28 (0, 0))) := ⟨by (with_reducible repeat (first | refine blk_drewN ?_ _ | refine blk_drew ?_ | refine blk_alloc ?_ _)); refine blk_put (cs := #[.slice none 0 0]) ?_ 0 _ rfl; (with_reducible repeat (first | refine blk_drewN ?_ _ | refine blk_drew ?_ | refine blk_alloc ?_ _)); exact BK216.out⟩
     have n7_ : Aside0 (Below w.heap.size w (w38.setCell ⟨gb216, 0, none⟩ (.slice Ao39 t213.length co39))) := ⟨by repeat (first | (with_reducible first | exact HB.out | apply below_alloc | apply pw_below_drewN | apply below_drew1 | refine below_set ?_ GE199.out | refine below_set ?_ GE200.out | refine below_set ?_ GE212.out | refine below_set ?_ GE216.out) | exact HB.out)⟩
     (try clear HO205)
     (try clear HO211)
     (try clear HO215)
     (try clear BK199)
     (try clear BK200)
     (try clear BK212)
     (try clear BK216)
     (try clear HB)
     generalize (w38.setCell ⟨gb216, 0, none⟩ (.slice Ao39 t213.length co39)) = w44 at n0_ n1_ n2_ n3_ n4_ n5_ n6_ n7_ ⊢
     have HO205 := n0_
     have HO211 := n1_
     have HO215 := n2_
     have BK199 := n3_
     have BK200 := n4_
     have BK212 := n5_
     have BK216 := n6_
     have HB := n7_
     clear n0_ n1_ n2_ n3_ n4_ n5_ n6_ n7_
     have n0_ := Aside0.mk (Kd.R_drew HO205.out)
     have n1_ := Aside0.mk (Kd.R_drew HO211.out)
     have n2_ := Aside0.mk (Kd.R_drew HO215.out)
     have n3_ := Aside0.mk (blk_drew BK199.out)
     have n4_ := Aside0.mk (blk_drew BK200.out)
     have n5_ := Aside0.mk (blk_drew BK212.out)
     have n6_ := Aside0.mk (blk_drew BK216.out)
     have n7_ := Aside0.mk (below_drew1 HB.out)
     clear HO205 HO211 HO215 BK199 BK200 BK212 BK216 HB
     have HO205 := n0_
     have HO211 := n1_
     have HO215 := n2_
     have BK199 := n3_
     have BK200 := n4_
     have BK212 := n5_
     have BK216 := n6_
     have HB := n7_
     clear n0_ n1_ n2_ n3_ n4_ n5_ n6_ n7_
     refine start_ (n := 6) (S := fun w' => w'.cell? ⟨gb216, 0, none⟩ = some (.slice Ao39 t213.length co39) ∧ w'.cell? ⟨gb200, 0, none⟩ = some (.string a1_0) ∧ w'.cell? ⟨gb200, 1, none⟩ = some (.bool a1_1) ∧ w'.cell? ⟨gb200, 2, none⟩ = some (.string a1_2)) (ds := []) #[false, false, false, false, false, false] (by kernel_rfl) rfl rfl ⟨(blk_cell BK216.out 0).trans rfl, (blk_cell BK200.out 0).trans rfl, (blk_cell BK200.out 1).trans rfl, (blk_cell BK200.out 2).trans rfl⟩ (fun hHeld => ?_)
     generalize w44.drew = w45 at HO205 HO211 HO215 BK199 BK200 BK212 BK216 HB hHeld ⊢
     refine take_ (i := 0) (N := some 30) (v := ?_) (a' := ?_) #[true, false, false, false, false, false] rfl rfl (by kernel_rfl) (fun _ _ _ h => h) (Or.inl ⟨by rfl, ?_⟩) hHeld ?_ ?_
     rotate_left
     ·rintro w' ⟨s0, s1, s2, s3⟩
      go_simp
      with_reducible rfl
     rotate_left
     ·simp only [Act.put, List.setIfInBounds_toArray, List.set_cons_zero, List.set_cons_succ, i64_w, i32_w]
      rfl
     refine take_ (i := 1) (N := some 31) (v := ?_) (a' := ?_) #[true, true, false, false, false, false] rfl rfl (by kernel_rfl) (fun _ _ _ h => h) (Or.inl ⟨by rfl, ?_⟩) hHeld ?_ ?_
     rotate_left
     ·rintro w' ⟨s0, s1, s2, s3⟩
      go_simp
      with_reducible rfl
     rotate_left
     ·simp only [Act.put, List.setIfInBounds_toArray, List.set_cons_zero, List.set_cons_succ, i64_w, i32_w]
      rfl
     refine join_ (σ := Value × Nat) 1 bq_22 (fun s_ => [(32, .agg #[.string t217, .bool t218, .string t219]), (33, .agg #[s_.1]), (8, .pointer (some ⟨s_.2, 0, none⟩))]) (fun s_ w' => (w'.cell? ⟨gb216, 0, none⟩ = some (.slice Ao39 t213.length co39) ∧ w'.cell? ⟨gb200, 0, none⟩ = some (.string a1_0) ∧ w'.cell? ⟨gb200, 1, none⟩ = some (.bool a1_1) ∧ w'.cell? ⟨gb200, 2, none⟩ = some (.string a1_2)) ∧ (Kd.R k38 38 w' w.heap.size (fun k_ => some k_ ≠ (.slice Ao32 t209.length co32 : Value).ownBlock ∧ some k_ ≠ (.slice Ao39 t213.length co39 : Value).ownBlock ∧ some k_ ≠ (s_.1 : Value).ownBlock) v204 t203) ∧ (Kd.R k38 38 w' w.heap.size (fun k_ => some k_ ≠ (v204 : Value).ownBlock ∧ some k_ ≠ (.slice Ao39 t213.length co39 : Value).ownBlock ∧ some k_ ≠ (s_.1 : Value).ownBlock) (.slice Ao32 t209.length co32) t209) ∧ (Kd.R k38 38 w' w.heap.size (fun k_ => some k_ ≠ (v204 : Value).ownBlock ∧ some k_ ≠ (.slice Ao32 t209.length co32 : Value).ownBlock ∧ some k_ ≠ (s_.1 : Value).ownBlock) (.slice Ao39 t213.length co39) t213) ∧ (Kd.R k38 38 w' w.heap.size (fun k_ => some k_ ≠ (v204 : Value).ownBlock ∧ some k_ ≠ (.slice Ao32 t209.length co32 : Value).ownBlock ∧ some k_ ≠ (.slice Ao39 t213.length co39 : Value).ownBlock) s_.1 t220) ∧ (w'.heap[gb199]? = some (.cells #[.slice A0_0 l0_0.length c0_0] 24 (0, 0))) ∧ (w'.heap[gb200]? = some (.cells #[.string a1_0, .bool a1_1, .string a1_2] 35 (0, 0))) ∧ (w'.heap[gb212]? = some (.cells #[.slice Ao32 t209.length co32] 28 (0, 0))) ∧ (w'.heap[gb216]? = some (.cells #[.slice Ao39 t213.length co39] 28 (0, 0))) ∧ (w'.heap[s_.2]? = some (.cells #[.slice none 0 0] 28 (0, 0))) ∧ (w.heap.size ≤ s_.2) ∧ (w.heap.size ≤ s_.2) ∧ (gb199 ≠ s_.2) ∧ (s_.2 ≠ gb199) ∧ (gb200 ≠ s_.2) ∧ (s_.2 ≠ gb200) ∧ (gb212 ≠ s_.2) ∧ (s_.2 ≠ gb212) ∧ (gb216 ≠ s_.2) ∧ (s_.2 ≠ gb216) ∧ (Below w.heap.size w w')) ?_ ?_
     rotate_left
     ·intro hCont
      refine two_ (i := 2) (j := 4) (Ni := some 32) (Nj := some 8) #[true, true, true, false, false, false] #[true, true, false, false, true, false] rfl rfl rfl rfl (by kernel_rfl) (by decide) (by decide) (fun K hK => ?_) (fun K hK => ?_)
      ·skip
       refine goes_ Try.func24 (by kernel_rfl) rfl #[.agg #[.string a1_0, .bool a1_1, .string a1_2]] (by rfl) rfl rfl tq_4 ?_
       with_reducible refine (laws_toItem.calls a1_0 a1_1 a1_2 t217 t218 t219 _ A21.out).mono ?_
       rintro e w46 ⟨rfl, hb⟩
       refine ⟨_, rfl, ?_⟩
       have n0_ := Aside0.mk (Kd.R_below tq_18 hb)
       have n1_ := Aside0.mk (Kd.R_below tq_31 hb)
       have n2_ := Aside0.mk (Kd.R_below tq_32 hb)
       have n3_ := Aside0.mk (blk_below tq_1 hb)
       have n4_ := Aside0.mk (blk_below tq_2 hb)
       have n5_ := Aside0.mk (blk_below tq_5 hb)
       have n6_ := Aside0.mk (blk_below tq_6 hb)
       have n7_ := Aside0.mk (below_step tq_12 hb)
       clear HO205 HO211 HO215 BK199 BK200 BK212 BK216 HB
       have HO205 := n0_
       have HO211 := n1_
       have HO215 := n2_
       have BK199 := n3_
       have BK200 := n4_
       have BK212 := n5_
       have BK216 := n6_
       have HB := n7_
       clear n0_ n1_ n2_ n3_ n4_ n5_ n6_ n7_
       (try clear hb)
       (try clear hb2)
       (try clear hk)
       (try clear hi)
       refine hK.out _ _ ⟨(blk_cell BK216.out 0).trans rfl, (blk_cell BK200.out 0).trans rfl, (blk_cell BK200.out 1).trans rfl, (blk_cell BK200.out 2).trans rfl⟩ (fun hHeld => ?_)
       clear hK K
       refine norm_ (a' := ?_) ?_ ?_
       rotate_left
       ·show Act.put _ (some 32) _ = _
        simp only [Act.put, List.setIfInBounds_toArray, List.set_cons_zero, List.set_cons_succ, i64_w, i32_w]
        rfl
       refine two_ (i := 3) (j := 4) (Ni := some 33) (Nj := some 8) #[true, true, true, true, false, false] #[true, true, true, false, true, false] rfl rfl rfl rfl (by kernel_rfl) (by decide) (by decide) (fun K hK => ?_) (fun K hK => ?_)
       ·skip
        refine goes_ Try.func25 (by kernel_rfl) rfl #[.agg #[.slice Ao39 t213.length co39], .agg #[.string t217, .bool t218, .string t219]] (by rfl) rfl rfl tq_4 ?_
        with_reducible refine (impl_PutItem.calls _ _ t213 t217 t218 t219 t220 _ ?side1 ?side2 A22.out).mono ?_
        (case side1 => exact tq_72)
        (case side2 => exact (Kd.R_reads' HO215.out).2.1)
        rintro e w47 ⟨v221, rfl, ho0, hb⟩
        refine ⟨_, rfl, ?_⟩
        have n0_ := Aside0.mk (Kd.R_elder' tq_18 (Kd.R_base ho0) hb)
        have n1_ := Aside0.mk (Kd.R_elder' tq_31 (Kd.R_base ho0) hb)
        have n2_ := Aside0.mk (Kd.R_elder' tq_32 (Kd.R_base ho0) hb)
        have n3_ := Aside0.mk (Kd.R_lower (Kd.R_new' (Kd.R_new' (Kd.R_new' ho0 (Kd.R_lt tq_18)) (Kd.R_lt tq_31)) (Kd.R_lt tq_32)) (below_size tq_12))
        have n4_ := Aside0.mk (blk_below tq_1 hb)
        have n5_ := Aside0.mk (blk_below tq_2 hb)
        have n6_ := Aside0.mk (blk_below tq_5 hb)
        have n7_ := Aside0.mk (blk_below tq_6 hb)
        have n8_ := Aside0.mk (below_step tq_12 hb)
        clear HO205 HO211 HO215 BK199 BK200 BK212 BK216 HB
        have HO205 := n0_
        have HO211 := n1_
        have HO215 := n2_
        have HO222 := n3_
        have BK199 := n4_
        have BK200 := n5_
        have BK212 := n6_
        have BK216 := n7_
        have HB := n8_
        clear n0_ n1_ n2_ n3_ n4_ n5_ n6_ n7_ n8_
        (try clear hb)
        (try clear hb2)
        (try clear hk)
        (try clear hi)
        (try clear ho0)
        refine hK.out _ _ ⟨(blk_cell BK216.out 0).trans rfl, (blk_cell BK200.out 0).trans rfl, (blk_cell BK200.out 1).trans rfl, (blk_cell BK200.out 2).trans rfl⟩ (fun hHeld => ?_)
        clear hK K
        refine norm_ (a' := ?_) ?_ ?_
        rotate_left
        ·show Act.put _ (some 33) _ = _
         simp only [Act.put, List.setIfInBounds_toArray, List.set_cons_zero, List.set_cons_succ, i64_w, i32_w]
         rfl
        refine one_ (i := 4) (N := some 8) bq_22 rfl rfl (by kernel_rfl) (by decide) (fun K hK => ?_)
        refine box_step ?hg (N := 8) ?hd (cs := #[.slice none 0 0]) (t := 28) ?hr ?_; (case hd => rfl); (case hg => rfl); (case hr => first | (go_simp; done) | (go_simp; rfl))
        intro gb223 hg w48 hbox hb
        have n0_ := Aside0.mk (Kd.R_below tq_18 hb)
        have n1_ := Aside0.mk (Kd.R_below tq_31 hb)
        have n2_ := Aside0.mk (Kd.R_below tq_32 hb)
        have n3_ := Aside0.mk (Kd.R_below (by (with_reducible repeat (first | apply Kd.R_alloc | apply Kd.R_drewN | apply Kd.R_drew)); exact HO222.out) hb)
        have n4_ := Aside0.mk (blk_below tq_1 hb)
        have n5_ := Aside0.mk (blk_below tq_2 hb)
        have n6_ := Aside0.mk (blk_below tq_5 hb)
        have n7_ := Aside0.mk (blk_below tq_6 hb)
        have n8_ := Aside0.mk (below_step tq_12 hb)
        have n9_ := Aside0.mk (hbox)
        have n10_ := Aside0.mk (gb_ hg tq_12)
        have n11_ := Aside0.mk (gb_ hg tq_12)
        have n12_ := Aside0.mk (ltne_ hg (blk_lt tq_1))
        have n13_ := Aside0.mk (gtne_ hg (blk_lt tq_1))
        have n14_ := Aside0.mk (ltne_ hg (blk_lt tq_2))
        have n15_ := Aside0.mk (gtne_ hg (blk_lt tq_2))
        have n16_ := Aside0.mk (ltne_ hg (blk_lt tq_5))
        have n17_ := Aside0.mk (gtne_ hg (blk_lt tq_5))
        have n18_ := Aside0.mk (ltne_ hg (blk_lt tq_6))
        have n19_ := Aside0.mk (gtne_ hg (blk_lt tq_6))
        clear HO205 HO211 HO215 HO222 BK199 BK200 BK212 BK216 HB
        have HO205 := n0_
        have HO211 := n1_
        have HO215 := n2_
        have HO222 := n3_
        have BK199 := n4_
        have BK200 := n5_
        have BK212 := n6_
        have BK216 := n7_
        have HB := n8_
        have BK223 := n9_
        have GW223 := n10_
        have GE223 := n11_
        have NB199_223 := n12_
        have NB223_199 := n13_
        have NB200_223 := n14_
        have NB223_200 := n15_
        have NB212_223 := n16_
        have NB223_212 := n17_
        have NB216_223 := n18_
        have NB223_216 := n19_
        clear n0_ n1_ n2_ n3_ n4_ n5_ n6_ n7_ n8_ n9_ n10_ n11_ n12_ n13_ n14_ n15_ n16_ n17_ n18_ n19_ hb hbox hg
        refine hK.out _ _ ⟨(blk_cell BK216.out 0).trans rfl, (blk_cell BK200.out 0).trans rfl, (blk_cell BK200.out 1).trans rfl, (blk_cell BK200.out 2).trans rfl⟩ (fun hHeld => ?_)
        clear hK K
        refine norm_ (a' := ?_) ?_ ?_
        rotate_left
        ·show Act.put _ (some 8) _ = _
         simp only [Act.put, List.setIfInBounds_toArray, List.set_cons_zero, List.set_cons_succ, i64_w, i32_w]
         rfl
        exact norm_ tq_34 (hCont (v221, gb223) _ ⟨hHeld, tq_76, tq_75, tq_74, tq_73, tq_1, tq_2, tq_5, tq_6, tq_8, GW223.out, GE223.out, NB199_223.out, NB223_199.out, NB200_223.out, NB223_200.out, NB212_223.out, NB223_212.out, NB216_223.out, NB223_216.out, tq_3⟩)
       ·skip
        refine box_step ?hg (N := 8) ?hd (cs := #[.slice none 0 0]) (t := 28) ?hr ?_; (case hd => rfl); (case hg => rfl); (case hr => first | (go_simp; done) | (go_simp; rfl))
        intro gb223 hg w47 hbox hb
        have n0_ := Aside0.mk (Kd.R_below tq_18 hb)
        have n1_ := Aside0.mk (Kd.R_below tq_31 hb)
        have n2_ := Aside0.mk (Kd.R_below tq_32 hb)
        have n3_ := Aside0.mk (blk_below tq_1 hb)
        have n4_ := Aside0.mk (blk_below tq_2 hb)
        have n5_ := Aside0.mk (blk_below tq_5 hb)
        have n6_ := Aside0.mk (blk_below tq_6 hb)
        have n7_ := Aside0.mk (below_step tq_12 hb)
        have n8_ := Aside0.mk (hbox)
        have n9_ := Aside0.mk (gb_ hg tq_12)
        have n10_ := Aside0.mk (gb_ hg tq_12)
        have n11_ := Aside0.mk (ltne_ hg (blk_lt tq_1))
        have n12_ := Aside0.mk (gtne_ hg (blk_lt tq_1))
        have n13_ := Aside0.mk (ltne_ hg (blk_lt tq_2))
        have n14_ := Aside0.mk (gtne_ hg (blk_lt tq_2))
        have n15_ := Aside0.mk (ltne_ hg (blk_lt tq_5))
        have n16_ := Aside0.mk (gtne_ hg (blk_lt tq_5))
        have n17_ := Aside0.mk (ltne_ hg (blk_lt tq_6))
        have n18_ := Aside0.mk (gtne_ hg (blk_lt tq_6))
        clear HO205 HO211 HO215 BK199 BK200 BK212 BK216 HB
        have HO205 := n0_
        have HO211 := n1_
        have HO215 := n2_
        have BK199 := n3_
        have BK200 := n4_
        have BK212 := n5_
        have BK216 := n6_
        have HB := n7_
        have BK223 := n8_
        have GW223 := n9_
        have GE223 := n10_
        have NB199_223 := n11_
        have NB223_199 := n12_
        have NB200_223 := n13_
        have NB223_200 := n14_
        have NB212_223 := n15_
        have NB223_212 := n16_
        have NB216_223 := n17_
        have NB223_216 := n18_
        clear n0_ n1_ n2_ n3_ n4_ n5_ n6_ n7_ n8_ n9_ n10_ n11_ n12_ n13_ n14_ n15_ n16_ n17_ n18_ hb hbox hg
        refine hK.out _ _ ⟨(blk_cell BK216.out 0).trans rfl, (blk_cell BK200.out 0).trans rfl, (blk_cell BK200.out 1).trans rfl, (blk_cell BK200.out 2).trans rfl⟩ (fun hHeld => ?_)
        clear hK K
        refine norm_ (a' := ?_) ?_ ?_
        rotate_left
        ·show Act.put _ (some 8) _ = _
         simp only [Act.put, List.setIfInBounds_toArray, List.set_cons_zero, List.set_cons_succ, i64_w, i32_w]
         rfl
        refine one_ (i := 3) (N := some 33) bq_22 rfl rfl (by kernel_rfl) (by decide) (fun K hK => ?_)
        refine goes_ Try.func25 (by kernel_rfl) rfl #[.agg #[.slice Ao39 t213.length co39], .agg #[.string t217, .bool t218, .string t219]] (by rfl) rfl rfl tq_4 ?_
        with_reducible refine (impl_PutItem.calls _ _ t213 t217 t218 t219 t220 _ ?side1 ?side2 A22.out).mono ?_
        (case side1 => exact tq_72)
        (case side2 => exact (Kd.R_reads' HO215.out).2.1)
        rintro e w48 ⟨v221, rfl, ho0, hb⟩
        refine ⟨_, rfl, ?_⟩
        have n0_ := Aside0.mk (Kd.R_elder' tq_18 (Kd.R_base ho0) hb)
        have n1_ := Aside0.mk (Kd.R_elder' tq_31 (Kd.R_base ho0) hb)
        have n2_ := Aside0.mk (Kd.R_elder' tq_32 (Kd.R_base ho0) hb)
        have n3_ := Aside0.mk (Kd.R_lower (Kd.R_new' (Kd.R_new' (Kd.R_new' ho0 (Kd.R_lt tq_18)) (Kd.R_lt tq_31)) (Kd.R_lt tq_32)) (below_size tq_3))
        have n4_ := Aside0.mk (blk_below tq_1 hb)
        have n5_ := Aside0.mk (blk_below tq_2 hb)
        have n6_ := Aside0.mk (blk_below tq_5 hb)
        have n7_ := Aside0.mk (blk_below tq_6 hb)
        have n8_ := Aside0.mk (blk_below tq_8 hb)
        have n9_ := Aside0.mk (below_step tq_3 hb)
        clear HO205 HO211 HO215 BK199 BK200 BK212 BK216 BK223 HB
        have HO205 := n0_
        have HO211 := n1_
        have HO215 := n2_
        have HO222 := n3_
        have BK199 := n4_
        have BK200 := n5_
        have BK212 := n6_
        have BK216 := n7_
        have BK223 := n8_
        have HB := n9_
        clear n0_ n1_ n2_ n3_ n4_ n5_ n6_ n7_ n8_ n9_
        (try clear hb)
        (try clear hb2)
        (try clear hk)
        (try clear hi)
        (try clear ho0)
        refine hK.out _ _ ⟨(blk_cell BK216.out 0).trans rfl, (blk_cell BK200.out 0).trans rfl, (blk_cell BK200.out 1).trans rfl, (blk_cell BK200.out 2).trans rfl⟩ (fun hHeld => ?_)
        clear hK K
        refine norm_ (a' := ?_) ?_ ?_
        rotate_left
        ·show Act.put _ (some 33) _ = _
         simp only [Act.put, List.setIfInBounds_toArray, List.set_cons_zero, List.set_cons_succ, i64_w, i32_w]
         rfl
        exact norm_ tq_34 (hCont (v221, gb223) _ ⟨hHeld, tq_76, tq_75, tq_74, tq_73, tq_1, tq_2, tq_5, tq_6, tq_8, GW223.out, GE223.out, NB199_223.out, NB223_199.out, NB200_223.out, NB223_200.out, NB212_223.out, NB223_212.out, NB216_223.out, NB223_216.out, tq_3⟩)
      ·skip
       refine box_step ?hg (N := 8) ?hd (cs := #[.slice none 0 0]) (t := 28) ?hr ?_; (case hd => rfl); (case hg => rfl); (case hr => first | (go_simp; done) | (go_simp; rfl))
       intro gb223 hg w46 hbox hb
       have n0_ := Aside0.mk (Kd.R_below tq_18 hb)
       have n1_ := Aside0.mk (Kd.R_below tq_31 hb)
       have n2_ := Aside0.mk (Kd.R_below tq_32 hb)
       have n3_ := Aside0.mk (blk_below tq_1 hb)
       have n4_ := Aside0.mk (blk_below tq_2 hb)
       have n5_ := Aside0.mk (blk_below tq_5 hb)
       have n6_ := Aside0.mk (blk_below tq_6 hb)
       have n7_ := Aside0.mk (below_step tq_12 hb)
       have n8_ := Aside0.mk (hbox)
       have n9_ := Aside0.mk (gb_ hg tq_12)
       have n10_ := Aside0.mk (gb_ hg tq_12)
       have n11_ := Aside0.mk (ltne_ hg (blk_lt tq_1))
       have n12_ := Aside0.mk (gtne_ hg (blk_lt tq_1))
       have n13_ := Aside0.mk (ltne_ hg (blk_lt tq_2))
       have n14_ := Aside0.mk (gtne_ hg (blk_lt tq_2))
       have n15_ := Aside0.mk (ltne_ hg (blk_lt tq_5))
       have n16_ := Aside0.mk (gtne_ hg (blk_lt tq_5))
       have n17_ := Aside0.mk (ltne_ hg (blk_lt tq_6))
       have n18_ := Aside0.mk (gtne_ hg (blk_lt tq_6))
       clear HO205 HO211 HO215 BK199 BK200 BK212 BK216 HB
       have HO205 := n0_
       have HO211 := n1_
       have HO215 := n2_
       have BK199 := n3_
       have BK200 := n4_
       have BK212 := n5_
       have BK216 := n6_
       have HB := n7_
       have BK223 := n8_
       have GW223 := n9_
       have GE223 := n10_
       have NB199_223 := n11_
       have NB223_199 := n12_
       have NB200_223 := n13_
       have NB223_200 := n14_
       have NB212_223 := n15_
       have NB223_212 := n16_
       have NB216_223 := n17_
       have NB223_216 := n18_
       clear n0_ n1_ n2_ n3_ n4_ n5_ n6_ n7_ n8_ n9_ n10_ n11_ n12_ n13_ n14_ n15_ n16_ n17_ n18_ hb hbox hg
       refine hK.out _ _ ⟨(blk_cell BK216.out 0).trans rfl, (blk_cell BK200.out 0).trans rfl, (blk_cell BK200.out 1).trans rfl, (blk_cell BK200.out 2).trans rfl⟩ (fun hHeld => ?_)
       clear hK K
       refine norm_ (a' := ?_) ?_ ?_
       rotate_left
       ·show Act.put _ (some 8) _ = _
        simp only [Act.put, List.setIfInBounds_toArray, List.set_cons_zero, List.set_cons_succ, i64_w, i32_w]
        rfl
       refine one_ (i := 2) (N := some 32) #[true, true, true, false, true, false] rfl rfl (by kernel_rfl) (by decide) (fun K hK => ?_)
       refine goes_ Try.func24 (by kernel_rfl) rfl #[.agg #[.string a1_0, .bool a1_1, .string a1_2]] (by rfl) rfl rfl tq_4 ?_
       with_reducible refine (laws_toItem.calls a1_0 a1_1 a1_2 t217 t218 t219 _ A21.out).mono ?_
       rintro e w47 ⟨rfl, hb⟩
       refine ⟨_, rfl, ?_⟩
       have n0_ := Aside0.mk (Kd.R_below tq_18 hb)
       have n1_ := Aside0.mk (Kd.R_below tq_31 hb)
       have n2_ := Aside0.mk (Kd.R_below tq_32 hb)
       have n3_ := Aside0.mk (blk_below tq_1 hb)
       have n4_ := Aside0.mk (blk_below tq_2 hb)
       have n5_ := Aside0.mk (blk_below tq_5 hb)
       have n6_ := Aside0.mk (blk_below tq_6 hb)
       have n7_ := Aside0.mk (blk_below tq_8 hb)
       have n8_ := Aside0.mk (below_step tq_3 hb)
       clear HO205 HO211 HO215 BK199 BK200 BK212 BK216 BK223 HB
       have HO205 := n0_
       have HO211 := n1_
       have HO215 := n2_
       have BK199 := n3_
       have BK200 := n4_
       have BK212 := n5_
       have BK216 := n6_
       have BK223 := n7_
       have HB := n8_
       clear n0_ n1_ n2_ n3_ n4_ n5_ n6_ n7_ n8_
       (try clear hb)
       (try clear hb2)
       (try clear hk)
       (try clear hi)
       refine hK.out _ _ ⟨(blk_cell BK216.out 0).trans rfl, (blk_cell BK200.out 0).trans rfl, (blk_cell BK200.out 1).trans rfl, (blk_cell BK200.out 2).trans rfl⟩ (fun hHeld => ?_)
       clear hK K
       refine norm_ (a' := ?_) ?_ ?_
       rotate_left
       ·show Act.put _ (some 32) _ = _
        simp only [Act.put, List.setIfInBounds_toArray, List.set_cons_zero, List.set_cons_succ, i64_w, i32_w]
        rfl
       refine one_ (i := 3) (N := some 33) bq_22 rfl rfl (by kernel_rfl) (by decide) (fun K hK => ?_)
       refine goes_ Try.func25 (by kernel_rfl) rfl #[.agg #[.slice Ao39 t213.length co39], .agg #[.string t217, .bool t218, .string t219]] (by rfl) rfl rfl tq_4 ?_
       with_reducible refine (impl_PutItem.calls _ _ t213 t217 t218 t219 t220 _ ?side1 ?side2 A22.out).mono ?_
       (case side1 => exact tq_72)
       (case side2 => exact (Kd.R_reads' HO215.out).2.1)
       rintro e w48 ⟨v221, rfl, ho0, hb⟩
       refine ⟨_, rfl, ?_⟩
       have n0_ := Aside0.mk (Kd.R_elder' tq_18 (Kd.R_base ho0) hb)
       have n1_ := Aside0.mk (Kd.R_elder' tq_31 (Kd.R_base ho0) hb)
       have n2_ := Aside0.mk (Kd.R_elder' tq_32 (Kd.R_base ho0) hb)
       have n3_ := Aside0.mk (Kd.R_lower (Kd.R_new' (Kd.R_new' (Kd.R_new' ho0 (Kd.R_lt tq_18)) (Kd.R_lt tq_31)) (Kd.R_lt tq_32)) (below_size tq_3))
       have n4_ := Aside0.mk (blk_below tq_1 hb)
       have n5_ := Aside0.mk (blk_below tq_2 hb)
       have n6_ := Aside0.mk (blk_below tq_5 hb)
       have n7_ := Aside0.mk (blk_below tq_6 hb)
       have n8_ := Aside0.mk (blk_below tq_8 hb)
       have n9_ := Aside0.mk (below_step tq_3 hb)
       clear HO205 HO211 HO215 BK199 BK200 BK212 BK216 BK223 HB
       have HO205 := n0_
       have HO211 := n1_
       have HO215 := n2_
       have HO222 := n3_
       have BK199 := n4_
       have BK200 := n5_
       have BK212 := n6_
       have BK216 := n7_
       have BK223 := n8_
       have HB := n9_
       clear n0_ n1_ n2_ n3_ n4_ n5_ n6_ n7_ n8_ n9_
       (try clear hb)
       (try clear hb2)
       (try clear hk)
       (try clear hi)
       (try clear ho0)
       refine hK.out _ _ ⟨(blk_cell BK216.out 0).trans rfl, (blk_cell BK200.out 0).trans rfl, (blk_cell BK200.out 1).trans rfl, (blk_cell BK200.out 2).trans rfl⟩ (fun hHeld => ?_)
       clear hK K
       refine norm_ (a' := ?_) ?_ ?_
       rotate_left
       ·show Act.put _ (some 33) _ = _
        simp only [Act.put, List.setIfInBounds_toArray, List.set_cons_zero, List.set_cons_succ, i64_w, i32_w]
        rfl
       exact norm_ tq_34 (hCont (v221, gb223) _ ⟨hHeld, tq_76, tq_75, tq_74, tq_73, tq_1, tq_2, tq_5, tq_6, tq_8, GW223.out, GE223.out, NB199_223.out, NB223_199.out, NB200_223.out, NB223_200.out, NB212_223.out, NB223_212.out, NB216_223.out, NB223_216.out, tq_3⟩)
     rintro ⟨v221, gb223⟩ w49 ⟨hS_, h0_, h1_, h2_, h3_, h4_, h5_, h6_, h7_, h8_, h9_, h10_, h11_, h12_, h13_, h14_, h15_, h16_, h17_, h18_, h19_⟩
     have n0_ : Aside0 (Kd.R k38 38 w49 w.heap.size (fun k_ => some k_ ≠ (.slice Ao32 t209.length co32 : Value).ownBlock ∧ some k_ ≠ (.slice Ao39 t213.length co39 : Value).ownBlock ∧ some k_ ≠ (v221 : Value).ownBlock) v204 t203) := ⟨h0_⟩
     have n1_ : Aside0 (Kd.R k38 38 w49 w.heap.size (fun k_ => some k_ ≠ (v204 : Value).ownBlock ∧ some k_ ≠ (.slice Ao39 t213.length co39 : Value).ownBlock ∧ some k_ ≠ (v221 : Value).ownBlock) (.slice Ao32 t209.length co32) t209) := ⟨h1_⟩
     have n2_ : Aside0 (Kd.R k38 38 w49 w.heap.size (fun k_ => some k_ ≠ (v204 : Value).ownBlock ∧ some k_ ≠ (.slice Ao32 t209.length co32 : Value).ownBlock ∧ some k_ ≠ (v221 : Value).ownBlock) (.slice Ao39 t213.length co39) t213) := ⟨h2_⟩
     have n3_ : Aside0 (Kd.R k38 38 w49 w.heap.size (fun k_ => some k_ ≠ (v204 : Value).ownBlock ∧ some k_ ≠ (.slice Ao32 t209.length co32 : Value).ownBlock ∧ some k_ ≠ (.slice Ao39 t213.length co39 : Value).ownBlock) v221 t220) := ⟨h3_⟩
     have n4_ : Aside0 (w49.heap[gb199]? = some (.cells #[.slice A0_0 l0_0.length c0_0] 24 (0, 0))) := ⟨h4_⟩
     have n5_ : Aside0 (w49.heap[gb200]? = some (.cells #[.string a1_0, .bool a1_1, .string a1_2] 35 (0, 0))) := ⟨h5_⟩
     have n6_ : Aside0 (w49.heap[gb212]? = some (.cells #[.slice Ao32 t209.length co32] 28 (0, 0))) := ⟨h6_⟩
     have n7_ : Aside0 (w49.heap[gb216]? = some (.cells #[.slice Ao39 t213.length co39] 28 (0, 0))) := ⟨h7_⟩
     have n8_ : Aside0 (w49.heap[gb223]? = some (.cells #[.slice none 0 0] 28 (0, 0))) := ⟨h8_⟩
     have n9_ : Aside0 (w.heap.size ≤ gb223) := ⟨h9_⟩
     have n10_ : Aside0 (w.heap.size ≤ gb223) := ⟨h10_⟩
     have n11_ : Aside0 (gb199 ≠ gb223) := ⟨h11_⟩
     have n12_ : Aside0 (gb223 ≠ gb199) := ⟨h12_⟩
     have n13_ : Aside0 (gb200 ≠ gb223) := ⟨h13_⟩
     have n14_ : Aside0 (gb223 ≠ gb200) := ⟨h14_⟩
     have n15_ : Aside0 (gb212 ≠ gb223) := ⟨h15_⟩
     have n16_ : Aside0 (gb223 ≠ gb212) := ⟨h16_⟩
     have n17_ : Aside0 (gb216 ≠ gb223) := ⟨h17_⟩
     have n18_ : Aside0 (gb223 ≠ gb216) := ⟨h18_⟩
     have n19_ : Aside0 (Below w.heap.size w w49) := ⟨h19_⟩
     clear HO205 HO211 HO215 BK199 BK200 BK212 BK216 HB h0_ h1_ h2_ h3_ h4_ h5_ h6_ h7_ h8_ h9_ h10_ h11_ h12_ h13_ h14_ h15_ h16_ h17_ h18_ h19_
     have HO205 := n0_
     have HO211 := n1_
     have HO215 := n2_
     have HO222 := n3_
     have BK199 := n4_
     have BK200 := n5_
     have BK212 := n6_
     have BK216 := n7_
     have BK223 := n8_
     have GW223 := n9_
     have GE223 := n10_
     have NB199_223 := n11_
     have NB223_199 := n12_
     have NB200_223 := n13_
     have NB223_200 := n14_
     have NB212_223 := n15_
     have NB223_212 := n16_
     have NB216_223 := n17_
     have NB223_216 := n18_
     have HB := n19_
     clear n0_ n1_ n2_ n3_ n4_ n5_ n6_ n7_ n8_ n9_ n10_ n11_ n12_ n13_ n14_ n15_ n16_ n17_ n18_ n19_
     have hHeld : w49.cell? ⟨gb216, 0, none⟩ = some (.slice Ao39 t213.length co39) ∧ w49.cell? ⟨gb200, 0, none⟩ = some (.string a1_0) ∧ w49.cell? ⟨gb200, 1, none⟩ = some (.bool a1_1) ∧ w49.cell? ⟨gb200, 2, none⟩ = some (.string a1_2) := hS_
     obtain ⟨Ao50, co50, eo50⟩ := Kd.R_slice HO222.out
     (first | subst eo50 | (injection eo50 with f1_ f2_ f3_; have f4_ := f1_.symm; have f5_ := f3_.symm; clear f1_ f2_ f3_; subst f4_; subst f5_))
     refine norm_ (a' := ?_) ?_ ?_
     rotate_left
     ·simp only [putAll, Act.put, List.setIfInBounds_toArray, List.set_cons_zero, List.set_cons_succ]
      rfl
     refine one_ (i := 5) (N := none) #[true, true, true, true, true, true] rfl rfl (by kernel_rfl) (by decide) (fun K hK => ?_)
     have hs51 : w49.cell? ⟨gb223, 0, none⟩ = some (.slice none 0 0) := (blk_cell BK223.out 0).trans rfl
     have hfs51 := blk_frozen BK223.out 0
     have hns51_0 := NB199_223.out
     have hns51_1 := NB200_223.out
     have hns51_2 := NB212_223.out
     have hns51_3 := NB216_223.out
     have hms51_0 := NB223_199.out
     have hms51_1 := NB223_200.out
     have hms51_2 := NB223_212.out
     have hms51_3 := NB223_216.out
     refine skip_ (w1 := ?_) (by rfl) rfl ?_ ?_
     rotate_left
     ·go_simp
      rfl
     refine hK.out _ _ ⟨((cell_far (p := ⟨gb223, _, none⟩) NB216_223.out _).trans (hHeld.1)), ((cell_far (p := ⟨gb223, _, none⟩) NB200_223.out _).trans (hHeld.2.1)), ((cell_far (p := ⟨gb223, _, none⟩) NB200_223.out _).trans (hHeld.2.2.1)), ((cell_far (p := ⟨gb223, _, none⟩) NB200_223.out _).trans (hHeld.2.2.2))⟩ (fun hHeld => ?_)
     clear hK K
     refine done_ (by kernel_rfl) ?_
     have hnb52 := NB223_199.out
     have hnc52 := NB199_223.out
     have hnb53 := NB223_200.out
     have hnc53 := NB200_223.out
     have hnb54 := NB223_212.out
     have hnc54 := NB212_223.out
     have hnb55 := NB223_216.out
     have hnc55 := NB216_223.out
     have hcz56_0 := bc_ BK223.out 0
     have hfz56_0 := blk_frozen BK223.out 0
     have hnb57 := NB212_200.out
     have hnc57 := NB200_212.out
     have hcz58_0 := bc_ BK212.out 0
     have hfz58_0 := blk_frozen BK212.out 0
     go_upto_if 37 with (first | ((with_reducible refine gate_callee (f := 19) rfl ?_); refine goesL_ (some 36) rfl rfl Try.func19 (by kernel_rfl) rfl #[.agg #[.slice Ao50 t220.length co50], .agg #[.slice Ao32 t209.length co32]] rfl tq_4 ?_; (with_reducible refine (laws_eqView.calls kj11 _ _ t220 _ _ t209 t224 _ ?side1 ?side2 ?side3 ?side4 A23.out).mono ?_); (case side1 => refine (Kd.R_reads' (e := 38) (base := w.heap.size) (ok := fun k_ => (some k_ ≠ (v204 : Value).ownBlock ∧ (some k_ ≠ (.slice Ao32 t209.length co32 : Value).ownBlock ∧ some k_ ≠ (.slice Ao39 t213.length co39 : Value).ownBlock))) (n := t220.length) (c := co50) ?_).2.2; exact tq_81); (case side2 => exact (Kd.R_reads' HO222.out).2.1); (case side3 => refine (Kd.R_reads' (e := 38) (base := w.heap.size) (ok := fun k_ => (some k_ ≠ (v204 : Value).ownBlock ∧ (some k_ ≠ (.slice Ao39 t213.length co39 : Value).ownBlock ∧ some k_ ≠ (.slice Ao50 t220.length co50 : Value).ownBlock))) (n := t209.length) (c := co32) ?_).2.2; exact tq_82); (case side4 => exact (Kd.R_reads' HO211.out).2.1); rintro e w59 ⟨rfl, hb⟩; refine ⟨_, rfl, ?_⟩; have n0_ := Aside0.mk (Kd.R_below (by (with_reducible repeat (first | apply Kd.R_alloc | apply Kd.R_drewN | apply Kd.R_drew)); exact (Kd.R_mono (Kd.R_far (p := ⟨gb223, 0, none⟩) (Kd.R_types HO205.out BK223.out (by decide)) (fun _ hk => hk.2) (.slice Ao50 t220.length co50)) (fun _ h_ => h_.1))) hb); have n1_ := Aside0.mk (Kd.R_below tq_82 hb); have n2_ := Aside0.mk (Kd.R_below (by (with_reducible repeat (first | apply Kd.R_alloc | apply Kd.R_drewN | apply Kd.R_drew)); exact (Kd.R_mono (Kd.R_far (p := ⟨gb223, 0, none⟩) (Kd.R_types HO215.out BK223.out (by decide)) (fun _ hk => hk.2) (.slice Ao50 t220.length co50)) (fun _ h_ => h_.1))) hb); have n3_ := Aside0.mk (Kd.R_below tq_81 hb); have n4_ := Aside0.mk (blk_below (g := gb199) (o := .cells #[.slice A0_0 l0_0.length c0_0] 24 (0, 0)) (by (with_reducible repeat (first | refine blk_drewN ?_ _ | refine blk_drew ?_ | refine blk_alloc ?_ _)); refine blk_far ?_ NB199_223.out _; (with_reducible repeat (first | refine blk_drewN ?_ _ | refine blk_drew ?_ | refine blk_alloc ?_ _)); exact BK199.out) hb); have n5_ := Aside0.mk (blk_below (g := gb200) (o := .cells #[.string a1_0, .bool a1_1, .string a1_2] 35 (0, 0)) (by (with_reducible repeat (first | refine blk_drewN ?_ _ | refine blk_drew ?_ | refine blk_alloc ?_ _)); refine blk_far ?_ NB200_223.out _; (with_reducible repeat (first | refine blk_drewN ?_ _ | refine blk_drew ?_ | refine blk_alloc ?_ _)); exact BK200.out) hb); have n6_ := Aside0.mk (blk_below (g := gb212) (o := .cells #[.slice Ao32 t209.length co32] 28 (0, 0)) (by (with_reducible repeat (first | refine blk_drewN ?_ _ | refine blk_drew ?_ | refine blk_alloc ?_ _)); refine blk_far ?_ NB212_223.out _; (with_reducible repeat (first | refine blk_drewN ?_ _ | refine blk_drew ?_ | refine blk_alloc ?_ _)); exact BK212.out) hb); have n7_ := Aside0.mk (blk_below (g := gb216) (o := .cells #[.slice Ao39 t213.length co39] 28 (0, 0)) (by (with_reducible repeat (first | refine blk_drewN ?_ _ | refine blk_drew ?_ | refine blk_alloc ?_ _)); refine blk_far ?_ NB216_223.out _; (with_reducible repeat (first | refine blk_drewN ?_ _ | refine blk_drew ?_ | refine blk_alloc ?_ _)); exact BK216.out) hb); have n8_ := Aside0.mk (blk_below (g := gb223) (o := .cells #[.slice Ao50 t220.length co50] 28 (0, 0)) (by (with_reducible repeat (first | refine blk_drewN ?_ _ | refine blk_drew ?_ | refine blk_alloc ?_ _)); refine blk_put (cs := #[.slice none 0 0]) ?_ 0 _ rfl; (with_reducible repeat (first | refine blk_drewN ?_ _ | refine blk_drew ?_ | refine blk_alloc ?_ _)); exact BK223.out) hb); have n9_ := Aside0.mk (below_step tq_3 hb); clear HO205 HO211 HO215 HO222 BK199 BK200 BK212 BK216 BK223 HB; have HO205 := n0_; have HO211 := n1_; have HO215 := n2_; have HO222 := n3_; have BK199 := n4_; have BK200 := n5_; have BK212 := n6_; have BK216 := n7_; have BK223 := n8_; have HB := n9_; clear n0_ n1_ n2_ n3_ n4_ n5_ n6_ n7_ n8_ n9_; (try clear hb); (try clear hb2); (try clear hk); (try clear hi)))
     (try simp only [Act.put, List.setIfInBounds_toArray, List.set_cons_zero, List.set_cons_succ])
     go_cut [] (fun wc => ∃ (kq : Nat), Aside0 (laws_FnExactPutItem.j2 kq l0_0 a1_0 a1_1 a1_2 t209 t213 t220 = some r) ∧ Aside0 (kq ≤ kj11) ∧ Aside0 (Kd.R k38 38 wc w.heap.size (fun k_ => some k_ ≠ ((.slice Ao39 t213.length co39) : Value).ownBlock ∧ some k_ ≠ ((.slice Ao50 t220.length co50) : Value).ownBlock) (.slice Ao32 t209.length co32) t209) ∧ Aside0 (Kd.R k38 38 wc w.heap.size (fun k_ => some k_ ≠ ((.slice Ao32 t209.length co32) : Value).ownBlock ∧ some k_ ≠ ((.slice Ao50 t220.length co50) : Value).ownBlock) (.slice Ao39 t213.length co39) t213) ∧ Aside0 (Kd.R k38 38 wc w.heap.size (fun k_ => some k_ ≠ ((.slice Ao32 t209.length co32) : Value).ownBlock ∧ some k_ ≠ ((.slice Ao39 t213.length co39) : Value).ownBlock) (.slice Ao50 t220.length co50) t220) ∧ Aside0 (wc.heap[gb199]? = some (.cells #[(.slice A0_0 l0_0.length c0_0)] 24 (0, 0))) ∧ Aside0 (wc.heap[gb200]? = some (.cells #[.string a1_0, .bool a1_1, .string a1_2] 35 (0, 0))) ∧ Aside0 (wc.heap[gb212]? = some (.cells #[(.slice Ao32 t209.length co32)] 28 (0, 0))) ∧ Aside0 (wc.heap[gb216]? = some (.cells #[(.slice Ao39 t213.length co39)] 28 (0, 0))) ∧ Aside0 (wc.heap[gb223]? = some (.cells #[(.slice Ao50 t220.length co50)] 28 (0, 0))) ∧ Aside0 (Below w.heap.size w wc))
     case first =>
      have H := HC24.out
      clear HC24
      by_cases c60 : t224 = true
      ·subst c60
       have H1 : (laws_FnExactPutItem.j2 kj11 l0_0 a1_0 a1_1 a1_2 t209 t213 t220) = some r := by rw [if_pos rfl] at H; exact H
       clear H
       have H := H1
       clear H1
       have H' := Aside0.mk H
       clear H
       go_wp2
       go_meet
       case rel => exact ⟨_, H', ⟨by have := HJ3.out; have := HJ11.out; first | omega | exact Nat.le_refl _⟩, ⟨by (with_reducible repeat (first | apply Kd.R_alloc | apply Kd.R_drewN | apply Kd.R_drew)); exact Kd.R_mono HO211.out (fun _ hk => ⟨hk.2.1, hk.2.2⟩)⟩, ⟨by (with_reducible repeat (first | apply Kd.R_alloc | apply Kd.R_drewN | apply Kd.R_drew)); exact Kd.R_mono HO215.out (fun _ hk => ⟨hk.2.1, hk.2.2⟩)⟩, ⟨by (with_reducible repeat (first | apply Kd.R_alloc | apply Kd.R_drewN | apply Kd.R_drew)); exact Kd.R_mono HO222.out (fun _ hk => ⟨hk.2.1, hk.2.2⟩)⟩, ⟨by (with_reducible repeat (first | refine blk_drewN ?_ _ | refine blk_drew ?_ | refine blk_alloc ?_ _)); exact BK199.out⟩, ⟨by (with_reducible repeat (first | refine blk_drewN ?_ _ | refine blk_drew ?_ | refine blk_alloc ?_ _)); exact BK200.out⟩, ⟨by (with_reducible repeat (first | refine blk_drewN ?_ _ | refine blk_drew ?_ | refine blk_alloc ?_ _)); exact BK212.out⟩, ⟨by (with_reducible repeat (first | refine blk_drewN ?_ _ | refine blk_drew ?_ | refine blk_alloc ?_ _)); exact BK216.out⟩, ⟨by (with_reducible repeat (first | refine blk_drewN ?_ _ | refine blk_drew ?_ | refine blk_alloc ?_ _)); exact BK223.out⟩, ⟨by repeat (first | (with_reducible first | exact HB.out | apply below_alloc | apply pw_below_drewN | apply below_drew1 | refine below_set ?_ GE199.out | refine below_set ?_ GE200.out | refine below_set ?_ GE212.out | refine below_set ?_ GE216.out | refine below_set ?_ GE223.out) | exact HB.out)⟩⟩
      ·replace c60 := Bool.eq_false_iff.mpr c60
       subst c60
       have H1 : (some false) = some r := by rw [if_neg (show ¬ (false = true) by decide)] at H; exact H
       clear H
       have H := H1
       clear H1
       obtain rfl := Option.some.inj H
       go_wp2
       go_ret
       exact ⟨by first | rfl | (simp [errW_none, errW_some] <;> rfl) | (simp [*, errW_none, errW_some] <;> rfl), by repeat (first | (with_reducible first | exact HB.out | apply below_alloc | apply pw_below_drewN | apply below_drew1 | refine below_set ?_ GE199.out | refine below_set ?_ GE200.out | refine below_set ?_ GE212.out | refine below_set ?_ GE216.out | refine below_set ?_ GE223.out) | exact HB.out)⟩
     case rest =>
      clear HC24
      try clear c1
      try clear c2
      try clear p2
      try clear c5
      try clear c6
      try clear c19
      try clear c24
      try clear c25
      try clear c52
      try clear c53
      try clear c54
      try clear c55
      try clear c57
      try clear c60
      try clear hcz56_0
      try clear hcz58_0
      try clear hfz56_0
      try clear hfz58_0
      obtain ⟨kq, HA, HJ23, HO_213000, HO_217000, HO_224000, BK199, BK200, BK212, BK216, BK223, HB⟩ := hcut
      cases kq with
      | zero => exact absurd HA.out (by simp [laws_FnExactPutItem.j2])
      | succ kj23 =>
       have H := HA.out
       clear HA
       simp only [laws_FnExactPutItem.j2] at H
       replace H := Option.bind_eq_some_iff.mp H
       obtain ⟨t225, A610, H⟩ := H
       replace H : ((laws_eqView.f kj23 t213 t225).bind fun t228 => (if t228 = true then (laws_FnExactPutItem.j3 kj23 l0_0 a1_0 a1_1 a1_2 t209 t213 t220) else (some false))) = some r := H
       have A61 := Aside0.mk A610
       clear A610
       replace H := Option.bind_eq_some_iff.mp H
       obtain ⟨t228, A620, H⟩ := H
       replace H : (if t228 = true then (laws_FnExactPutItem.j3 kj23 l0_0 a1_0 a1_1 a1_2 t209 t213 t220) else (some false)) = some r := H
       have A62 := Aside0.mk A620
       clear A620
       have HC63 := Aside0.mk H
       clear H
       try go_wp2
       have n0_ := Aside0.mk (Kd.R_drew HO_213000.out)
       have n1_ := Aside0.mk (Kd.R_drew HO_217000.out)
       have n2_ := Aside0.mk (Kd.R_drew HO_224000.out)
       have n3_ := Aside0.mk (blk_drew BK199.out)
       have n4_ := Aside0.mk (blk_drew BK200.out)
       have n5_ := Aside0.mk (blk_drew BK212.out)
       have n6_ := Aside0.mk (blk_drew BK216.out)
       have n7_ := Aside0.mk (blk_drew BK223.out)
       have n8_ := Aside0.mk (below_drew1 HB.out)
       clear HO_213000 HO_217000 HO_224000 BK199 BK200 BK212 BK216 BK223 HB
       have HO_213000 := n0_
       have HO_217000 := n1_
       have HO_224000 := n2_
       have BK199 := n3_
       have BK200 := n4_
       have BK212 := n5_
       have BK216 := n6_
       have BK223 := n7_
       have HB := n8_
       clear n0_ n1_ n2_ n3_ n4_ n5_ n6_ n7_ n8_
       refine start_ (n := 5) (S := fun w' => w'.cell? ⟨gb216, 0, none⟩ = some (.slice Ao39 t213.length co39) ∧ w'.cell? ⟨gb199, 0, none⟩ = some (.slice A0_0 l0_0.length c0_0)) (ds := []) #[false, false, false, false, false] (by kernel_rfl) rfl rfl ⟨(blk_cell BK216.out 0).trans rfl, (blk_cell BK199.out 0).trans rfl⟩ (fun hHeld => ?_)
       generalize wc.drew = w64 at HO_213000 HO_217000 HO_224000 BK199 BK200 BK212 BK216 BK223 HB hHeld ⊢
       refine take_ (i := 0) (N := some 38) (v := ?_) (a' := ?_) #[true, false, false, false, false] rfl rfl (by kernel_rfl) (fun _ _ _ h => h) (Or.inl ⟨by rfl, ?_⟩) hHeld ?_ ?_
       rotate_left
       ·rintro w' ⟨s0, s1⟩
        go_simp
        with_reducible rfl
       rotate_left
       ·simp only [Act.put, List.setIfInBounds_toArray, List.set_cons_zero, List.set_cons_succ, i64_w, i32_w]
        rfl
       refine take_ (i := 1) (N := some 39) (v := ?_) (a' := ?_) #[true, true, false, false, false] rfl rfl (by kernel_rfl) (fun _ _ _ h => h) (Or.inl ⟨by rfl, ?_⟩) hHeld ?_ ?_
       rotate_left
       ·rintro w' ⟨s0, s1⟩
        go_simp
        with_reducible rfl
       rotate_left
       ·simp only [Act.put, List.setIfInBounds_toArray, List.set_cons_zero, List.set_cons_succ, i64_w, i32_w]
        rfl
       refine one_ (i := 2) (N := some 40) #[true, true, true, false, false] rfl rfl (by kernel_rfl) (by decide) (fun K hK => ?_)
       refine goes_ Try.func17 (by kernel_rfl) rfl #[.agg #[.slice A0_0 l0_0.length c0_0]] (by rfl) rfl rfl tq_4 ?_
       with_reducible refine (laws_toView.calls kj23 _ _ l0_0 t225 _ ?side1 ?side2 A61.out).mono ?_
       (case side1 => exact tq_19)
       (case side2 => exact HC0_0.out)
       rintro e w65 ⟨v226, rfl, ho0, hb⟩
       refine ⟨_, rfl, ?_⟩
       have n0_ := Aside0.mk (Kd.R_elder' tq_15 (Kd.R_base ho0) hb)
       have n1_ := Aside0.mk (Kd.R_elder' tq_14 (Kd.R_base ho0) hb)
       have n2_ := Aside0.mk (Kd.R_elder' tq_13 (Kd.R_base ho0) hb)
       have n3_ := Aside0.mk (Kd.R_lower (Kd.R_new' (Kd.R_new' (Kd.R_new' ho0 (Kd.R_lt tq_15)) (Kd.R_lt tq_14)) (Kd.R_lt tq_13)) (below_size tq_3))
       have n4_ := Aside0.mk (blk_below tq_1 hb)
       have n5_ := Aside0.mk (blk_below tq_2 hb)
       have n6_ := Aside0.mk (blk_below tq_5 hb)
       have n7_ := Aside0.mk (blk_below tq_6 hb)
       have n8_ := Aside0.mk (blk_below tq_8 hb)
       have n9_ := Aside0.mk (below_step tq_3 hb)
       clear HO_213000 HO_217000 HO_224000 BK199 BK200 BK212 BK216 BK223 HB
       have HO_213000 := n0_
       have HO_217000 := n1_
       have HO_224000 := n2_
       have HO227 := n3_
       have BK199 := n4_
       have BK200 := n5_
       have BK212 := n6_
       have BK216 := n7_
       have BK223 := n8_
       have HB := n9_
       clear n0_ n1_ n2_ n3_ n4_ n5_ n6_ n7_ n8_ n9_
       (try clear hb)
       (try clear hb2)
       (try clear hk)
       (try clear hi)
       (try clear ho0)
       obtain ⟨Ao66, co66, eo66⟩ := Kd.R_slice HO227.out
       (first | subst eo66 | (injection eo66 with f1_ f2_ f3_; have f4_ := f1_.symm; have f5_ := f3_.symm; clear f1_ f2_ f3_; subst f4_; subst f5_))
       refine hK.out _ _ ⟨(blk_cell BK216.out 0).trans rfl, (blk_cell BK199.out 0).trans rfl⟩ (fun hHeld => ?_)
       clear hK K
       refine norm_ (a' := ?_) ?_ ?_
       rotate_left
       ·show Act.put _ (some 40) _ = _
        simp only [Act.put, List.setIfInBounds_toArray, List.set_cons_zero, List.set_cons_succ, i64_w, i32_w]
        rfl
       refine one_ (i := 3) (N := some 41) #[true, true, true, true, false] rfl rfl (by kernel_rfl) (by decide) (fun K hK => ?_)
       refine goes_ Try.func19 (by kernel_rfl) rfl #[.agg #[.slice Ao39 t213.length co39], .agg #[.slice Ao66 t225.length co66]] (by rfl) rfl rfl tq_4 ?_
       with_reducible refine (laws_eqView.calls kj23 _ _ t213 _ _ t225 t228 _ ?side1 ?side2 ?side3 ?side4 A62.out).mono ?_
       (case side1 => repeat (first | exact (Kd.R_reads' HO_217000.out).2.2 | (with_reducible refine Kd.C_alloc ?_ _) | (with_reducible refine Kd.C_drewN ?_ _) | (with_reducible refine Kd.C_drew ?_)))
       (case side2 => exact (Kd.R_reads' HO_217000.out).2.1)
       (case side3 => repeat (first | exact (Kd.R_reads' HO227.out).2.2 | (with_reducible refine Kd.C_alloc ?_ _) | (with_reducible refine Kd.C_drewN ?_ _) | (with_reducible refine Kd.C_drew ?_)))
       (case side4 => exact (Kd.R_reads' HO227.out).2.1)
       rintro e w67 ⟨rfl, hb⟩
       refine ⟨_, rfl, ?_⟩
       have n0_ := Aside0.mk (Kd.R_below tq_15 hb)
       have n1_ := Aside0.mk (Kd.R_below tq_14 hb)
       have n2_ := Aside0.mk (Kd.R_below tq_13 hb)
       have n3_ := Aside0.mk (Kd.R_below (by (with_reducible repeat (first | apply Kd.R_alloc | apply Kd.R_drewN | apply Kd.R_drew)); exact HO227.out) hb)
       have n4_ := Aside0.mk (blk_below tq_1 hb)
       have n5_ := Aside0.mk (blk_below tq_2 hb)
       have n6_ := Aside0.mk (blk_below tq_5 hb)
       have n7_ := Aside0.mk (blk_below tq_6 hb)
       have n8_ := Aside0.mk (blk_below tq_8 hb)
       have n9_ := Aside0.mk (below_step tq_3 hb)
       clear HO_213000 HO_217000 HO_224000 HO227 BK199 BK200 BK212 BK216 BK223 HB
       have HO_213000 := n0_
       have HO_217000 := n1_
       have HO_224000 := n2_
       have HO227 := n3_
       have BK199 := n4_
       have BK200 := n5_
       have BK212 := n6_
       have BK216 := n7_
       have BK223 := n8_
       have HB := n9_
       clear n0_ n1_ n2_ n3_ n4_ n5_ n6_ n7_ n8_ n9_
       (try clear hb)
       (try clear hb2)
       (try clear hk)
       (try clear hi)
       refine hK.out _ _ ⟨(blk_cell BK216.out 0).trans rfl, (blk_cell BK199.out 0).trans rfl⟩ (fun hHeld => ?_)
       clear hK K
       refine norm_ (a' := ?_) ?_ ?_
       rotate_left
       ·show Act.put _ (some 41) _ = _
        simp only [Act.put, List.setIfInBounds_toArray, List.set_cons_zero, List.set_cons_succ, i64_w, i32_w]
        rfl
       refine yq_ (i := 4) (N := some 42) #[true, true, true, true, true] (by kernel_rfl) ?_
       refine done_ (by kernel_rfl) ?_
       go_upto_if 42 with (fail)
       go_cut [] (fun wc => ∃ (kq : Nat), Aside0 (laws_FnExactPutItem.j3 kq l0_0 a1_0 a1_1 a1_2 t209 t213 t220 = some r) ∧ Aside0 (kq ≤ kj23) ∧ Aside0 (Kd.R k38 38 wc w.heap.size (fun k_ => some k_ ≠ ((.slice Ao39 t213.length co39) : Value).ownBlock ∧ some k_ ≠ ((.slice Ao50 t220.length co50) : Value).ownBlock) (.slice Ao32 t209.length co32) t209) ∧ Aside0 (Kd.R k38 38 wc w.heap.size (fun k_ => some k_ ≠ ((.slice Ao32 t209.length co32) : Value).ownBlock ∧ some k_ ≠ ((.slice Ao50 t220.length co50) : Value).ownBlock) (.slice Ao39 t213.length co39) t213) ∧ Aside0 (Kd.R k38 38 wc w.heap.size (fun k_ => some k_ ≠ ((.slice Ao32 t209.length co32) : Value).ownBlock ∧ some k_ ≠ ((.slice Ao39 t213.length co39) : Value).ownBlock) (.slice Ao50 t220.length co50) t220) ∧ Aside0 (wc.heap[gb199]? = some (.cells #[(.slice A0_0 l0_0.length c0_0)] 24 (0, 0))) ∧ Aside0 (wc.heap[gb200]? = some (.cells #[.string a1_0, .bool a1_1, .string a1_2] 35 (0, 0))) ∧ Aside0 (wc.heap[gb212]? = some (.cells #[(.slice Ao32 t209.length co32)] 28 (0, 0))) ∧ Aside0 (wc.heap[gb216]? = some (.cells #[(.slice Ao39 t213.length co39)] 28 (0, 0))) ∧ Aside0 (wc.heap[gb223]? = some (.cells #[(.slice Ao50 t220.length co50)] 28 (0, 0))) ∧ Aside0 (Below w.heap.size w wc))
       case first =>
        have H := HC63.out
        clear HC63
        by_cases c68 : t228 = true
        ·subst c68
         have H1 : (laws_FnExactPutItem.j3 kj23 l0_0 a1_0 a1_1 a1_2 t209 t213 t220) = some r := by rw [if_pos rfl] at H; exact H
         clear H
         have H := H1
         clear H1
         have H' := Aside0.mk H
         clear H
         go_wp2
         go_meet
         case rel => exact ⟨_, H', ⟨by have := HJ3.out; have := HJ11.out; have := HJ23.out; first | omega | exact Nat.le_refl _⟩, ⟨by (with_reducible repeat (first | apply Kd.R_alloc | apply Kd.R_drewN | apply Kd.R_drew)); exact Kd.R_mono HO_213000.out (fun _ hk => ⟨hk.1.1, hk.1.2⟩)⟩, ⟨by (with_reducible repeat (first | apply Kd.R_alloc | apply Kd.R_drewN | apply Kd.R_drew)); exact Kd.R_mono HO_217000.out (fun _ hk => ⟨hk.1.1, hk.1.2⟩)⟩, ⟨by (with_reducible repeat (first | apply Kd.R_alloc | apply Kd.R_drewN | apply Kd.R_drew)); exact Kd.R_mono HO_224000.out (fun _ hk => ⟨hk.1.1, hk.1.2⟩)⟩, ⟨by (with_reducible repeat (first | refine blk_drewN ?_ _ | refine blk_drew ?_ | refine blk_alloc ?_ _)); exact BK199.out⟩, ⟨by (with_reducible repeat (first | refine blk_drewN ?_ _ | refine blk_drew ?_ | refine blk_alloc ?_ _)); exact BK200.out⟩, ⟨by (with_reducible repeat (first | refine blk_drewN ?_ _ | refine blk_drew ?_ | refine blk_alloc ?_ _)); exact BK212.out⟩, ⟨by (with_reducible repeat (first | refine blk_drewN ?_ _ | refine blk_drew ?_ | refine blk_alloc ?_ _)); exact BK216.out⟩, ⟨by (with_reducible repeat (first | refine blk_drewN ?_ _ | refine blk_drew ?_ | refine blk_alloc ?_ _)); exact BK223.out⟩, ⟨by repeat (first | (with_reducible first | exact HB.out | apply below_alloc | apply pw_below_drewN | apply below_drew1 | refine below_set ?_ GE199.out | refine below_set ?_ GE200.out | refine below_set ?_ GE212.out | refine below_set ?_ GE216.out | refine below_set ?_ GE223.out) | exact HB.out)⟩⟩
        ·replace c68 := Bool.eq_false_iff.mpr c68
         subst c68
         have H1 : (some false) = some r := by rw [if_neg (show ¬ (false = true) by decide)] at H; exact H
         clear H
         have H := H1
         clear H1
         obtain rfl := Option.some.inj H
         go_wp2
         go_ret
         exact ⟨by first | rfl | (simp [errW_none, errW_some] <;> rfl) | (simp [*, errW_none, errW_some] <;> rfl), by repeat (first | (with_reducible first | exact HB.out | apply below_alloc | apply pw_below_drewN | apply below_drew1 | refine below_set ?_ GE199.out | refine below_set ?_ GE200.out | refine below_set ?_ GE212.out | refine below_set ?_ GE216.out | refine below_set ?_ GE223.out) | exact HB.out)⟩
       case rest =>
        clear HC63
        try clear c1
        try clear c2
        try clear p2
        try clear c5
        try clear c6
        try clear c17
        try clear c19
        try clear c24
        try clear c25
        try clear c52
        try clear c53
        try clear c54
        try clear c55
        try clear c57
        try clear c60
        try clear c68
        try clear hcz56_0
        try clear hcz58_0
        try clear hfz56_0
        try clear hfz58_0
        try clear p2
        obtain ⟨kq, HA, HJ62, HO_213000, HO_217000, HO_224000, BK199, BK200, BK212, BK216, BK223, HB⟩ := hcut
        cases kq with
        | zero => exact absurd HA.out (by simp [laws_FnExactPutItem.j3])
        | succ kj62 =>
         have H := HA.out
         clear HA
         simp only [laws_FnExactPutItem.j3] at H
         replace H := Option.bind_eq_some_iff.mp H
         obtain ⟨⟨t229, t230⟩, A690, H⟩ := H
         replace H : (if t229 < 0 then (laws_FnExactPutItem.j4 kj62 true l0_0 a1_0 a1_1 a1_2 t209 t220) else ((laws_eqView.f kj62 t220 t209).bind fun t231 => (laws_FnExactPutItem.j4 kj62 (!t231) l0_0 a1_0 a1_1 a1_2 t209 t220))) = some r := H
         have A69 := Aside0.mk A690
         clear A690
         have HC70 := Aside0.mk H
         clear H
         have hnb71 := NB216_199.out
         have hnc71 := NB199_216.out
         have hnb72 := NB216_200.out
         have hnc72 := NB200_216.out
         have hnb73 := NB216_212.out
         have hnc73 := NB212_216.out
         have hnb74 := NB216_223.out
         have hnc74 := NB223_216.out
         have hcz75_0 := bc_ BK216.out 0
         have hfz75_0 := blk_frozen BK216.out 0
         go_upto_region 17 with (first | ((with_reducible refine gate_callee (f := 20) rfl ?_); refine goesL_ (some 45) rfl rfl Try.func20 (by kernel_rfl) rfl #[.agg #[.slice Ao39 t213.length co39], .int .i64 1] rfl tq_4 ?_; (with_reducible refine (laws_markView.calls kj62 (fun k_ => some k_ = (.slice Ao39 t213.length co39 : Value).ownBlock) (.slice Ao39 t213.length co39) t213 1 t229 t230 w _ ?side1 ?side2 A69.out).mono ?_); (case side1 => exact tq_77); (case side2 => exact Kd.R_tight rfl HO_217000.out); rintro e w76 ⟨rfl, hy0, hb, hkp⟩; refine ⟨_, rfl, ?_⟩; have n0_ := Aside0.mk (Kd.R_mono (ok' := fun k_ => some k_ ≠ (.slice Ao39 t213.length co39 : Value).ownBlock ∧ some k_ ≠ (.slice Ao50 t220.length co50 : Value).ownBlock) (Kd.R_keptB (HO_213000.out) hkp (fun k_ hk_ hs_ => (hk_.1) hs_)) (fun k_ hk_ => ⟨hk_.1.1, hk_.1.2⟩)); have n1_ := Aside0.mk (Kd.R_reok rfl hy0 (fun k_ e_ => HO_217000.out.1 k_ e_)); have n2_ := Aside0.mk (Kd.R_mono (ok' := fun k_ => some k_ ≠ (.slice Ao32 t209.length co32 : Value).ownBlock ∧ some k_ ≠ (.slice Ao39 t213.length co39 : Value).ownBlock) (Kd.R_keptB (HO_224000.out) hkp (fun k_ hk_ hs_ => (hk_.2) hs_)) (fun k_ hk_ => ⟨hk_.1.1, hk_.1.2⟩)); have n3_ := Aside0.mk (blk_kept tq_1 hkp (fun hs_ => (fun e_ => (Kd.R_ne HO_217000.out BK199.out (by decide)) e_) hs_)); have n4_ := Aside0.mk (blk_kept tq_2 hkp (fun hs_ => (fun e_ => (Kd.R_ne HO_217000.out BK200.out (by decide)) e_) hs_)); have n5_ := Aside0.mk (blk_kept tq_5 hkp (fun hs_ => (fun e_ => (Kd.R_ne HO_217000.out BK212.out (by decide)) e_) hs_)); have n6_ := Aside0.mk (blk_kept tq_6 hkp (fun hs_ => (fun e_ => (Kd.R_ne HO_217000.out BK216.out (by decide)) e_) hs_)); have n7_ := Aside0.mk (blk_kept tq_8 hkp (fun hs_ => (fun e_ => (Kd.R_ne HO_217000.out BK223.out (by decide)) e_) hs_)); have n8_ := Aside0.mk (hb); clear HO_213000 HO_217000 HO_224000 BK199 BK200 BK212 BK216 BK223 HB; have HO_213000 := n0_; have HO_217000 := n1_; have HO_224000 := n2_; have BK199 := n3_; have BK200 := n4_; have BK212 := n5_; have BK216 := n6_; have BK223 := n7_; have HB := n8_; clear n0_ n1_ n2_ n3_ n4_ n5_ n6_ n7_ n8_; (try clear hb); (try clear hkp); (try clear hy0)))
         (try simp only [Act.put, List.setIfInBounds_toArray, List.set_cons_zero, List.set_cons_succ])
         go_cut [53] (fun v53 wc => ∃ (kq : Nat) (x53_69 : Bool), v53 = .bool x53_69 ∧ Aside0 (laws_FnExactPutItem.j4 kq x53_69 l0_0 a1_0 a1_1 a1_2 t209 t220 = some r) ∧ Aside0 (kq ≤ kj62) ∧ Aside0 (Kd.R k38 38 wc w.heap.size (fun k_ => some k_ ≠ ((.slice Ao39 t213.length co39) : Value).ownBlock ∧ some k_ ≠ ((.slice Ao50 t220.length co50) : Value).ownBlock) (.slice Ao32 t209.length co32) t209) ∧ Aside0 (Kd.R k38 38 wc w.heap.size (fun k_ => some k_ ≠ ((.slice Ao32 t209.length co32) : Value).ownBlock ∧ some k_ ≠ ((.slice Ao50 t220.length co50) : Value).ownBlock) (.slice Ao39 t213.length co39) t230) ∧ Aside0 (Kd.R k38 38 wc w.heap.size (fun k_ => some k_ ≠ ((.slice Ao32 t209.length co32) : Value).ownBlock ∧ some k_ ≠ ((.slice Ao39 t213.length co39) : Value).ownBlock) (.slice Ao50 t220.length co50) t220) ∧ Aside0 (wc.heap[gb199]? = some (.cells #[(.slice A0_0 l0_0.length c0_0)] 24 (0, 0))) ∧ Aside0 (wc.heap[gb200]? = some (.cells #[.string a1_0, .bool a1_1, .string a1_2] 35 (0, 0))) ∧ Aside0 (wc.heap[gb212]? = some (.cells #[(.slice Ao32 t209.length co32)] 28 (0, 0))) ∧ Aside0 (wc.heap[gb216]? = some (.cells #[(.slice Ao39 t213.length co39)] 28 (0, 0))) ∧ Aside0 (wc.heap[gb223]? = some (.cells #[(.slice Ao50 t220.length co50)] 28 (0, 0))) ∧ Aside0 (Below w.heap.size w wc))
         case first =>
          have H := HC70.out
          clear HC70
          by_cases c77 : t229 < 0
          ·rw [if_pos c77] at H
           have c77b0 : decide (t229 < 0) = true := decide_eq_true c77
           clear c77
           (first | rw [c77b0] | (simp only [i64_w, i32_w]; rw [c77b0]) | skip)
           have H' := Aside0.mk H
           clear H
           go_wp2
           go_meet
           case rel => exact ⟨_, (true), tq_26, H', ⟨by have := HJ3.out; have := HJ11.out; have := HJ23.out; have := HJ62.out; first | omega | exact Nat.le_refl _⟩, ⟨by (with_reducible repeat (first | apply Kd.R_alloc | apply Kd.R_drewN | apply Kd.R_drew)); exact HO_213000.out⟩, ⟨by (with_reducible repeat (first | apply Kd.R_alloc | apply Kd.R_drewN | apply Kd.R_drew)); exact HO_217000.out⟩, ⟨by (with_reducible repeat (first | apply Kd.R_alloc | apply Kd.R_drewN | apply Kd.R_drew)); exact HO_224000.out⟩, ⟨by (with_reducible repeat (first | refine blk_drewN ?_ _ | refine blk_drew ?_ | refine blk_alloc ?_ _)); exact BK199.out⟩, ⟨by (with_reducible repeat (first | refine blk_drewN ?_ _ | refine blk_drew ?_ | refine blk_alloc ?_ _)); exact BK200.out⟩, ⟨by (with_reducible repeat (first | refine blk_drewN ?_ _ | refine blk_drew ?_ | refine blk_alloc ?_ _)); exact BK212.out⟩, ⟨by (with_reducible repeat (first | refine blk_drewN ?_ _ | refine blk_drew ?_ | refine blk_alloc ?_ _)); exact BK216.out⟩, ⟨by (with_reducible repeat (first | refine blk_drewN ?_ _ | refine blk_drew ?_ | refine blk_alloc ?_ _)); exact BK223.out⟩, ⟨by repeat (first | (with_reducible first | exact HB.out | apply below_alloc | apply pw_below_drewN | apply below_drew1 | refine below_set ?_ GE199.out | refine below_set ?_ GE200.out | refine below_set ?_ GE212.out | refine below_set ?_ GE216.out | refine below_set ?_ GE223.out) | exact HB.out)⟩⟩
          ·rw [if_neg c77] at H
           have c77b0 : decide (t229 < 0) = false := decide_eq_false c77
           clear c77
           (first | rw [c77b0] | (simp only [i64_w, i32_w]; rw [c77b0]) | skip)
           replace H := Option.bind_eq_some_iff.mp H
           obtain ⟨t231, A780, H⟩ := H
           replace H : (laws_FnExactPutItem.j4 kj62 (!t231) l0_0 a1_0 a1_1 a1_2 t209 t220) = some r := H
           have A78 := Aside0.mk A780
           clear A780
           have H' := Aside0.mk H
           clear H
           have hnb79 := NB223_199.out
           have hnc79 := NB199_223.out
           have hnb80 := NB223_200.out
           have hnc80 := NB200_223.out
           have hnb81 := NB223_212.out
           have hnc81 := NB212_223.out
           have hnb82 := NB223_216.out
           have hnc82 := NB216_223.out
           have hcz83_0 := bc_ BK223.out 0
           have hfz83_0 := blk_frozen BK223.out 0
           have hnb84 := NB212_199.out
           have hnc84 := NB199_212.out
           have hnb85 := NB212_200.out
           have hnc85 := NB200_212.out
           have hnb86 := NB212_216.out
           have hnc86 := NB216_212.out
           have hcz87_0 := bc_ BK212.out 0
           have hfz87_0 := blk_frozen BK212.out 0
           go_wp2_with (first | (go_at_call 19; (with_reducible refine (laws_eqView.calls kj62 _ _ t220 _ _ t209 t231 _ ?side1 ?side2 ?side3 ?side4 A78.out).mono ?_); (case side1 => exact tq_41); (case side2 => exact (Kd.R_reads' HO_224000.out).2.1); (case side3 => repeat (first | exact (Kd.R_reads' HO_213000.out).2.2 | (with_reducible refine Kd.C_alloc ?_ _) | (with_reducible refine Kd.C_drewN ?_ _) | (with_reducible refine Kd.C_drew ?_))); (case side4 => exact (Kd.R_reads' HO_213000.out).2.1); rintro e w88 ⟨rfl, hb⟩; have n0_ := Aside0.mk (Kd.R_below tq_15 hb); have n1_ := Aside0.mk (Kd.R_below tq_14 hb); have n2_ := Aside0.mk (Kd.R_below tq_13 hb); have n3_ := Aside0.mk (blk_below tq_1 hb); have n4_ := Aside0.mk (blk_below tq_2 hb); have n5_ := Aside0.mk (blk_below tq_5 hb); have n6_ := Aside0.mk (blk_below tq_6 hb); have n7_ := Aside0.mk (blk_below tq_8 hb); have n8_ := Aside0.mk (below_step tq_3 hb); clear HO_213000 HO_217000 HO_224000 BK199 BK200 BK212 BK216 BK223 HB; have HO_213000 := n0_; have HO_217000 := n1_; have HO_224000 := n2_; have BK199 := n3_; have BK200 := n4_; have BK212 := n5_; have BK216 := n6_; have BK223 := n7_; have HB := n8_; clear n0_ n1_ n2_ n3_ n4_ n5_ n6_ n7_ n8_; (try clear hb); (try clear hb2); (try clear hk); (try clear hi)))
           go_meet
           case rel => exact ⟨_, (!t231), tq_26, H', ⟨by have := HJ3.out; have := HJ11.out; have := HJ23.out; have := HJ62.out; first | omega | exact Nat.le_refl _⟩, ⟨by (with_reducible repeat (first | apply Kd.R_alloc | apply Kd.R_drewN | apply Kd.R_drew)); exact HO_213000.out⟩, ⟨by (with_reducible repeat (first | apply Kd.R_alloc | apply Kd.R_drewN | apply Kd.R_drew)); exact HO_217000.out⟩, ⟨by (with_reducible repeat (first | apply Kd.R_alloc | apply Kd.R_drewN | apply Kd.R_drew)); exact HO_224000.out⟩, ⟨by (with_reducible repeat (first | refine blk_drewN ?_ _ | refine blk_drew ?_ | refine blk_alloc ?_ _)); exact BK199.out⟩, ⟨by (with_reducible repeat (first | refine blk_drewN ?_ _ | refine blk_drew ?_ | refine blk_alloc ?_ _)); exact BK200.out⟩, ⟨by (with_reducible repeat (first | refine blk_drewN ?_ _ | refine blk_drew ?_ | refine blk_alloc ?_ _)); exact BK212.out⟩, ⟨by (with_reducible repeat (first | refine blk_drewN ?_ _ | refine blk_drew ?_ | refine blk_alloc ?_ _)); exact BK216.out⟩, ⟨by (with_reducible repeat (first | refine blk_drewN ?_ _ | refine blk_drew ?_ | refine blk_alloc ?_ _)); exact BK223.out⟩, ⟨by repeat (first | (with_reducible first | exact HB.out | apply below_alloc | apply pw_below_drewN | apply below_drew1 | refine below_set ?_ GE199.out | refine below_set ?_ GE200.out | refine below_set ?_ GE212.out | refine below_set ?_ GE216.out | refine below_set ?_ GE223.out) | exact HB.out)⟩⟩
         case rest =>
          clear HC70
          try clear c1
          try clear c2
          try clear p2
          try clear c5
          try clear c6
          try clear c7
          try clear c8
          try clear c17
          try clear c19
          try clear c20
          try clear c24
          try clear c25
          try clear c52
          try clear c53
          try clear c54
          try clear c55
          try clear c57
          try clear c60
          try clear c68
          try clear c71
          try clear c72
          try clear c73
          try clear c74
          try clear c77
          try clear c77b0
          try clear c79
          try clear c80
          try clear c81
          try clear c82
          try clear c84
          try clear c85
          try clear c86
          try clear hcz56_0
          try clear hcz58_0
          try clear hcz75_0
          try clear hcz83_0
          try clear hcz87_0
          try clear hfz56_0
          try clear hfz58_0
          try clear hfz75_0
          try clear hfz83_0
          try clear hfz87_0
          try clear p2
          obtain ⟨kq, x53_69, rfl, HA, HJ69, HO_213000, HO_217000, HO_224000, BK199, BK200, BK212, BK216, BK223, HB⟩ := hcut
          have hl217000_69 := (Kd.R_reads' HO_217000.out).1
          rw [hl217000_69] at HO_217000
          (try simp only [hl217000_69])
          (try simp only [hl217000_69] at BK199)
          (try simp only [hl217000_69] at BK200)
          (try simp only [hl217000_69] at BK212)
          (try simp only [hl217000_69] at BK216)
          (try simp only [hl217000_69] at BK223)
          (try simp only [hl217000_69] at HO_213000)
          (try simp only [hl217000_69] at HO_224000)
          cases kq with
          | zero => exact absurd HA.out (by simp [laws_FnExactPutItem.j4])
          | succ kj69 =>
           have H := HA.out
           clear HA
           simp only [laws_FnExactPutItem.j4] at H
           have HC89 := Aside0.mk H
           clear H
           go_upto_if 53 with (fail)
           go_cut [] (fun wc => ∃ (kq : Nat), Aside0 (laws_FnExactPutItem.j5 kq l0_0 a1_0 a1_1 a1_2 t209 t220 = some r) ∧ Aside0 (kq ≤ kj69) ∧ Aside0 (Kd.R k38 38 wc w.heap.size (fun k_ => some k_ ≠ ((.slice Ao39 t230.length co39) : Value).ownBlock ∧ some k_ ≠ ((.slice Ao50 t220.length co50) : Value).ownBlock) (.slice Ao32 t209.length co32) t209) ∧ Aside0 (Kd.R k38 38 wc w.heap.size (fun k_ => some k_ ≠ ((.slice Ao32 t209.length co32) : Value).ownBlock ∧ some k_ ≠ ((.slice Ao50 t220.length co50) : Value).ownBlock) (.slice Ao39 t230.length co39) t230) ∧ Aside0 (Kd.R k38 38 wc w.heap.size (fun k_ => some k_ ≠ ((.slice Ao32 t209.length co32) : Value).ownBlock ∧ some k_ ≠ ((.slice Ao39 t230.length co39) : Value).ownBlock) (.slice Ao50 t220.length co50) t220) ∧ Aside0 (wc.heap[gb199]? = some (.cells #[(.slice A0_0 l0_0.length c0_0)] 24 (0, 0))) ∧ Aside0 (wc.heap[gb200]? = some (.cells #[.string a1_0, .bool a1_1, .string a1_2] 35 (0, 0))) ∧ Aside0 (wc.heap[gb212]? = some (.cells #[(.slice Ao32 t209.length co32)] 28 (0, 0))) ∧ Aside0 (wc.heap[gb216]? = some (.cells #[(.slice Ao39 t230.length co39)] 28 (0, 0))) ∧ Aside0 (wc.heap[gb223]? = some (.cells #[(.slice Ao50 t220.length co50)] 28 (0, 0))) ∧ Aside0 (Below w.heap.size w wc))
           case first =>
            have H := HC89.out
            clear HC89
            by_cases c90 : x53_69 = true
            ·subst c90
             have H1 : (some false) = some r := by rw [if_pos rfl] at H; exact H
             clear H
             have H := H1
             clear H1
             obtain rfl := Option.some.inj H
             go_wp2
             go_ret
             exact ⟨by first | rfl | (simp [errW_none, errW_some] <;> rfl) | (simp [*, errW_none, errW_some] <;> rfl), by repeat (first | (with_reducible first | exact HB.out | apply below_alloc | apply pw_below_drewN | apply below_drew1 | refine below_set ?_ GE199.out | refine below_set ?_ GE200.out | refine below_set ?_ GE212.out | refine below_set ?_ GE216.out | refine below_set ?_ GE223.out) | exact HB.out)⟩
            ·replace c90 := Bool.eq_false_iff.mpr c90
             subst c90
             have H1 : (laws_FnExactPutItem.j5 kj69 l0_0 a1_0 a1_1 a1_2 t209 t220) = some r := by rw [if_neg (show ¬ (false = true) by decide)] at H; exact H
             clear H
             have H := H1
             clear H1
             have H' := Aside0.mk H
             clear H
             go_wp2
             go_meet
             case rel => exact ⟨_, H', ⟨by have := HJ3.out; have := HJ11.out; have := HJ23.out; have := HJ62.out; have := HJ69.out; first | omega | exact Nat.le_refl _⟩, ⟨by (try simp only [hl217000_69]); (with_reducible repeat (first | apply Kd.R_alloc | apply Kd.R_drewN | apply Kd.R_drew)); exact HO_213000.out⟩, ⟨by (try simp only [hl217000_69]); (with_reducible repeat (first | apply Kd.R_alloc | apply Kd.R_drewN | apply Kd.R_drew)); exact HO_217000.out⟩, ⟨by (try simp only [hl217000_69]); (with_reducible repeat (first | apply Kd.R_alloc | apply Kd.R_drewN | apply Kd.R_drew)); exact HO_224000.out⟩, ⟨by (try simp only [hl217000_69]); (with_reducible repeat (first | refine blk_drewN ?_ _ | refine blk_drew ?_ | refine blk_alloc ?_ _)); exact BK199.out⟩, ⟨by (try simp only [hl217000_69]); (with_reducible repeat (first | refine blk_drewN ?_ _ | refine blk_drew ?_ | refine blk_alloc ?_ _)); exact BK200.out⟩, ⟨by (try simp only [hl217000_69]); (with_reducible repeat (first | refine blk_drewN ?_ _ | refine blk_drew ?_ | refine blk_alloc ?_ _)); exact BK212.out⟩, ⟨by (try simp only [hl217000_69]); (with_reducible repeat (first | refine blk_drewN ?_ _ | refine blk_drew ?_ | refine blk_alloc ?_ _)); exact BK216.out⟩, ⟨by (try simp only [hl217000_69]); (with_reducible repeat (first | refine blk_drewN ?_ _ | refine blk_drew ?_ | refine blk_alloc ?_ _)); exact BK223.out⟩, ⟨by repeat (first | (with_reducible first | exact HB.out | apply below_alloc | apply pw_below_drewN | apply below_drew1 | refine below_set ?_ GE199.out | refine below_set ?_ GE200.out | refine below_set ?_ GE212.out | refine below_set ?_ GE216.out | refine below_set ?_ GE223.out) | exact HB.out)⟩⟩
           case rest =>
            clear HC89
            try clear c1
            try clear c2
            try clear p2
            try clear c5
            try clear c6
            try clear c7
            try clear c8
            try clear c9
            try clear c17
            try clear c19
            try clear c20
            try clear c24
            try clear c25
            try clear c52
            try clear c53
            try clear c54
            try clear c55
            try clear c57
            try clear c60
            try clear c68
            try clear c71
            try clear c72
            try clear c73
            try clear c74
            try clear c77
            try clear c77b0
            try clear c79
            try clear c80
            try clear c81
            try clear c82
            try clear c84
            try clear c85
            try clear c86
            try clear c90
            try clear hcz56_0
            try clear hcz58_0
            try clear hcz75_0
            try clear hcz83_0
            try clear hcz87_0
            try clear hfz56_0
            try clear hfz58_0
            try clear hfz75_0
            try clear hfz83_0
            try clear hfz87_0
            try clear p2
            obtain ⟨kq, HA, HJ88, HO_213000, HO_217000, HO_224000, BK199, BK200, BK212, BK216, BK223, HB⟩ := hcut
            cases kq with
            | zero => exact absurd HA.out (by simp [laws_FnExactPutItem.j5])
            | succ kj88 =>
             have H := HA.out
             clear HA
             simp only [laws_FnExactPutItem.j5] at H
             replace H := Option.bind_eq_some_iff.mp H
             obtain ⟨⟨t232, t233⟩, A910, H⟩ := H
             replace H : ((laws_heldView.f kj88 t233 1).bind fun t234 => (if t234 < 0 then (some false) else (laws_FnExactPutItem.j6 kj88 t232 t234 l0_0 a1_0 a1_1 a1_2 t209 t233))) = some r := H
             have A91 := Aside0.mk A910
             clear A910
             replace H := Option.bind_eq_some_iff.mp H
             obtain ⟨t234, A920, H⟩ := H
             replace H : (if t234 < 0 then (some false) else (laws_FnExactPutItem.j6 kj88 t232 t234 l0_0 a1_0 a1_1 a1_2 t209 t233)) = some r := H
             have A92 := Aside0.mk A920
             clear A920
             have HC93 := Aside0.mk H
             clear H
             have hnb94 := NB223_199.out
             have hnc94 := NB199_223.out
             have hnb95 := NB223_200.out
             have hnc95 := NB200_223.out
             have hnb96 := NB223_212.out
             have hnc96 := NB212_223.out
             have hnb97 := NB223_216.out
             have hnc97 := NB216_223.out
             have hcz98_0 := bc_ BK223.out 0
             have hfz98_0 := blk_frozen BK223.out 0
             go_upto_if 61 with (first | ((with_reducible refine gate_callee (f := 20) rfl ?_); refine goesL_ (some 56) rfl rfl Try.func20 (by kernel_rfl) rfl #[.agg #[.slice Ao50 t220.length co50], .int .i64 1] rfl tq_4 ?_; (with_reducible refine (laws_markView.calls kj88 (fun k_ => some k_ = (.slice Ao50 t220.length co50 : Value).ownBlock) (.slice Ao50 t220.length co50) t220 1 t232 t233 w _ ?side1 ?side2 A91.out).mono ?_); (case side1 => exact tq_77); (case side2 => exact Kd.R_tight rfl HO_224000.out); rintro e w99 ⟨rfl, hy0, hb, hkp⟩; refine ⟨_, rfl, ?_⟩; have n0_ := Aside0.mk (Kd.R_mono (ok' := fun k_ => some k_ ≠ (.slice Ao39 t230.length co39 : Value).ownBlock ∧ some k_ ≠ (.slice Ao50 t220.length co50 : Value).ownBlock) (Kd.R_keptB (HO_213000.out) hkp (fun k_ hk_ hs_ => (hk_.2) hs_)) (fun k_ hk_ => ⟨hk_.1.1, hk_.1.2⟩)); have n1_ := Aside0.mk (Kd.R_mono (ok' := fun k_ => some k_ ≠ (.slice Ao32 t209.length co32 : Value).ownBlock ∧ some k_ ≠ (.slice Ao50 t220.length co50 : Value).ownBlock) (Kd.R_keptB (HO_217000.out) hkp (fun k_ hk_ hs_ => (hk_.2) hs_)) (fun k_ hk_ => ⟨hk_.1.1, hk_.1.2⟩)); have n2_ := Aside0.mk (Kd.R_reok rfl hy0 (fun k_ e_ => HO_224000.out.1 k_ e_)); have n3_ := Aside0.mk (blk_kept tq_1 hkp (fun hs_ => (fun e_ => (Kd.R_ne HO_224000.out BK199.out (by decide)) e_) hs_)); have n4_ := Aside0.mk (blk_kept tq_2 hkp (fun hs_ => (fun e_ => (Kd.R_ne HO_224000.out BK200.out (by decide)) e_) hs_)); have n5_ := Aside0.mk (blk_kept tq_5 hkp (fun hs_ => (fun e_ => (Kd.R_ne HO_224000.out BK212.out (by decide)) e_) hs_)); have n6_ := Aside0.mk (blk_kept tq_6 hkp (fun hs_ => (fun e_ => (Kd.R_ne HO_224000.out BK216.out (by decide)) e_) hs_)); have n7_ := Aside0.mk (blk_kept tq_8 hkp (fun hs_ => (fun e_ => (Kd.R_ne HO_224000.out BK223.out (by decide)) e_) hs_)); have n8_ := Aside0.mk (hb); clear HO_213000 HO_217000 HO_224000 BK199 BK200 BK212 BK216 BK223 HB; have HO_213000 := n0_; have HO_217000 := n1_; have HO_224000 := n2_; have BK199 := n3_; have BK200 := n4_; have BK212 := n5_; have BK216 := n6_; have BK223 := n7_; have HB := n8_; clear n0_ n1_ n2_ n3_ n4_ n5_ n6_ n7_ n8_; (try clear hb); (try clear hkp); (try clear hy0); have hcz100_0 := bc_ BK223.out 0; have hfz100_0 := blk_frozen BK223.out 0) | ((with_reducible refine gate_callee (f := 21) rfl ?_); refine goesL_ (some 59) rfl rfl Try.func21 (by kernel_rfl) rfl #[.agg #[.slice Ao50 t233.length co50], .int .i64 1] rfl (by (try simp only [List.map_toArray, List.map_cons, List.map_nil]); first | done | (rw [show t233.length = t220.length from (Kd.R_reads' HO_224000.out).1.symm] <;> rfl) | rfl | (simp only [List.length_drop, List.length_take]; rfl)) ?_; (with_reducible refine (laws_heldView.calls kj88 _ _ t233 1 t234 _ ?side1 ?side2 A92.out).mono ?_); (case side1 => exact tq_41); (case side2 => rw [show t233.length = t220.length from (Kd.R_reads' HO_224000.out).1.symm]; exact (Kd.R_reads' HO_224000.out).2.1); rintro e w101 ⟨rfl, hb⟩; refine ⟨_, rfl, ?_⟩; have n0_ := Aside0.mk (Kd.R_below tq_15 hb); have n1_ := Aside0.mk (Kd.R_below tq_14 hb); have n2_ := Aside0.mk (Kd.R_below tq_13 hb); have n3_ := Aside0.mk (blk_below tq_1 hb); have n4_ := Aside0.mk (blk_below tq_2 hb); have n5_ := Aside0.mk (blk_below tq_5 hb); have n6_ := Aside0.mk (blk_below tq_6 hb); have n7_ := Aside0.mk (blk_below tq_8 hb); have n8_ := Aside0.mk (below_step tq_3 hb); clear HO_213000 HO_217000 HO_224000 BK199 BK200 BK212 BK216 BK223 HB; have HO_213000 := n0_; have HO_217000 := n1_; have HO_224000 := n2_; have BK199 := n3_; have BK200 := n4_; have BK212 := n5_; have BK216 := n6_; have BK223 := n7_; have HB := n8_; clear n0_ n1_ n2_ n3_ n4_ n5_ n6_ n7_ n8_; (try clear hb); (try clear hb2); (try clear hk); (try clear hi)))
             (try simp only [Act.put, List.setIfInBounds_toArray, List.set_cons_zero, List.set_cons_succ])
             go_cut [] (fun wc => ∃ (kq : Nat), Aside0 (laws_FnExactPutItem.j6 kq t232 t234 l0_0 a1_0 a1_1 a1_2 t209 t233 = some r) ∧ Aside0 (kq ≤ kj88) ∧ Aside0 (Kd.R k38 38 wc w.heap.size (fun k_ => some k_ ≠ ((.slice Ao39 t230.length co39) : Value).ownBlock ∧ some k_ ≠ ((.slice Ao50 t220.length co50) : Value).ownBlock) (.slice Ao32 t209.length co32) t209) ∧ Aside0 (Kd.R k38 38 wc w.heap.size (fun k_ => some k_ ≠ ((.slice Ao32 t209.length co32) : Value).ownBlock ∧ some k_ ≠ ((.slice Ao50 t220.length co50) : Value).ownBlock) (.slice Ao39 t230.length co39) t230) ∧ Aside0 (Kd.R k38 38 wc w.heap.size (fun k_ => some k_ ≠ ((.slice Ao32 t209.length co32) : Value).ownBlock ∧ some k_ ≠ ((.slice Ao39 t230.length co39) : Value).ownBlock) (.slice Ao50 t220.length co50) t233) ∧ Aside0 (wc.heap[gb199]? = some (.cells #[(.slice A0_0 l0_0.length c0_0)] 24 (0, 0))) ∧ Aside0 (wc.heap[gb200]? = some (.cells #[.string a1_0, .bool a1_1, .string a1_2] 35 (0, 0))) ∧ Aside0 (wc.heap[gb212]? = some (.cells #[(.slice Ao32 t209.length co32)] 28 (0, 0))) ∧ Aside0 (wc.heap[gb216]? = some (.cells #[(.slice Ao39 t230.length co39)] 28 (0, 0))) ∧ Aside0 (wc.heap[gb223]? = some (.cells #[(.slice Ao50 t220.length co50)] 28 (0, 0))) ∧ Aside0 (Below w.heap.size w wc))
             case first =>
              have H := HC93.out
              clear HC93
              by_cases c102 : t234 < 0
              ·rw [if_pos c102] at H
               have c102b0 : decide (t234 < 0) = true := decide_eq_true c102
               clear c102
               (first | rw [c102b0] | (simp only [i64_w, i32_w]; rw [c102b0]) | skip)
               obtain rfl := Option.some.inj H
               go_wp2
               go_ret
               exact ⟨by first | rfl | (simp [errW_none, errW_some] <;> rfl) | (simp [*, errW_none, errW_some] <;> rfl), by repeat (first | (with_reducible first | exact HB.out | apply below_alloc | apply pw_below_drewN | apply below_drew1 | refine below_set ?_ GE199.out | refine below_set ?_ GE200.out | refine below_set ?_ GE212.out | refine below_set ?_ GE216.out | refine below_set ?_ GE223.out) | exact HB.out)⟩
              ·rw [if_neg c102] at H
               have c102b0 : decide (t234 < 0) = false := decide_eq_false c102
               clear c102
               (first | rw [c102b0] | (simp only [i64_w, i32_w]; rw [c102b0]) | skip)
               have H' := Aside0.mk H
               clear H
               go_wp2
               go_meet
               case rel => exact ⟨_, H', ⟨by have := HJ3.out; have := HJ11.out; have := HJ23.out; have := HJ62.out; have := HJ69.out; have := HJ88.out; first | omega | exact Nat.le_refl _⟩, ⟨by (try simp only [hl217000_69]); (with_reducible repeat (first | apply Kd.R_alloc | apply Kd.R_drewN | apply Kd.R_drew)); exact HO_213000.out⟩, ⟨by (try simp only [hl217000_69]); (with_reducible repeat (first | apply Kd.R_alloc | apply Kd.R_drewN | apply Kd.R_drew)); exact HO_217000.out⟩, ⟨by (try simp only [hl217000_69]); (with_reducible repeat (first | apply Kd.R_alloc | apply Kd.R_drewN | apply Kd.R_drew)); exact HO_224000.out⟩, ⟨by (try simp only [hl217000_69]); (with_reducible repeat (first | refine blk_drewN ?_ _ | refine blk_drew ?_ | refine blk_alloc ?_ _)); exact BK199.out⟩, ⟨by (try simp only [hl217000_69]); (with_reducible repeat (first | refine blk_drewN ?_ _ | refine blk_drew ?_ | refine blk_alloc ?_ _)); exact BK200.out⟩, ⟨by (try simp only [hl217000_69]); (with_reducible repeat (first | refine blk_drewN ?_ _ | refine blk_drew ?_ | refine blk_alloc ?_ _)); exact BK212.out⟩, ⟨by (try simp only [hl217000_69]); (with_reducible repeat (first | refine blk_drewN ?_ _ | refine blk_drew ?_ | refine blk_alloc ?_ _)); exact BK216.out⟩, ⟨by (try simp only [hl217000_69]); (with_reducible repeat (first | refine blk_drewN ?_ _ | refine blk_drew ?_ | refine blk_alloc ?_ _)); exact BK223.out⟩, ⟨by repeat (first | (with_reducible first | exact HB.out | apply below_alloc | apply pw_below_drewN | apply below_drew1 | refine below_set ?_ GE199.out | refine below_set ?_ GE200.out | refine below_set ?_ GE212.out | refine below_set ?_ GE216.out | refine below_set ?_ GE223.out) | exact HB.out)⟩⟩
             case rest =>
              clear HC93
              try clear c1
              try clear c2
              try clear p2
              try clear c5
              try clear c6
              try clear c7
              try clear c8
              try clear c9
              try clear c10
              try clear c17
              try clear c19
              try clear c20
              try clear c21
              try clear c24
              try clear c25
              try clear c52
              try clear c53
              try clear c54
              try clear c55
              try clear c57
              try clear c60
              try clear c68
              try clear c71
              try clear c72
              try clear c73
              try clear c74
              try clear c77
              try clear c77b0
              try clear c79
              try clear c80
              try clear c81
              try clear c82
              try clear c84
              try clear c85
              try clear c86
              try clear c90
              try clear c94
              try clear c95
              try clear c96
              try clear c97
              try clear c102
              try clear c102b0
              try clear hcz100_0
              try clear hcz56_0
              try clear hcz58_0
              try clear hcz75_0
              try clear hcz83_0
              try clear hcz87_0
              try clear hcz98_0
              try clear hfz100_0
              try clear hfz56_0
              try clear hfz58_0
              try clear hfz75_0
              try clear hfz83_0
              try clear hfz87_0
              try clear hfz98_0
              try clear p2
              obtain ⟨kq, HA, HJ92, HO_213000, HO_217000, HO_224000, BK199, BK200, BK212, BK216, BK223, HB⟩ := hcut
              have hl224000_92 := (Kd.R_reads' HO_224000.out).1
              rw [hl224000_92] at HO_224000
              (try simp only [hl224000_92])
              (try simp only [hl224000_92] at BK199)
              (try simp only [hl224000_92] at BK200)
              (try simp only [hl224000_92] at BK212)
              (try simp only [hl224000_92] at BK216)
              (try simp only [hl224000_92] at BK223)
              (try simp only [hl224000_92] at HO_213000)
              (try simp only [hl224000_92] at HO_217000)
              cases kq with
              | zero => exact absurd HA.out (by simp [laws_FnExactPutItem.j6])
              | succ kj92 =>
               have H := HA.out
               clear HA
               simp only [laws_FnExactPutItem.j6] at H
               have HC103 := Aside0.mk H
               clear H
               go_upto_if 64 with (fail)
               go_cut [] (fun wc => ∃ (kq : Nat), Aside0 (laws_FnExactPutItem.j7 kq t232 l0_0 a1_0 a1_1 a1_2 t209 t233 = some r) ∧ Aside0 (kq ≤ kj92) ∧ Aside0 (Kd.R k38 38 wc w.heap.size (fun k_ => some k_ ≠ ((.slice Ao39 t230.length co39) : Value).ownBlock ∧ some k_ ≠ ((.slice Ao50 t233.length co50) : Value).ownBlock) (.slice Ao32 t209.length co32) t209) ∧ Aside0 (Kd.R k38 38 wc w.heap.size (fun k_ => some k_ ≠ ((.slice Ao32 t209.length co32) : Value).ownBlock ∧ some k_ ≠ ((.slice Ao50 t233.length co50) : Value).ownBlock) (.slice Ao39 t230.length co39) t230) ∧ Aside0 (Kd.R k38 38 wc w.heap.size (fun k_ => some k_ ≠ ((.slice Ao32 t209.length co32) : Value).ownBlock ∧ some k_ ≠ ((.slice Ao39 t230.length co39) : Value).ownBlock) (.slice Ao50 t233.length co50) t233) ∧ Aside0 (wc.heap[gb199]? = some (.cells #[(.slice A0_0 l0_0.length c0_0)] 24 (0, 0))) ∧ Aside0 (wc.heap[gb200]? = some (.cells #[.string a1_0, .bool a1_1, .string a1_2] 35 (0, 0))) ∧ Aside0 (wc.heap[gb212]? = some (.cells #[(.slice Ao32 t209.length co32)] 28 (0, 0))) ∧ Aside0 (wc.heap[gb216]? = some (.cells #[(.slice Ao39 t230.length co39)] 28 (0, 0))) ∧ Aside0 (wc.heap[gb223]? = some (.cells #[(.slice Ao50 t233.length co50)] 28 (0, 0))) ∧ Aside0 (Below w.heap.size w wc))
               case first =>
                have H := HC103.out
                clear HC103
                by_cases c104 : t234 = t232
                ·rw [if_pos c104] at H
                 have c104b0 : (t234 == t232) = true := beq_iff_eq.mpr c104
                 have c104b1 : (t234 != t232) = false := bne_eq_false_iff_eq.mpr c104
                 clear c104
                 (first | rw [c104b0] | (simp only [i64_w, i32_w]; rw [c104b0]) | skip)
                 have H' := Aside0.mk H
                 clear H
                 go_wp2
                 go_meet
                 case rel => exact ⟨_, H', ⟨by have := HJ3.out; have := HJ11.out; have := HJ23.out; have := HJ62.out; have := HJ69.out; have := HJ88.out; have := HJ92.out; first | omega | exact Nat.le_refl _⟩, ⟨by (try simp only [hl217000_69]); (try simp only [hl224000_92]); (with_reducible repeat (first | apply Kd.R_alloc | apply Kd.R_drewN | apply Kd.R_drew)); exact HO_213000.out⟩, ⟨by (try simp only [hl217000_69]); (try simp only [hl224000_92]); (with_reducible repeat (first | apply Kd.R_alloc | apply Kd.R_drewN | apply Kd.R_drew)); exact HO_217000.out⟩, ⟨by (try simp only [hl217000_69]); (try simp only [hl224000_92]); (with_reducible repeat (first | apply Kd.R_alloc | apply Kd.R_drewN | apply Kd.R_drew)); exact HO_224000.out⟩, ⟨by (try simp only [hl217000_69]); (try simp only [hl224000_92]); (with_reducible repeat (first | refine blk_drewN ?_ _ | refine blk_drew ?_ | refine blk_alloc ?_ _)); exact BK199.out⟩, ⟨by (try simp only [hl217000_69]); (try simp only [hl224000_92]); (with_reducible repeat (first | refine blk_drewN ?_ _ | refine blk_drew ?_ | refine blk_alloc ?_ _)); exact BK200.out⟩, ⟨by (try simp only [hl217000_69]); (try simp only [hl224000_92]); (with_reducible repeat (first | refine blk_drewN ?_ _ | refine blk_drew ?_ | refine blk_alloc ?_ _)); exact BK212.out⟩, ⟨by (try simp only [hl217000_69]); (try simp only [hl224000_92]); (with_reducible repeat (first | refine blk_drewN ?_ _ | refine blk_drew ?_ | refine blk_alloc ?_ _)); exact BK216.out⟩, ⟨by (try simp only [hl217000_69]); (try simp only [hl224000_92]); (with_reducible repeat (first | refine blk_drewN ?_ _ | refine blk_drew ?_ | refine blk_alloc ?_ _)); exact BK223.out⟩, ⟨by repeat (first | (with_reducible first | exact HB.out | apply below_alloc | apply pw_below_drewN | apply below_drew1 | refine below_set ?_ GE199.out | refine below_set ?_ GE200.out | refine below_set ?_ GE212.out | refine below_set ?_ GE216.out | refine below_set ?_ GE223.out) | exact HB.out)⟩⟩
                ·rw [if_neg c104] at H
                 have c104b0 : (t234 == t232) = false := beq_eq_false_iff_ne.mpr c104
                 have c104b1 : (t234 != t232) = true := bne_iff_ne.mpr c104
                 (first | rw [c104b0] | (simp only [i64_w, i32_w]; rw [c104b0]) | skip)
                 obtain rfl := Option.some.inj H
                 go_wp2
                 go_ret
                 exact ⟨by first | rfl | (simp [errW_none, errW_some] <;> rfl) | (simp [*, errW_none, errW_some] <;> rfl), by repeat (first | (with_reducible first | exact HB.out | apply below_alloc | apply pw_below_drewN | apply below_drew1 | refine below_set ?_ GE199.out | refine below_set ?_ GE200.out | refine below_set ?_ GE212.out | refine below_set ?_ GE216.out | refine below_set ?_ GE223.out) | exact HB.out)⟩
               case rest =>
                clear HC103
                try clear c1
                try clear c2
                try clear p2
                try clear c5
                try clear c6
                try clear c7
                try clear c8
                try clear c9
                try clear c10
                try clear c17
                try clear c19
                try clear c20
                try clear c21
                try clear c24
                try clear c25
                try clear c52
                try clear c53
                try clear c54
                try clear c55
                try clear c57
                try clear c60
                try clear c68
                try clear c71
                try clear c72
                try clear c73
                try clear c74
                try clear c77
                try clear c77b0
                try clear c79
                try clear c80
                try clear c81
                try clear c82
                try clear c84
                try clear c85
                try clear c86
                try clear c90
                try clear c94
                try clear c95
                try clear c96
                try clear c97
                try clear c102
                try clear c102b0
                try clear c104
                try clear c104b0
                try clear c104b1
                try clear hcz100_0
                try clear hcz56_0
                try clear hcz58_0
                try clear hcz75_0
                try clear hcz83_0
                try clear hcz87_0
                try clear hcz98_0
                try clear hfz100_0
                try clear hfz56_0
                try clear hfz58_0
                try clear hfz75_0
                try clear hfz83_0
                try clear hfz87_0
                try clear hfz98_0
                try clear p2
                obtain ⟨kq, HA, HJ102, HO_213000, HO_217000, HO_224000, BK199, BK200, BK212, BK216, BK223, HB⟩ := hcut
                cases kq with
                | zero => exact absurd HA.out (by simp [laws_FnExactPutItem.j7])
                | succ kj102 =>
                 have H := HA.out
                 clear HA
                 simp only [laws_FnExactPutItem.j7] at H
                 replace H := Option.bind_eq_some_iff.mp H
                 obtain ⟨t235, A1050, H⟩ := H
                 replace H : ((laws_toItem.f a1_0 a1_1 a1_2).bind fun bt238 => ((impl_PutItem.f t235 bt238.1 bt238.2.1 bt238.2.2).bind fun t241 => ((laws_eqView.f kj102 t241 t209).bind fun t245 => (if t245 = true then (laws_FnExactPutItem.j8 kj102 t232 t233) else (some false))))) = some r := H
                 have A105 := Aside0.mk A1050
                 clear A1050
                 replace H := Option.bind_eq_some_iff.mp H
                 obtain ⟨⟨t238, t239, t240⟩, A1060, H⟩ := H
                 replace H : ((impl_PutItem.f t235 t238 t239 t240).bind fun t241 => ((laws_eqView.f kj102 t241 t209).bind fun t245 => (if t245 = true then (laws_FnExactPutItem.j8 kj102 t232 t233) else (some false)))) = some r := H
                 have A106 := Aside0.mk A1060
                 clear A1060
                 replace H := Option.bind_eq_some_iff.mp H
                 obtain ⟨t241, A1070, H⟩ := H
                 replace H : ((laws_eqView.f kj102 t241 t209).bind fun t245 => (if t245 = true then (laws_FnExactPutItem.j8 kj102 t232 t233) else (some false))) = some r := H
                 have A107 := Aside0.mk A1070
                 clear A1070
                 replace H := Option.bind_eq_some_iff.mp H
                 obtain ⟨t245, A1080, H⟩ := H
                 replace H : (if t245 = true then (laws_FnExactPutItem.j8 kj102 t232 t233) else (some false)) = some r := H
                 have A108 := Aside0.mk A1080
                 clear A1080
                 have HC109 := Aside0.mk H
                 clear H
                 try go_wp2
                 have n0_ := Aside0.mk (Kd.R_drew HO_213000.out)
                 have n1_ := Aside0.mk (Kd.R_drew HO_217000.out)
                 have n2_ := Aside0.mk (Kd.R_drew HO_224000.out)
                 have n3_ := Aside0.mk (blk_drew BK199.out)
                 have n4_ := Aside0.mk (blk_drew BK200.out)
                 have n5_ := Aside0.mk (blk_drew BK212.out)
                 have n6_ := Aside0.mk (blk_drew BK216.out)
                 have n7_ := Aside0.mk (blk_drew BK223.out)
                 have n8_ := Aside0.mk (below_drew1 HB.out)
                 clear HO_213000 HO_217000 HO_224000 BK199 BK200 BK212 BK216 BK223 HB
                 have HO_213000 := n0_
                 have HO_217000 := n1_
                 have HO_224000 := n2_
                 have BK199 := n3_
                 have BK200 := n4_
                 have BK212 := n5_
                 have BK216 := n6_
                 have BK223 := n7_
                 have HB := n8_
                 clear n0_ n1_ n2_ n3_ n4_ n5_ n6_ n7_ n8_
                 refine start_ (n := 7) (S := fun w' => w'.cell? ⟨gb199, 0, none⟩ = some (.slice A0_0 l0_0.length c0_0) ∧ w'.cell? ⟨gb200, 0, none⟩ = some (.string a1_0) ∧ w'.cell? ⟨gb200, 1, none⟩ = some (.bool a1_1) ∧ w'.cell? ⟨gb200, 2, none⟩ = some (.string a1_2)) (ds := []) #[false, false, false, false, false, false, false] (by kernel_rfl) rfl rfl ⟨(blk_cell BK199.out 0).trans rfl, (blk_cell BK200.out 0).trans rfl, (blk_cell BK200.out 1).trans rfl, (blk_cell BK200.out 2).trans rfl⟩ (fun hHeld => ?_)
                 generalize wc.drew = w110 at HO_213000 HO_217000 HO_224000 BK199 BK200 BK212 BK216 BK223 HB hHeld ⊢
                 refine take_ (i := 0) (N := some 65) (v := ?_) (a' := ?_) #[true, false, false, false, false, false, false] rfl rfl (by kernel_rfl) (fun _ _ _ h => h) (Or.inl ⟨by rfl, ?_⟩) hHeld ?_ ?_
                 rotate_left
                 ·rintro w' ⟨s0, s1, s2, s3⟩
                  go_simp
                  with_reducible rfl
                 rotate_left
                 ·simp only [Act.put, List.setIfInBounds_toArray, List.set_cons_zero, List.set_cons_succ, i64_w, i32_w]
                  rfl
                 refine take_ (i := 2) (N := some 67) (v := ?_) (a' := ?_) #[true, false, true, false, false, false, false] rfl rfl (by kernel_rfl) (fun _ _ _ h => h) (Or.inl ⟨by rfl, ?_⟩) hHeld ?_ ?_
                 rotate_left
                 ·rintro w' ⟨s0, s1, s2, s3⟩
                  go_simp
                  with_reducible rfl
                 rotate_left
                 ·simp only [Act.put, List.setIfInBounds_toArray, List.set_cons_zero, List.set_cons_succ, i64_w, i32_w]
                  rfl
                 refine join_ (σ := Value × Value × Nat) 1 bq_0 (fun s_ => [(66, .agg #[s_.1]), (68, .agg #[.string t238, .bool t239, .string t240]), (69, .agg #[s_.2.1]), (12, .pointer (some ⟨s_.2.2, 0, none⟩))]) (fun s_ w' => (w'.cell? ⟨gb199, 0, none⟩ = some (.slice A0_0 l0_0.length c0_0) ∧ w'.cell? ⟨gb200, 0, none⟩ = some (.string a1_0) ∧ w'.cell? ⟨gb200, 1, none⟩ = some (.bool a1_1) ∧ w'.cell? ⟨gb200, 2, none⟩ = some (.string a1_2)) ∧ (Kd.R k38 38 w' w.heap.size (fun k_ => some k_ ≠ (s_.2.1 : Value).ownBlock ∧ some k_ ≠ (.slice Ao32 t209.length co32 : Value).ownBlock ∧ some k_ ≠ (.slice Ao39 t230.length co39 : Value).ownBlock ∧ some k_ ≠ (.slice Ao50 t233.length co50 : Value).ownBlock) s_.1 t235) ∧ (Kd.R k38 38 w' w.heap.size (fun k_ => some k_ ≠ (s_.1 : Value).ownBlock ∧ some k_ ≠ (.slice Ao32 t209.length co32 : Value).ownBlock ∧ some k_ ≠ (.slice Ao39 t230.length co39 : Value).ownBlock ∧ some k_ ≠ (.slice Ao50 t233.length co50 : Value).ownBlock) s_.2.1 t241) ∧ (Kd.R k38 38 w' w.heap.size (fun k_ => some k_ ≠ (s_.1 : Value).ownBlock ∧ some k_ ≠ (s_.2.1 : Value).ownBlock ∧ some k_ ≠ (.slice Ao39 t230.length co39 : Value).ownBlock ∧ some k_ ≠ (.slice Ao50 t233.length co50 : Value).ownBlock) (.slice Ao32 t209.length co32) t209) ∧ (Kd.R k38 38 w' w.heap.size (fun k_ => some k_ ≠ (s_.1 : Value).ownBlock ∧ some k_ ≠ (s_.2.1 : Value).ownBlock ∧ some k_ ≠ (.slice Ao32 t209.length co32 : Value).ownBlock ∧ some k_ ≠ (.slice Ao50 t233.length co50 : Value).ownBlock) (.slice Ao39 t230.length co39) t230) ∧ (Kd.R k38 38 w' w.heap.size (fun k_ => some k_ ≠ (s_.1 : Value).ownBlock ∧ some k_ ≠ (s_.2.1 : Value).ownBlock ∧ some k_ ≠ (.slice Ao32 t209.length co32 : Value).ownBlock ∧ some k_ ≠ (.slice Ao39 t230.length co39 : Value).ownBlock) (.slice Ao50 t233.length co50) t233) ∧ (w'.heap[gb199]? = some (.cells #[.slice A0_0 l0_0.length c0_0] 24 (0, 0))) ∧ (w'.heap[gb200]? = some (.cells #[.string a1_0, .bool a1_1, .string a1_2] 35 (0, 0))) ∧ (w'.heap[gb212]? = some (.cells #[.slice Ao32 t209.length co32] 28 (0, 0))) ∧ (w'.heap[gb216]? = some (.cells #[.slice Ao39 t230.length co39] 28 (0, 0))) ∧ (w'.heap[gb223]? = some (.cells #[.slice Ao50 t233.length co50] 28 (0, 0))) ∧ (w'.heap[s_.2.2]? = some (.cells #[.slice none 0 0] 28 (0, 0))) ∧ (w.heap.size ≤ s_.2.2) ∧ (w.heap.size ≤ s_.2.2) ∧ (gb199 ≠ s_.2.2) ∧ (s_.2.2 ≠ gb199) ∧ (gb200 ≠ s_.2.2) ∧ (s_.2.2 ≠ gb200) ∧ (gb212 ≠ s_.2.2) ∧ (s_.2.2 ≠ gb212) ∧ (gb216 ≠ s_.2.2) ∧ (s_.2.2 ≠ gb216) ∧ (gb223 ≠ s_.2.2) ∧ (s_.2.2 ≠ gb223) ∧ (Below w.heap.size w w')) ?_ ?_
                 rotate_left
                 ·intro hCont
                  refine two_ (i := 1) (j := 5) (Ni := some 66) (Nj := some 12) #[true, true, true, false, false, false, false] #[true, false, true, false, false, true, false] rfl rfl rfl rfl (by kernel_rfl) (by decide) (by decide) (fun K hK => ?_) (fun K hK => ?_)
                  ·skip
                   refine goes_ Try.func17 (by kernel_rfl) rfl #[.agg #[.slice A0_0 l0_0.length c0_0]] (by rfl) rfl rfl tq_4 ?_
                   with_reducible refine (laws_toView.calls kj102 _ _ l0_0 t235 _ ?side1 ?side2 A105.out).mono ?_
                   (case side1 => exact tq_19)
                   (case side2 => exact HC0_0.out)
                   rintro e w111 ⟨v236, rfl, ho0, hb⟩
                   refine ⟨_, rfl, ?_⟩
                   have n0_ := Aside0.mk (Kd.R_elder' tq_15 (Kd.R_base ho0) hb)
                   have n1_ := Aside0.mk (Kd.R_elder' tq_14 (Kd.R_base ho0) hb)
                   have n2_ := Aside0.mk (Kd.R_elder' tq_13 (Kd.R_base ho0) hb)
                   have n3_ := Aside0.mk (Kd.R_lower (Kd.R_new' (Kd.R_new' (Kd.R_new' ho0 (Kd.R_lt tq_15)) (Kd.R_lt tq_14)) (Kd.R_lt tq_13)) (below_size tq_3))
                   have n4_ := Aside0.mk (blk_below tq_1 hb)
                   have n5_ := Aside0.mk (blk_below tq_2 hb)
                   have n6_ := Aside0.mk (blk_below tq_5 hb)
                   have n7_ := Aside0.mk (blk_below tq_6 hb)
                   have n8_ := Aside0.mk (blk_below tq_8 hb)
                   have n9_ := Aside0.mk (below_step tq_3 hb)
                   clear HO_213000 HO_217000 HO_224000 BK199 BK200 BK212 BK216 BK223 HB
                   have HO_213000 := n0_
                   have HO_217000 := n1_
                   have HO_224000 := n2_
                   have HO237 := n3_
                   have BK199 := n4_
                   have BK200 := n5_
                   have BK212 := n6_
                   have BK216 := n7_
                   have BK223 := n8_
                   have HB := n9_
                   clear n0_ n1_ n2_ n3_ n4_ n5_ n6_ n7_ n8_ n9_
                   (try clear hb)
                   (try clear hb2)
                   (try clear hk)
                   (try clear hi)
                   (try clear ho0)
                   refine hK.out _ _ ⟨(blk_cell BK199.out 0).trans rfl, (blk_cell BK200.out 0).trans rfl, (blk_cell BK200.out 1).trans rfl, (blk_cell BK200.out 2).trans rfl⟩ (fun hHeld => ?_)
                   clear hK K
                   refine norm_ (a' := ?_) ?_ ?_
                   rotate_left
                   ·show Act.put _ (some 66) _ = _
                    simp only [Act.put, List.setIfInBounds_toArray, List.set_cons_zero, List.set_cons_succ, i64_w, i32_w]
                    rfl
                   refine two_ (i := 3) (j := 5) (Ni := some 68) (Nj := some 12) #[true, true, true, true, false, false, false] bq_21 rfl rfl rfl rfl (by kernel_rfl) (by decide) (by decide) (fun K hK => ?_) (fun K hK => ?_)
                   ·skip
                    refine goes_ Try.func24 (by kernel_rfl) rfl #[.agg #[.string a1_0, .bool a1_1, .string a1_2]] (by rfl) rfl rfl tq_4 ?_
                    with_reducible refine (laws_toItem.calls a1_0 a1_1 a1_2 t238 t239 t240 _ A106.out).mono ?_
                    rintro e w112 ⟨rfl, hb⟩
                    refine ⟨_, rfl, ?_⟩
                    have n0_ := Aside0.mk (Kd.R_below tq_15 hb)
                    have n1_ := Aside0.mk (Kd.R_below tq_14 hb)
                    have n2_ := Aside0.mk (Kd.R_below tq_13 hb)
                    have n3_ := Aside0.mk (Kd.R_below tq_27 hb)
                    have n4_ := Aside0.mk (blk_below tq_1 hb)
                    have n5_ := Aside0.mk (blk_below tq_2 hb)
                    have n6_ := Aside0.mk (blk_below tq_5 hb)
                    have n7_ := Aside0.mk (blk_below tq_6 hb)
                    have n8_ := Aside0.mk (blk_below tq_8 hb)
                    have n9_ := Aside0.mk (below_step tq_3 hb)
                    clear HO_213000 HO_217000 HO_224000 HO237 BK199 BK200 BK212 BK216 BK223 HB
                    have HO_213000 := n0_
                    have HO_217000 := n1_
                    have HO_224000 := n2_
                    have HO237 := n3_
                    have BK199 := n4_
                    have BK200 := n5_
                    have BK212 := n6_
                    have BK216 := n7_
                    have BK223 := n8_
                    have HB := n9_
                    clear n0_ n1_ n2_ n3_ n4_ n5_ n6_ n7_ n8_ n9_
                    (try clear hb)
                    (try clear hb2)
                    (try clear hk)
                    (try clear hi)
                    obtain ⟨Ao113, co113, eo113⟩ := Kd.R_slice HO237.out
                    (first | subst eo113 | (injection eo113 with f1_ f2_ f3_; have f4_ := f1_.symm; have f5_ := f3_.symm; clear f1_ f2_ f3_; subst f4_; subst f5_))
                    refine hK.out _ _ ⟨(blk_cell BK199.out 0).trans rfl, (blk_cell BK200.out 0).trans rfl, (blk_cell BK200.out 1).trans rfl, (blk_cell BK200.out 2).trans rfl⟩ (fun hHeld => ?_)
                    clear hK K
                    refine norm_ (a' := ?_) ?_ ?_
                    rotate_left
                    ·show Act.put _ (some 68) _ = _
                     simp only [Act.put, List.setIfInBounds_toArray, List.set_cons_zero, List.set_cons_succ, i64_w, i32_w]
                     rfl
                    refine two_ (i := 4) (j := 5) (Ni := some 69) (Nj := some 12) #[true, true, true, true, true, false, false] bq_10 rfl rfl rfl rfl (by kernel_rfl) (by decide) (by decide) (fun K hK => ?_) (fun K hK => ?_)
                    ·skip
                     refine goes_ Try.func25 (by kernel_rfl) rfl #[.agg #[.slice Ao113 t235.length co113], .agg #[.string t238, .bool t239, .string t240]] (by rfl) rfl rfl tq_4 ?_
                     with_reducible refine (impl_PutItem.calls _ _ t235 t238 t239 t240 t241 _ ?side1 ?side2 A107.out).mono ?_
                     (case side1 => exact tq_50)
                     (case side2 => exact (Kd.R_reads' HO237.out).2.1)
                     rintro e w114 ⟨v242, rfl, ho0, hb⟩
                     refine ⟨_, rfl, ?_⟩
                     have n0_ := Aside0.mk (Kd.R_elder' tq_15 (Kd.R_base ho0) hb)
                     have n1_ := Aside0.mk (Kd.R_elder' tq_14 (Kd.R_base ho0) hb)
                     have n2_ := Aside0.mk (Kd.R_elder' tq_13 (Kd.R_base ho0) hb)
                     have n3_ := Aside0.mk (Kd.R_elder' tq_27 (Kd.R_base ho0) hb)
                     have n4_ := Aside0.mk (Kd.R_lower (Kd.R_new' (Kd.R_new' (Kd.R_new' (Kd.R_new' ho0 (Kd.R_lt tq_15)) (Kd.R_lt tq_14)) (Kd.R_lt tq_13)) (Kd.R_lt tq_27)) (below_size tq_3))
                     have n5_ := Aside0.mk (blk_below tq_1 hb)
                     have n6_ := Aside0.mk (blk_below tq_2 hb)
                     have n7_ := Aside0.mk (blk_below tq_5 hb)
                     have n8_ := Aside0.mk (blk_below tq_6 hb)
                     have n9_ := Aside0.mk (blk_below tq_8 hb)
                     have n10_ := Aside0.mk (below_step tq_3 hb)
                     clear HO_213000 HO_217000 HO_224000 HO237 BK199 BK200 BK212 BK216 BK223 HB
                     have HO_213000 := n0_
                     have HO_217000 := n1_
                     have HO_224000 := n2_
                     have HO237 := n3_
                     have HO243 := n4_
                     have BK199 := n5_
                     have BK200 := n6_
                     have BK212 := n7_
                     have BK216 := n8_
                     have BK223 := n9_
                     have HB := n10_
                     clear n0_ n1_ n2_ n3_ n4_ n5_ n6_ n7_ n8_ n9_ n10_
                     (try clear hb)
                     (try clear hb2)
                     (try clear hk)
                     (try clear hi)
                     (try clear ho0)
                     refine hK.out _ _ ⟨(blk_cell BK199.out 0).trans rfl, (blk_cell BK200.out 0).trans rfl, (blk_cell BK200.out 1).trans rfl, (blk_cell BK200.out 2).trans rfl⟩ (fun hHeld => ?_)
                     clear hK K
                     refine norm_ (a' := ?_) ?_ ?_
                     rotate_left
                     ·show Act.put _ (some 69) _ = _
                      simp only [Act.put, List.setIfInBounds_toArray, List.set_cons_zero, List.set_cons_succ, i64_w, i32_w]
                      rfl
                     refine one_ (i := 5) (N := some 12) bq_0 rfl rfl (by kernel_rfl) (by decide) (fun K hK => ?_)
                     refine box_step ?hg (N := 12) ?hd (cs := #[.slice none 0 0]) (t := 28) ?hr ?_; (case hd => rfl); (case hg => rfl); (case hr => first | (go_simp; done) | (go_simp; rfl))
                     intro gb244 hg w115 hbox hb
                     have n0_ := Aside0.mk (Kd.R_below tq_15 hb)
                     have n1_ := Aside0.mk (Kd.R_below tq_14 hb)
                     have n2_ := Aside0.mk (Kd.R_below tq_13 hb)
                     have n3_ := Aside0.mk (Kd.R_below tq_27 hb)
                     have n4_ := Aside0.mk (Kd.R_below (by (with_reducible repeat (first | apply Kd.R_alloc | apply Kd.R_drewN | apply Kd.R_drew)); exact HO243.out) hb)
                     have n5_ := Aside0.mk (blk_below tq_1 hb)
                     have n6_ := Aside0.mk (blk_below tq_2 hb)
                     have n7_ := Aside0.mk (blk_below tq_5 hb)
                     have n8_ := Aside0.mk (blk_below tq_6 hb)
                     have n9_ := Aside0.mk (blk_below tq_8 hb)
                     have n10_ := Aside0.mk (below_step tq_3 hb)
                     have n11_ := Aside0.mk (hbox)
                     have n12_ := Aside0.mk (gb_ hg tq_3)
                     have n13_ := Aside0.mk (gb_ hg tq_3)
                     have n14_ := Aside0.mk (ltne_ hg (blk_lt tq_1))
                     have n15_ := Aside0.mk (gtne_ hg (blk_lt tq_1))
                     have n16_ := Aside0.mk (ltne_ hg (blk_lt tq_2))
                     have n17_ := Aside0.mk (gtne_ hg (blk_lt tq_2))
                     have n18_ := Aside0.mk (ltne_ hg (blk_lt tq_5))
                     have n19_ := Aside0.mk (gtne_ hg (blk_lt tq_5))
                     have n20_ := Aside0.mk (ltne_ hg (blk_lt tq_6))
                     have n21_ := Aside0.mk (gtne_ hg (blk_lt tq_6))
                     have n22_ := Aside0.mk (ltne_ hg (blk_lt tq_8))
                     have n23_ := Aside0.mk (gtne_ hg (blk_lt tq_8))
                     clear HO_213000 HO_217000 HO_224000 HO237 HO243 BK199 BK200 BK212 BK216 BK223 HB
                     have HO_213000 := n0_
                     have HO_217000 := n1_
                     have HO_224000 := n2_
                     have HO237 := n3_
                     have HO243 := n4_
                     have BK199 := n5_
                     have BK200 := n6_
                     have BK212 := n7_
                     have BK216 := n8_
                     have BK223 := n9_
                     have HB := n10_
                     have BK244 := n11_
                     have GW244 := n12_
                     have GE244 := n13_
                     have NB199_244 := n14_
                     have NB244_199 := n15_
                     have NB200_244 := n16_
                     have NB244_200 := n17_
                     have NB212_244 := n18_
                     have NB244_212 := n19_
                     have NB216_244 := n20_
                     have NB244_216 := n21_
                     have NB223_244 := n22_
                     have NB244_223 := n23_
                     clear n0_ n1_ n2_ n3_ n4_ n5_ n6_ n7_ n8_ n9_ n10_ n11_ n12_ n13_ n14_ n15_ n16_ n17_ n18_ n19_ n20_ n21_ n22_ n23_ hb hbox hg
                     refine hK.out _ _ ⟨(blk_cell BK199.out 0).trans rfl, (blk_cell BK200.out 0).trans rfl, (blk_cell BK200.out 1).trans rfl, (blk_cell BK200.out 2).trans rfl⟩ (fun hHeld => ?_)
                     clear hK K
                     refine norm_ (a' := ?_) ?_ ?_
                     rotate_left
                     ·show Act.put _ (some 12) _ = _
                      simp only [Act.put, List.setIfInBounds_toArray, List.set_cons_zero, List.set_cons_succ, i64_w, i32_w]
                      rfl
                     exact norm_ tq_34 (hCont (.slice Ao113 t235.length co113, v242, gb244) _ ⟨hHeld, tq_49, tq_48, tq_47, tq_46, tq_45, tq_1, tq_2, tq_5, tq_6, tq_8, tq_25, GW244.out, GE244.out, NB199_244.out, NB244_199.out, NB200_244.out, NB244_200.out, NB212_244.out, NB244_212.out, NB216_244.out, NB244_216.out, NB223_244.out, NB244_223.out, tq_7⟩)
                    ·skip
                     refine box_step ?hg (N := 12) ?hd (cs := #[.slice none 0 0]) (t := 28) ?hr ?_; (case hd => rfl); (case hg => rfl); (case hr => first | (go_simp; done) | (go_simp; rfl))
                     intro gb244 hg w113 hbox hb
                     have n0_ := Aside0.mk (Kd.R_below tq_15 hb)
                     have n1_ := Aside0.mk (Kd.R_below tq_14 hb)
                     have n2_ := Aside0.mk (Kd.R_below tq_13 hb)
                     have n3_ := Aside0.mk (Kd.R_below tq_27 hb)
                     have n4_ := Aside0.mk (blk_below tq_1 hb)
                     have n5_ := Aside0.mk (blk_below tq_2 hb)
                     have n6_ := Aside0.mk (blk_below tq_5 hb)
                     have n7_ := Aside0.mk (blk_below tq_6 hb)
                     have n8_ := Aside0.mk (blk_below tq_8 hb)
                     have n9_ := Aside0.mk (below_step tq_3 hb)
                     have n10_ := Aside0.mk (hbox)
                     have n11_ := Aside0.mk (gb_ hg tq_3)
                     have n12_ := Aside0.mk (gb_ hg tq_3)
                     have n13_ := Aside0.mk (ltne_ hg (blk_lt tq_1))
                     have n14_ := Aside0.mk (gtne_ hg (blk_lt tq_1))
                     have n15_ := Aside0.mk (ltne_ hg (blk_lt tq_2))
                     have n16_ := Aside0.mk (gtne_ hg (blk_lt tq_2))
                     have n17_ := Aside0.mk (ltne_ hg (blk_lt tq_5))
                     have n18_ := Aside0.mk (gtne_ hg (blk_lt tq_5))
                     have n19_ := Aside0.mk (ltne_ hg (blk_lt tq_6))
                     have n20_ := Aside0.mk (gtne_ hg (blk_lt tq_6))
                     have n21_ := Aside0.mk (ltne_ hg (blk_lt tq_8))
                     have n22_ := Aside0.mk (gtne_ hg (blk_lt tq_8))
                     clear HO_213000 HO_217000 HO_224000 HO237 BK199 BK200 BK212 BK216 BK223 HB
                     have HO_213000 := n0_
                     have HO_217000 := n1_
                     have HO_224000 := n2_
                     have HO237 := n3_
                     have BK199 := n4_
                     have BK200 := n5_
                     have BK212 := n6_
                     have BK216 := n7_
                     have BK223 := n8_
                     have HB := n9_
                     have BK244 := n10_
                     have GW244 := n11_
                     have GE244 := n12_
                     have NB199_244 := n13_
                     have NB244_199 := n14_
                     have NB200_244 := n15_
                     have NB244_200 := n16_
                     have NB212_244 := n17_
                     have NB244_212 := n18_
                     have NB216_244 := n19_
                     have NB244_216 := n20_
                     have NB223_244 := n21_
                     have NB244_223 := n22_
                     clear n0_ n1_ n2_ n3_ n4_ n5_ n6_ n7_ n8_ n9_ n10_ n11_ n12_ n13_ n14_ n15_ n16_ n17_ n18_ n19_ n20_ n21_ n22_ hb hbox hg
                     obtain ⟨Ao114, co114, eo114⟩ := Kd.R_slice HO237.out
                     (first | subst eo114 | (injection eo114 with f1_ f2_ f3_; have f4_ := f1_.symm; have f5_ := f3_.symm; clear f1_ f2_ f3_; subst f4_; subst f5_))
                     refine hK.out _ _ ⟨(blk_cell BK199.out 0).trans rfl, (blk_cell BK200.out 0).trans rfl, (blk_cell BK200.out 1).trans rfl, (blk_cell BK200.out 2).trans rfl⟩ (fun hHeld => ?_)
                     clear hK K
                     refine norm_ (a' := ?_) ?_ ?_
                     rotate_left
                     ·show Act.put _ (some 12) _ = _
                      simp only [Act.put, List.setIfInBounds_toArray, List.set_cons_zero, List.set_cons_succ, i64_w, i32_w]
                      rfl
                     refine one_ (i := 4) (N := some 69) bq_0 rfl rfl (by kernel_rfl) (by decide) (fun K hK => ?_)
                     refine goes_ Try.func25 (by kernel_rfl) rfl #[.agg #[.slice Ao114 t235.length co114], .agg #[.string t238, .bool t239, .string t240]] (by rfl) rfl rfl tq_4 ?_
                     with_reducible refine (impl_PutItem.calls _ _ t235 t238 t239 t240 t241 _ ?side1 ?side2 A107.out).mono ?_
                     (case side1 => exact tq_50)
                     (case side2 => exact (Kd.R_reads' HO237.out).2.1)
                     rintro e w115 ⟨v242, rfl, ho0, hb⟩
                     refine ⟨_, rfl, ?_⟩
                     have n0_ := Aside0.mk (Kd.R_elder' tq_15 (Kd.R_base ho0) hb)
                     have n1_ := Aside0.mk (Kd.R_elder' tq_14 (Kd.R_base ho0) hb)
                     have n2_ := Aside0.mk (Kd.R_elder' tq_13 (Kd.R_base ho0) hb)
                     have n3_ := Aside0.mk (Kd.R_elder' tq_27 (Kd.R_base ho0) hb)
                     have n4_ := Aside0.mk (Kd.R_lower (Kd.R_new' (Kd.R_new' (Kd.R_new' (Kd.R_new' ho0 (Kd.R_lt tq_15)) (Kd.R_lt tq_14)) (Kd.R_lt tq_13)) (Kd.R_lt tq_27)) (below_size tq_7))
                     have n5_ := Aside0.mk (blk_below tq_1 hb)
                     have n6_ := Aside0.mk (blk_below tq_2 hb)
                     have n7_ := Aside0.mk (blk_below tq_5 hb)
                     have n8_ := Aside0.mk (blk_below tq_6 hb)
                     have n9_ := Aside0.mk (blk_below tq_8 hb)
                     have n10_ := Aside0.mk (blk_below tq_25 hb)
                     have n11_ := Aside0.mk (below_step tq_7 hb)
                     clear HO_213000 HO_217000 HO_224000 HO237 BK199 BK200 BK212 BK216 BK223 BK244 HB
                     have HO_213000 := n0_
                     have HO_217000 := n1_
                     have HO_224000 := n2_
                     have HO237 := n3_
                     have HO243 := n4_
                     have BK199 := n5_
                     have BK200 := n6_
                     have BK212 := n7_
                     have BK216 := n8_
                     have BK223 := n9_
                     have BK244 := n10_
                     have HB := n11_
                     clear n0_ n1_ n2_ n3_ n4_ n5_ n6_ n7_ n8_ n9_ n10_ n11_
                     (try clear hb)
                     (try clear hb2)
                     (try clear hk)
                     (try clear hi)
                     (try clear ho0)
                     refine hK.out _ _ ⟨(blk_cell BK199.out 0).trans rfl, (blk_cell BK200.out 0).trans rfl, (blk_cell BK200.out 1).trans rfl, (blk_cell BK200.out 2).trans rfl⟩ (fun hHeld => ?_)
                     clear hK K
                     refine norm_ (a' := ?_) ?_ ?_
                     rotate_left
                     ·show Act.put _ (some 69) _ = _
                      simp only [Act.put, List.setIfInBounds_toArray, List.set_cons_zero, List.set_cons_succ, i64_w, i32_w]
                      rfl
                     exact norm_ tq_34 (hCont (.slice Ao114 t235.length co114, v242, gb244) _ ⟨hHeld, tq_49, tq_48, tq_47, tq_46, tq_45, tq_1, tq_2, tq_5, tq_6, tq_8, tq_25, GW244.out, GE244.out, NB199_244.out, NB244_199.out, NB200_244.out, NB244_200.out, NB212_244.out, NB244_212.out, NB216_244.out, NB244_216.out, NB223_244.out, NB244_223.out, tq_7⟩)
                   ·skip
                    refine box_step ?hg (N := 12) ?hd (cs := #[.slice none 0 0]) (t := 28) ?hr ?_; (case hd => rfl); (case hg => rfl); (case hr => first | (go_simp; done) | (go_simp; rfl))
                    intro gb244 hg w112 hbox hb
                    have n0_ := Aside0.mk (Kd.R_below tq_15 hb)
                    have n1_ := Aside0.mk (Kd.R_below tq_14 hb)
                    have n2_ := Aside0.mk (Kd.R_below tq_13 hb)
                    have n3_ := Aside0.mk (Kd.R_below tq_27 hb)
                    have n4_ := Aside0.mk (blk_below tq_1 hb)
                    have n5_ := Aside0.mk (blk_below tq_2 hb)
                    have n6_ := Aside0.mk (blk_below tq_5 hb)
                    have n7_ := Aside0.mk (blk_below tq_6 hb)
                    have n8_ := Aside0.mk (blk_below tq_8 hb)
                    have n9_ := Aside0.mk (below_step tq_3 hb)
                    have n10_ := Aside0.mk (hbox)
                    have n11_ := Aside0.mk (gb_ hg tq_3)
                    have n12_ := Aside0.mk (gb_ hg tq_3)
                    have n13_ := Aside0.mk (ltne_ hg (blk_lt tq_1))
                    have n14_ := Aside0.mk (gtne_ hg (blk_lt tq_1))
                    have n15_ := Aside0.mk (ltne_ hg (blk_lt tq_2))
                    have n16_ := Aside0.mk (gtne_ hg (blk_lt tq_2))
                    have n17_ := Aside0.mk (ltne_ hg (blk_lt tq_5))
                    have n18_ := Aside0.mk (gtne_ hg (blk_lt tq_5))
                    have n19_ := Aside0.mk (ltne_ hg (blk_lt tq_6))
                    have n20_ := Aside0.mk (gtne_ hg (blk_lt tq_6))
                    have n21_ := Aside0.mk (ltne_ hg (blk_lt tq_8))
                    have n22_ := Aside0.mk (gtne_ hg (blk_lt tq_8))
                    clear HO_213000 HO_217000 HO_224000 HO237 BK199 BK200 BK212 BK216 BK223 HB
                    have HO_213000 := n0_
                    have HO_217000 := n1_
                    have HO_224000 := n2_
                    have HO237 := n3_
                    have BK199 := n4_
                    have BK200 := n5_
                    have BK212 := n6_
                    have BK216 := n7_
                    have BK223 := n8_
                    have HB := n9_
                    have BK244 := n10_
                    have GW244 := n11_
                    have GE244 := n12_
                    have NB199_244 := n13_
                    have NB244_199 := n14_
                    have NB200_244 := n15_
                    have NB244_200 := n16_
                    have NB212_244 := n17_
                    have NB244_212 := n18_
                    have NB216_244 := n19_
                    have NB244_216 := n20_
                    have NB223_244 := n21_
                    have NB244_223 := n22_
                    clear n0_ n1_ n2_ n3_ n4_ n5_ n6_ n7_ n8_ n9_ n10_ n11_ n12_ n13_ n14_ n15_ n16_ n17_ n18_ n19_ n20_ n21_ n22_ hb hbox hg
                    refine hK.out _ _ ⟨(blk_cell BK199.out 0).trans rfl, (blk_cell BK200.out 0).trans rfl, (blk_cell BK200.out 1).trans rfl, (blk_cell BK200.out 2).trans rfl⟩ (fun hHeld => ?_)
                    clear hK K
                    refine norm_ (a' := ?_) ?_ ?_
                    rotate_left
                    ·show Act.put _ (some 12) _ = _
                     simp only [Act.put, List.setIfInBounds_toArray, List.set_cons_zero, List.set_cons_succ, i64_w, i32_w]
                     rfl
                    refine one_ (i := 3) (N := some 68) bq_10 rfl rfl (by kernel_rfl) (by decide) (fun K hK => ?_)
                    refine goes_ Try.func24 (by kernel_rfl) rfl #[.agg #[.string a1_0, .bool a1_1, .string a1_2]] (by rfl) rfl rfl tq_4 ?_
                    with_reducible refine (laws_toItem.calls a1_0 a1_1 a1_2 t238 t239 t240 _ A106.out).mono ?_
                    rintro e w113 ⟨rfl, hb⟩
                    refine ⟨_, rfl, ?_⟩
                    have n0_ := Aside0.mk (Kd.R_below tq_15 hb)
                    have n1_ := Aside0.mk (Kd.R_below tq_14 hb)
                    have n2_ := Aside0.mk (Kd.R_below tq_13 hb)
                    have n3_ := Aside0.mk (Kd.R_below tq_27 hb)
                    have n4_ := Aside0.mk (blk_below tq_1 hb)
                    have n5_ := Aside0.mk (blk_below tq_2 hb)
                    have n6_ := Aside0.mk (blk_below tq_5 hb)
                    have n7_ := Aside0.mk (blk_below tq_6 hb)
                    have n8_ := Aside0.mk (blk_below tq_8 hb)
                    have n9_ := Aside0.mk (blk_below tq_25 hb)
                    have n10_ := Aside0.mk (below_step tq_7 hb)
                    clear HO_213000 HO_217000 HO_224000 HO237 BK199 BK200 BK212 BK216 BK223 BK244 HB
                    have HO_213000 := n0_
                    have HO_217000 := n1_
                    have HO_224000 := n2_
                    have HO237 := n3_
                    have BK199 := n4_
                    have BK200 := n5_
                    have BK212 := n6_
                    have BK216 := n7_
                    have BK223 := n8_
                    have BK244 := n9_
                    have HB := n10_
                    clear n0_ n1_ n2_ n3_ n4_ n5_ n6_ n7_ n8_ n9_ n10_
                    (try clear hb)
                    (try clear hb2)
                    (try clear hk)
                    (try clear hi)
                    obtain ⟨Ao114, co114, eo114⟩ := Kd.R_slice HO237.out
                    (first | subst eo114 | (injection eo114 with f1_ f2_ f3_; have f4_ := f1_.symm; have f5_ := f3_.symm; clear f1_ f2_ f3_; subst f4_; subst f5_))
                    refine hK.out _ _ ⟨(blk_cell BK199.out 0).trans rfl, (blk_cell BK200.out 0).trans rfl, (blk_cell BK200.out 1).trans rfl, (blk_cell BK200.out 2).trans rfl⟩ (fun hHeld => ?_)
                    clear hK K
                    refine norm_ (a' := ?_) ?_ ?_
                    rotate_left
                    ·show Act.put _ (some 68) _ = _
                     simp only [Act.put, List.setIfInBounds_toArray, List.set_cons_zero, List.set_cons_succ, i64_w, i32_w]
                     rfl
                    refine one_ (i := 4) (N := some 69) bq_0 rfl rfl (by kernel_rfl) (by decide) (fun K hK => ?_)
                    refine goes_ Try.func25 (by kernel_rfl) rfl #[.agg #[.slice Ao114 t235.length co114], .agg #[.string t238, .bool t239, .string t240]] (by rfl) rfl rfl tq_4 ?_
                    with_reducible refine (impl_PutItem.calls _ _ t235 t238 t239 t240 t241 _ ?side1 ?side2 A107.out).mono ?_
                    (case side1 => exact tq_50)
                    (case side2 => exact (Kd.R_reads' HO237.out).2.1)
                    rintro e w115 ⟨v242, rfl, ho0, hb⟩
                    refine ⟨_, rfl, ?_⟩
                    have n0_ := Aside0.mk (Kd.R_elder' tq_15 (Kd.R_base ho0) hb)
                    have n1_ := Aside0.mk (Kd.R_elder' tq_14 (Kd.R_base ho0) hb)
                    have n2_ := Aside0.mk (Kd.R_elder' tq_13 (Kd.R_base ho0) hb)
                    have n3_ := Aside0.mk (Kd.R_elder' tq_27 (Kd.R_base ho0) hb)
                    have n4_ := Aside0.mk (Kd.R_lower (Kd.R_new' (Kd.R_new' (Kd.R_new' (Kd.R_new' ho0 (Kd.R_lt tq_15)) (Kd.R_lt tq_14)) (Kd.R_lt tq_13)) (Kd.R_lt tq_27)) (below_size tq_7))
                    have n5_ := Aside0.mk (blk_below tq_1 hb)
                    have n6_ := Aside0.mk (blk_below tq_2 hb)
                    have n7_ := Aside0.mk (blk_below tq_5 hb)
                    have n8_ := Aside0.mk (blk_below tq_6 hb)
                    have n9_ := Aside0.mk (blk_below tq_8 hb)
                    have n10_ := Aside0.mk (blk_below tq_25 hb)
                    have n11_ := Aside0.mk (below_step tq_7 hb)
                    clear HO_213000 HO_217000 HO_224000 HO237 BK199 BK200 BK212 BK216 BK223 BK244 HB
                    have HO_213000 := n0_
                    have HO_217000 := n1_
                    have HO_224000 := n2_
                    have HO237 := n3_
                    have HO243 := n4_
                    have BK199 := n5_
                    have BK200 := n6_
                    have BK212 := n7_
                    have BK216 := n8_
                    have BK223 := n9_
                    have BK244 := n10_
                    have HB := n11_
                    clear n0_ n1_ n2_ n3_ n4_ n5_ n6_ n7_ n8_ n9_ n10_ n11_
                    (try clear hb)
                    (try clear hb2)
                    (try clear hk)
                    (try clear hi)
                    (try clear ho0)
                    refine hK.out _ _ ⟨(blk_cell BK199.out 0).trans rfl, (blk_cell BK200.out 0).trans rfl, (blk_cell BK200.out 1).trans rfl, (blk_cell BK200.out 2).trans rfl⟩ (fun hHeld => ?_)
                    clear hK K
                    refine norm_ (a' := ?_) ?_ ?_
                    rotate_left
                    ·show Act.put _ (some 69) _ = _
                     simp only [Act.put, List.setIfInBounds_toArray, List.set_cons_zero, List.set_cons_succ, i64_w, i32_w]
                     rfl
                    exact norm_ tq_34 (hCont (.slice Ao114 t235.length co114, v242, gb244) _ ⟨hHeld, tq_49, tq_48, tq_47, tq_46, tq_45, tq_1, tq_2, tq_5, tq_6, tq_8, tq_25, GW244.out, GE244.out, NB199_244.out, NB244_199.out, NB200_244.out, NB244_200.out, NB212_244.out, NB244_212.out, NB216_244.out, NB244_216.out, NB223_244.out, NB244_223.out, tq_7⟩)
                  ·skip
                   refine box_step ?hg (N := 12) ?hd (cs := #[.slice none 0 0]) (t := 28) ?hr ?_; (case hd => rfl); (case hg => rfl); (case hr => first | (go_simp; done) | (go_simp; rfl))
                   intro gb244 hg w111 hbox hb
                   have n0_ := Aside0.mk (Kd.R_below tq_15 hb)
                   have n1_ := Aside0.mk (Kd.R_below tq_14 hb)
                   have n2_ := Aside0.mk (Kd.R_below tq_13 hb)
                   have n3_ := Aside0.mk (blk_below tq_1 hb)
                   have n4_ := Aside0.mk (blk_below tq_2 hb)
                   have n5_ := Aside0.mk (blk_below tq_5 hb)
                   have n6_ := Aside0.mk (blk_below tq_6 hb)
                   have n7_ := Aside0.mk (blk_below tq_8 hb)
                   have n8_ := Aside0.mk (below_step tq_3 hb)
                   have n9_ := Aside0.mk (hbox)
                   have n10_ := Aside0.mk (gb_ hg tq_3)
                   have n11_ := Aside0.mk (gb_ hg tq_3)
                   have n12_ := Aside0.mk (ltne_ hg (blk_lt tq_1))
                   have n13_ := Aside0.mk (gtne_ hg (blk_lt tq_1))
                   have n14_ := Aside0.mk (ltne_ hg (blk_lt tq_2))
                   have n15_ := Aside0.mk (gtne_ hg (blk_lt tq_2))
                   have n16_ := Aside0.mk (ltne_ hg (blk_lt tq_5))
                   have n17_ := Aside0.mk (gtne_ hg (blk_lt tq_5))
                   have n18_ := Aside0.mk (ltne_ hg (blk_lt tq_6))
                   have n19_ := Aside0.mk (gtne_ hg (blk_lt tq_6))
                   have n20_ := Aside0.mk (ltne_ hg (blk_lt tq_8))
                   have n21_ := Aside0.mk (gtne_ hg (blk_lt tq_8))
                   clear HO_213000 HO_217000 HO_224000 BK199 BK200 BK212 BK216 BK223 HB
                   have HO_213000 := n0_
                   have HO_217000 := n1_
                   have HO_224000 := n2_
                   have BK199 := n3_
                   have BK200 := n4_
                   have BK212 := n5_
                   have BK216 := n6_
                   have BK223 := n7_
                   have HB := n8_
                   have BK244 := n9_
                   have GW244 := n10_
                   have GE244 := n11_
                   have NB199_244 := n12_
                   have NB244_199 := n13_
                   have NB200_244 := n14_
                   have NB244_200 := n15_
                   have NB212_244 := n16_
                   have NB244_212 := n17_
                   have NB216_244 := n18_
                   have NB244_216 := n19_
                   have NB223_244 := n20_
                   have NB244_223 := n21_
                   clear n0_ n1_ n2_ n3_ n4_ n5_ n6_ n7_ n8_ n9_ n10_ n11_ n12_ n13_ n14_ n15_ n16_ n17_ n18_ n19_ n20_ n21_ hb hbox hg
                   refine hK.out _ _ ⟨(blk_cell BK199.out 0).trans rfl, (blk_cell BK200.out 0).trans rfl, (blk_cell BK200.out 1).trans rfl, (blk_cell BK200.out 2).trans rfl⟩ (fun hHeld => ?_)
                   clear hK K
                   refine norm_ (a' := ?_) ?_ ?_
                   rotate_left
                   ·show Act.put _ (some 12) _ = _
                    simp only [Act.put, List.setIfInBounds_toArray, List.set_cons_zero, List.set_cons_succ, i64_w, i32_w]
                    rfl
                   refine one_ (i := 1) (N := some 66) bq_21 rfl rfl (by kernel_rfl) (by decide) (fun K hK => ?_)
                   refine goes_ Try.func17 (by kernel_rfl) rfl #[.agg #[.slice A0_0 l0_0.length c0_0]] (by rfl) rfl rfl tq_4 ?_
                   with_reducible refine (laws_toView.calls kj102 _ _ l0_0 t235 _ ?side1 ?side2 A105.out).mono ?_
                   (case side1 => exact tq_19)
                   (case side2 => exact HC0_0.out)
                   rintro e w112 ⟨v236, rfl, ho0, hb⟩
                   refine ⟨_, rfl, ?_⟩
                   have n0_ := Aside0.mk (Kd.R_elder' tq_15 (Kd.R_base ho0) hb)
                   have n1_ := Aside0.mk (Kd.R_elder' tq_14 (Kd.R_base ho0) hb)
                   have n2_ := Aside0.mk (Kd.R_elder' tq_13 (Kd.R_base ho0) hb)
                   have n3_ := Aside0.mk (Kd.R_lower (Kd.R_new' (Kd.R_new' (Kd.R_new' ho0 (Kd.R_lt tq_15)) (Kd.R_lt tq_14)) (Kd.R_lt tq_13)) (below_size tq_7))
                   have n4_ := Aside0.mk (blk_below tq_1 hb)
                   have n5_ := Aside0.mk (blk_below tq_2 hb)
                   have n6_ := Aside0.mk (blk_below tq_5 hb)
                   have n7_ := Aside0.mk (blk_below tq_6 hb)
                   have n8_ := Aside0.mk (blk_below tq_8 hb)
                   have n9_ := Aside0.mk (blk_below tq_25 hb)
                   have n10_ := Aside0.mk (below_step tq_7 hb)
                   clear HO_213000 HO_217000 HO_224000 BK199 BK200 BK212 BK216 BK223 BK244 HB
                   have HO_213000 := n0_
                   have HO_217000 := n1_
                   have HO_224000 := n2_
                   have HO237 := n3_
                   have BK199 := n4_
                   have BK200 := n5_
                   have BK212 := n6_
                   have BK216 := n7_
                   have BK223 := n8_
                   have BK244 := n9_
                   have HB := n10_
                   clear n0_ n1_ n2_ n3_ n4_ n5_ n6_ n7_ n8_ n9_ n10_
                   (try clear hb)
                   (try clear hb2)
                   (try clear hk)
                   (try clear hi)
                   (try clear ho0)
                   refine hK.out _ _ ⟨(blk_cell BK199.out 0).trans rfl, (blk_cell BK200.out 0).trans rfl, (blk_cell BK200.out 1).trans rfl, (blk_cell BK200.out 2).trans rfl⟩ (fun hHeld => ?_)
                   clear hK K
                   refine norm_ (a' := ?_) ?_ ?_
                   rotate_left
                   ·show Act.put _ (some 66) _ = _
                    simp only [Act.put, List.setIfInBounds_toArray, List.set_cons_zero, List.set_cons_succ, i64_w, i32_w]
                    rfl
                   refine one_ (i := 3) (N := some 68) bq_10 rfl rfl (by kernel_rfl) (by decide) (fun K hK => ?_)
                   refine goes_ Try.func24 (by kernel_rfl) rfl #[.agg #[.string a1_0, .bool a1_1, .string a1_2]] (by rfl) rfl rfl tq_4 ?_
                   with_reducible refine (laws_toItem.calls a1_0 a1_1 a1_2 t238 t239 t240 _ A106.out).mono ?_
                   rintro e w113 ⟨rfl, hb⟩
                   refine ⟨_, rfl, ?_⟩
                   have n0_ := Aside0.mk (Kd.R_below tq_15 hb)
                   have n1_ := Aside0.mk (Kd.R_below tq_14 hb)
                   have n2_ := Aside0.mk (Kd.R_below tq_13 hb)
                   have n3_ := Aside0.mk (Kd.R_below tq_27 hb)
                   have n4_ := Aside0.mk (blk_below tq_1 hb)
                   have n5_ := Aside0.mk (blk_below tq_2 hb)
                   have n6_ := Aside0.mk (blk_below tq_5 hb)
                   have n7_ := Aside0.mk (blk_below tq_6 hb)
                   have n8_ := Aside0.mk (blk_below tq_8 hb)
                   have n9_ := Aside0.mk (blk_below tq_25 hb)
                   have n10_ := Aside0.mk (below_step tq_7 hb)
                   clear HO_213000 HO_217000 HO_224000 HO237 BK199 BK200 BK212 BK216 BK223 BK244 HB
                   have HO_213000 := n0_
                   have HO_217000 := n1_
                   have HO_224000 := n2_
                   have HO237 := n3_
                   have BK199 := n4_
                   have BK200 := n5_
                   have BK212 := n6_
                   have BK216 := n7_
                   have BK223 := n8_
                   have BK244 := n9_
                   have HB := n10_
                   clear n0_ n1_ n2_ n3_ n4_ n5_ n6_ n7_ n8_ n9_ n10_
                   (try clear hb)
                   (try clear hb2)
                   (try clear hk)
                   (try clear hi)
                   obtain ⟨Ao114, co114, eo114⟩ := Kd.R_slice HO237.out
                   (first | subst eo114 | (injection eo114 with f1_ f2_ f3_; have f4_ := f1_.symm; have f5_ := f3_.symm; clear f1_ f2_ f3_; subst f4_; subst f5_))
                   refine hK.out _ _ ⟨(blk_cell BK199.out 0).trans rfl, (blk_cell BK200.out 0).trans rfl, (blk_cell BK200.out 1).trans rfl, (blk_cell BK200.out 2).trans rfl⟩ (fun hHeld => ?_)
                   clear hK K
                   refine norm_ (a' := ?_) ?_ ?_
                   rotate_left
                   ·show Act.put _ (some 68) _ = _
                    simp only [Act.put, List.setIfInBounds_toArray, List.set_cons_zero, List.set_cons_succ, i64_w, i32_w]
                    rfl
                   refine one_ (i := 4) (N := some 69) bq_0 rfl rfl (by kernel_rfl) (by decide) (fun K hK => ?_)
                   refine goes_ Try.func25 (by kernel_rfl) rfl #[.agg #[.slice Ao114 t235.length co114], .agg #[.string t238, .bool t239, .string t240]] (by rfl) rfl rfl tq_4 ?_
                   with_reducible refine (impl_PutItem.calls _ _ t235 t238 t239 t240 t241 _ ?side1 ?side2 A107.out).mono ?_
                   (case side1 => exact tq_50)
                   (case side2 => exact (Kd.R_reads' HO237.out).2.1)
                   rintro e w115 ⟨v242, rfl, ho0, hb⟩
                   refine ⟨_, rfl, ?_⟩
                   have n0_ := Aside0.mk (Kd.R_elder' tq_15 (Kd.R_base ho0) hb)
                   have n1_ := Aside0.mk (Kd.R_elder' tq_14 (Kd.R_base ho0) hb)
                   have n2_ := Aside0.mk (Kd.R_elder' tq_13 (Kd.R_base ho0) hb)
                   have n3_ := Aside0.mk (Kd.R_elder' tq_27 (Kd.R_base ho0) hb)
                   have n4_ := Aside0.mk (Kd.R_lower (Kd.R_new' (Kd.R_new' (Kd.R_new' (Kd.R_new' ho0 (Kd.R_lt tq_15)) (Kd.R_lt tq_14)) (Kd.R_lt tq_13)) (Kd.R_lt tq_27)) (below_size tq_7))
                   have n5_ := Aside0.mk (blk_below tq_1 hb)
                   have n6_ := Aside0.mk (blk_below tq_2 hb)
                   have n7_ := Aside0.mk (blk_below tq_5 hb)
                   have n8_ := Aside0.mk (blk_below tq_6 hb)
                   have n9_ := Aside0.mk (blk_below tq_8 hb)
                   have n10_ := Aside0.mk (blk_below tq_25 hb)
                   have n11_ := Aside0.mk (below_step tq_7 hb)
                   clear HO_213000 HO_217000 HO_224000 HO237 BK199 BK200 BK212 BK216 BK223 BK244 HB
                   have HO_213000 := n0_
                   have HO_217000 := n1_
                   have HO_224000 := n2_
                   have HO237 := n3_
                   have HO243 := n4_
                   have BK199 := n5_
                   have BK200 := n6_
                   have BK212 := n7_
                   have BK216 := n8_
                   have BK223 := n9_
                   have BK244 := n10_
                   have HB := n11_
                   clear n0_ n1_ n2_ n3_ n4_ n5_ n6_ n7_ n8_ n9_ n10_ n11_
                   (try clear hb)
                   (try clear hb2)
                   (try clear hk)
                   (try clear hi)
                   (try clear ho0)
                   refine hK.out _ _ ⟨(blk_cell BK199.out 0).trans rfl, (blk_cell BK200.out 0).trans rfl, (blk_cell BK200.out 1).trans rfl, (blk_cell BK200.out 2).trans rfl⟩ (fun hHeld => ?_)
                   clear hK K
                   refine norm_ (a' := ?_) ?_ ?_
                   rotate_left
                   ·show Act.put _ (some 69) _ = _
                    simp only [Act.put, List.setIfInBounds_toArray, List.set_cons_zero, List.set_cons_succ, i64_w, i32_w]
                    rfl
                   exact norm_ tq_34 (hCont (.slice Ao114 t235.length co114, v242, gb244) _ ⟨hHeld, tq_49, tq_48, tq_47, tq_46, tq_45, tq_1, tq_2, tq_5, tq_6, tq_8, tq_25, GW244.out, GE244.out, NB199_244.out, NB244_199.out, NB200_244.out, NB244_200.out, NB212_244.out, NB244_212.out, NB216_244.out, NB244_216.out, NB223_244.out, NB244_223.out, tq_7⟩)
                 rintro ⟨v236, v242, gb244⟩ w116 ⟨hS_, h0_, h1_, h2_, h3_, h4_, h5_, h6_, h7_, h8_, h9_, h10_, h11_, h12_, h13_, h14_, h15_, h16_, h17_, h18_, h19_, h20_, h21_, h22_, h23_⟩
                 have n0_ : Aside0 (Kd.R k38 38 w116 w.heap.size (fun k_ => some k_ ≠ (v242 : Value).ownBlock ∧ some k_ ≠ (.slice Ao32 t209.length co32 : Value).ownBlock ∧ some k_ ≠ (.slice Ao39 t230.length co39 : Value).ownBlock ∧ some k_ ≠ (.slice Ao50 t233.length co50 : Value).ownBlock) v236 t235) := ⟨h0_⟩
                 have n1_ : Aside0 (Kd.R k38 38 w116 w.heap.size (fun k_ => some k_ ≠ (v236 : Value).ownBlock ∧ some k_ ≠ (.slice Ao32 t209.length co32 : Value).ownBlock ∧ some k_ ≠ (.slice Ao39 t230.length co39 : Value).ownBlock ∧ some k_ ≠ (.slice Ao50 t233.length co50 : Value).ownBlock) v242 t241) := ⟨h1_⟩
                 have n2_ : Aside0 (Kd.R k38 38 w116 w.heap.size (fun k_ => some k_ ≠ (v236 : Value).ownBlock ∧ some k_ ≠ (v242 : Value).ownBlock ∧ some k_ ≠ (.slice Ao39 t230.length co39 : Value).ownBlock ∧ some k_ ≠ (.slice Ao50 t233.length co50 : Value).ownBlock) (.slice Ao32 t209.length co32) t209) := ⟨h2_⟩
                 have n3_ : Aside0 (Kd.R k38 38 w116 w.heap.size (fun k_ => some k_ ≠ (v236 : Value).ownBlock ∧ some k_ ≠ (v242 : Value).ownBlock ∧ some k_ ≠ (.slice Ao32 t209.length co32 : Value).ownBlock ∧ some k_ ≠ (.slice Ao50 t233.length co50 : Value).ownBlock) (.slice Ao39 t230.length co39) t230) := ⟨h3_⟩
                 have n4_ : Aside0 (Kd.R k38 38 w116 w.heap.size (fun k_ => some k_ ≠ (v236 : Value).ownBlock ∧ some k_ ≠ (v242 : Value).ownBlock ∧ some k_ ≠ (.slice Ao32 t209.length co32 : Value).ownBlock ∧ some k_ ≠ (.slice Ao39 t230.length co39 : Value).ownBlock) (.slice Ao50 t233.length co50) t233) := ⟨h4_⟩
                 have n5_ : Aside0 (w116.heap[gb199]? = some (.cells #[.slice A0_0 l0_0.length c0_0] 24 (0, 0))) := ⟨h5_⟩
                 have n6_ : Aside0 (w116.heap[gb200]? = some (.cells #[.string a1_0, .bool a1_1, .string a1_2] 35 (0, 0))) := ⟨h6_⟩
                 have n7_ : Aside0 (w116.heap[gb212]? = some (.cells #[.slice Ao32 t209.length co32] 28 (0, 0))) := ⟨h7_⟩
                 have n8_ : Aside0 (w116.heap[gb216]? = some (.cells #[.slice Ao39 t230.length co39] 28 (0, 0))) := ⟨h8_⟩
                 have n9_ : Aside0 (w116.heap[gb223]? = some (.cells #[.slice Ao50 t233.length co50] 28 (0, 0))) := ⟨h9_⟩
                 have n10_ : Aside0 (w116.heap[gb244]? = some (.cells #[.slice none 0 0] 28 (0, 0))) := ⟨h10_⟩
                 have n11_ : Aside0 (w.heap.size ≤ gb244) := ⟨h11_⟩
                 have n12_ : Aside0 (w.heap.size ≤ gb244) := ⟨h12_⟩
                 have n13_ : Aside0 (gb199 ≠ gb244) := ⟨h13_⟩
                 have n14_ : Aside0 (gb244 ≠ gb199) := ⟨h14_⟩
                 have n15_ : Aside0 (gb200 ≠ gb244) := ⟨h15_⟩
                 have n16_ : Aside0 (gb244 ≠ gb200) := ⟨h16_⟩
                 have n17_ : Aside0 (gb212 ≠ gb244) := ⟨h17_⟩
                 have n18_ : Aside0 (gb244 ≠ gb212) := ⟨h18_⟩
                 have n19_ : Aside0 (gb216 ≠ gb244) := ⟨h19_⟩
                 have n20_ : Aside0 (gb244 ≠ gb216) := ⟨h20_⟩
                 have n21_ : Aside0 (gb223 ≠ gb244) := ⟨h21_⟩
                 have n22_ : Aside0 (gb244 ≠ gb223) := ⟨h22_⟩
                 have n23_ : Aside0 (Below w.heap.size w w116) := ⟨h23_⟩
                 clear HO_213000 HO_217000 HO_224000 BK199 BK200 BK212 BK216 BK223 HB h0_ h1_ h2_ h3_ h4_ h5_ h6_ h7_ h8_ h9_ h10_ h11_ h12_ h13_ h14_ h15_ h16_ h17_ h18_ h19_ h20_ h21_ h22_ h23_
                 have HO237 := n0_
                 have HO243 := n1_
                 have HO_213000 := n2_
                 have HO_217000 := n3_
                 have HO_224000 := n4_
                 have BK199 := n5_
                 have BK200 := n6_
                 have BK212 := n7_
                 have BK216 := n8_
                 have BK223 := n9_
                 have BK244 := n10_
                 have GW244 := n11_
                 have GE244 := n12_
                 have NB199_244 := n13_
                 have NB244_199 := n14_
                 have NB200_244 := n15_
                 have NB244_200 := n16_
                 have NB212_244 := n17_
                 have NB244_212 := n18_
                 have NB216_244 := n19_
                 have NB244_216 := n20_
                 have NB223_244 := n21_
                 have NB244_223 := n22_
                 have HB := n23_
                 clear n0_ n1_ n2_ n3_ n4_ n5_ n6_ n7_ n8_ n9_ n10_ n11_ n12_ n13_ n14_ n15_ n16_ n17_ n18_ n19_ n20_ n21_ n22_ n23_
                 have hHeld : w116.cell? ⟨gb199, 0, none⟩ = some (.slice A0_0 l0_0.length c0_0) ∧ w116.cell? ⟨gb200, 0, none⟩ = some (.string a1_0) ∧ w116.cell? ⟨gb200, 1, none⟩ = some (.bool a1_1) ∧ w116.cell? ⟨gb200, 2, none⟩ = some (.string a1_2) := hS_
                 obtain ⟨Ao117, co117, eo117⟩ := Kd.R_slice HO243.out
                 (first | subst eo117 | (injection eo117 with f1_ f2_ f3_; have f4_ := f1_.symm; have f5_ := f3_.symm; clear f1_ f2_ f3_; subst f4_; subst f5_))
                 refine norm_ (a' := ?_) ?_ ?_
                 rotate_left
                 ·simp only [putAll, Act.put, List.setIfInBounds_toArray, List.set_cons_zero, List.set_cons_succ]
                  rfl
                 refine one_ (i := 6) (N := none) #[true, true, true, true, true, true, true] rfl rfl (by kernel_rfl) (by decide) (fun K hK => ?_)
                 have hs118 : w116.cell? ⟨gb244, 0, none⟩ = some (.slice none 0 0) := (blk_cell BK244.out 0).trans rfl
                 have hfs118 := blk_frozen BK244.out 0
                 have hns118_0 := NB199_244.out
                 have hns118_1 := NB200_244.out
                 have hns118_2 := NB212_244.out
                 have hns118_3 := NB216_244.out
                 have hns118_4 := NB223_244.out
                 have hms118_0 := NB244_199.out
                 have hms118_1 := NB244_200.out
                 have hms118_2 := NB244_212.out
                 have hms118_3 := NB244_216.out
                 have hms118_4 := NB244_223.out
                 refine skip_ (w1 := ?_) (by rfl) rfl ?_ ?_
                 rotate_left
                 ·go_simp
                  rfl
                 refine hK.out _ _ ⟨((cell_far (p := ⟨gb244, _, none⟩) NB199_244.out _).trans (hHeld.1)), ((cell_far (p := ⟨gb244, _, none⟩) NB200_244.out _).trans (hHeld.2.1)), ((cell_far (p := ⟨gb244, _, none⟩) NB200_244.out _).trans (hHeld.2.2.1)), ((cell_far (p := ⟨gb244, _, none⟩) NB200_244.out _).trans (hHeld.2.2.2))⟩ (fun hHeld => ?_)
                 clear hK K
                 refine done_ (by kernel_rfl) ?_
                 have hnb119 := NB244_199.out
                 have hnc119 := NB199_244.out
                 have hnb120 := NB244_200.out
                 have hnc120 := NB200_244.out
                 have hnb121 := NB244_212.out
                 have hnc121 := NB212_244.out
                 have hnb122 := NB244_216.out
                 have hnc122 := NB216_244.out
                 have hnb123 := NB244_223.out
                 have hnc123 := NB223_244.out
                 have hcz124_0 := bc_ BK244.out 0
                 have hfz124_0 := blk_frozen BK244.out 0
                 have hnb125 := NB212_199.out
                 have hnc125 := NB199_212.out
                 have hnb126 := NB212_200.out
                 have hnc126 := NB200_212.out
                 have hnb127 := NB212_216.out
                 have hnc127 := NB216_212.out
                 have hnb128 := NB212_223.out
                 have hnc128 := NB223_212.out
                 have hcz129_0 := bc_ BK212.out 0
                 have hfz129_0 := blk_frozen BK212.out 0
                 go_upto_if 73 with (first | ((with_reducible refine gate_callee (f := 19) rfl ?_); refine goesL_ (some 72) rfl rfl Try.func19 (by kernel_rfl) rfl #[.agg #[.slice Ao117 t241.length co117], .agg #[.slice Ao32 t209.length co32]] rfl tq_4 ?_; (with_reducible refine (laws_eqView.calls kj102 _ _ t241 _ _ t209 t245 _ ?side1 ?side2 ?side3 ?side4 A108.out).mono ?_); (case side1 => refine (Kd.R_reads' (e := 38) (base := w.heap.size) (ok := fun k_ => (some k_ ≠ (v236 : Value).ownBlock ∧ (some k_ ≠ (.slice Ao32 t209.length co32 : Value).ownBlock ∧ (some k_ ≠ (.slice Ao39 t230.length co39 : Value).ownBlock ∧ some k_ ≠ (.slice Ao50 t233.length co50 : Value).ownBlock)))) (n := t241.length) (c := co117) ?_).2.2; exact tq_80); (case side2 => exact (Kd.R_reads' HO243.out).2.1); (case side3 => refine (Kd.R_reads' (e := 38) (base := w.heap.size) (ok := fun k_ => (some k_ ≠ (v236 : Value).ownBlock ∧ (some k_ ≠ (.slice Ao117 t241.length co117 : Value).ownBlock ∧ (some k_ ≠ (.slice Ao39 t230.length co39 : Value).ownBlock ∧ some k_ ≠ (.slice Ao50 t233.length co50 : Value).ownBlock)))) (n := t209.length) (c := co32) ?_).2.2; exact tq_79); (case side4 => exact (Kd.R_reads' HO_213000.out).2.1); rintro e w130 ⟨rfl, hb⟩; refine ⟨_, rfl, ?_⟩; have n0_ := Aside0.mk (Kd.R_below tq_79 hb); have n1_ := Aside0.mk (Kd.R_below (by (with_reducible repeat (first | apply Kd.R_alloc | apply Kd.R_drewN | apply Kd.R_drew)); exact (Kd.R_mono (Kd.R_far (p := ⟨gb244, 0, none⟩) (Kd.R_types HO_217000.out BK244.out (by decide)) (fun _ hk => hk.2) (.slice Ao117 t241.length co117)) (fun _ h_ => h_.1))) hb); have n2_ := Aside0.mk (Kd.R_below (by (with_reducible repeat (first | apply Kd.R_alloc | apply Kd.R_drewN | apply Kd.R_drew)); exact (Kd.R_mono (Kd.R_far (p := ⟨gb244, 0, none⟩) (Kd.R_types HO_224000.out BK244.out (by decide)) (fun _ hk => hk.2) (.slice Ao117 t241.length co117)) (fun _ h_ => h_.1))) hb); have n3_ := Aside0.mk (Kd.R_below (by (with_reducible repeat (first | apply Kd.R_alloc | apply Kd.R_drewN | apply Kd.R_drew)); exact (Kd.R_mono (Kd.R_far (p := ⟨gb244, 0, none⟩) (Kd.R_types HO237.out BK244.out (by decide)) (fun _ hk => hk.2) (.slice Ao117 t241.length co117)) (fun _ h_ => h_.1))) hb); have n4_ := Aside0.mk (Kd.R_below tq_80 hb); have n5_ := Aside0.mk (blk_below (g := gb199) (o := .cells #[.slice A0_0 l0_0.length c0_0] 24 (0, 0)) (by (with_reducible repeat (first | refine blk_drewN ?_ _ | refine blk_drew ?_ | refine blk_alloc ?_ _)); refine blk_far ?_ NB199_244.out _; (with_reducible repeat (first | refine blk_drewN ?_ _ | refine blk_drew ?_ | refine blk_alloc ?_ _)); exact BK199.out) hb); have n6_ := Aside0.mk (blk_below (g := gb200) (o := .cells #[.string a1_0, .bool a1_1, .string a1_2] 35 (0, 0)) (by (with_reducible repeat (first | refine blk_drewN ?_ _ | refine blk_drew ?_ | refine blk_alloc ?_ _)); refine blk_far ?_ NB200_244.out _; (with_reducible repeat (first | refine blk_drewN ?_ _ | refine blk_drew ?_ | refine blk_alloc ?_ _)); exact BK200.out) hb); have n7_ := Aside0.mk (blk_below (g := gb212) (o := .cells #[.slice Ao32 t209.length co32] 28 (0, 0)) (by (with_reducible repeat (first | refine blk_drewN ?_ _ | refine blk_drew ?_ | refine blk_alloc ?_ _)); refine blk_far ?_ NB212_244.out _; (with_reducible repeat (first | refine blk_drewN ?_ _ | refine blk_drew ?_ | refine blk_alloc ?_ _)); exact BK212.out) hb); have n8_ := Aside0.mk (blk_below (g := gb216) (o := .cells #[.slice Ao39 t230.length co39] 28 (0, 0)) (by (with_reducible repeat (first | refine blk_drewN ?_ _ | refine blk_drew ?_ | refine blk_alloc ?_ _)); refine blk_far ?_ NB216_244.out _; (with_reducible repeat (first | refine blk_drewN ?_ _ | refine blk_drew ?_ | refine blk_alloc ?_ _)); exact BK216.out) hb); have n9_ := Aside0.mk (blk_below (g := gb223) (o := .cells #[.slice Ao50 t233.length co50] 28 (0, 0)) (by (with_reducible repeat (first | refine blk_drewN ?_ _ | refine blk_drew ?_ | refine blk_alloc ?_ _)); refine blk_far ?_ NB223_244.out _; (with_reducible repeat (first | refine blk_drewN ?_ _ | refine blk_drew ?_ | refine blk_alloc ?_ _)); exact BK223.out) hb); have n10_ := Aside0.mk (blk_below (g := gb244) (o := .cells #[.slice Ao117 t241.length co117] 28 (0, 0)) (by (with_reducible repeat (first | refine blk_drewN ?_ _ | refine blk_drew ?_ | refine blk_alloc ?_ _)); refine blk_put (cs := #[.slice none 0 0]) ?_ 0 _ rfl; (with_reducible repeat (first | refine blk_drewN ?_ _ | refine blk_drew ?_ | refine blk_alloc ?_ _)); exact BK244.out) hb); have n11_ := Aside0.mk (below_step tq_7 hb); clear HO_213000 HO_217000 HO_224000 HO237 HO243 BK199 BK200 BK212 BK216 BK223 BK244 HB; have HO_213000 := n0_; have HO_217000 := n1_; have HO_224000 := n2_; have HO237 := n3_; have HO243 := n4_; have BK199 := n5_; have BK200 := n6_; have BK212 := n7_; have BK216 := n8_; have BK223 := n9_; have BK244 := n10_; have HB := n11_; clear n0_ n1_ n2_ n3_ n4_ n5_ n6_ n7_ n8_ n9_ n10_ n11_; (try clear hb); (try clear hb2); (try clear hk); (try clear hi)))
                 (try simp only [Act.put, List.setIfInBounds_toArray, List.set_cons_zero, List.set_cons_succ])
                 go_cut [] (fun wc => ∃ (kq : Nat), Aside0 (laws_FnExactPutItem.j8 kq t232 t233 = some r) ∧ Aside0 (kq ≤ kj102) ∧ Aside0 (Kd.R k38 38 wc w.heap.size (fun k_ => some k_ ≠ ((.slice Ao39 t230.length co39) : Value).ownBlock ∧ some k_ ≠ ((.slice Ao50 t233.length co50) : Value).ownBlock ∧ some k_ ≠ ((.slice Ao117 t241.length co117) : Value).ownBlock) (.slice Ao32 t209.length co32) t209) ∧ Aside0 (Kd.R k38 38 wc w.heap.size (fun k_ => some k_ ≠ ((.slice Ao32 t209.length co32) : Value).ownBlock ∧ some k_ ≠ ((.slice Ao50 t233.length co50) : Value).ownBlock ∧ some k_ ≠ ((.slice Ao117 t241.length co117) : Value).ownBlock) (.slice Ao39 t230.length co39) t230) ∧ Aside0 (Kd.R k38 38 wc w.heap.size (fun k_ => some k_ ≠ ((.slice Ao32 t209.length co32) : Value).ownBlock ∧ some k_ ≠ ((.slice Ao39 t230.length co39) : Value).ownBlock ∧ some k_ ≠ ((.slice Ao117 t241.length co117) : Value).ownBlock) (.slice Ao50 t233.length co50) t233) ∧ Aside0 (Kd.R k38 38 wc w.heap.size (fun k_ => some k_ ≠ ((.slice Ao32 t209.length co32) : Value).ownBlock ∧ some k_ ≠ ((.slice Ao39 t230.length co39) : Value).ownBlock ∧ some k_ ≠ ((.slice Ao50 t233.length co50) : Value).ownBlock) (.slice Ao117 t241.length co117) t241) ∧ Aside0 (wc.heap[gb199]? = some (.cells #[(.slice A0_0 l0_0.length c0_0)] 24 (0, 0))) ∧ Aside0 (wc.heap[gb200]? = some (.cells #[.string a1_0, .bool a1_1, .string a1_2] 35 (0, 0))) ∧ Aside0 (wc.heap[gb212]? = some (.cells #[(.slice Ao32 t209.length co32)] 28 (0, 0))) ∧ Aside0 (wc.heap[gb216]? = some (.cells #[(.slice Ao39 t230.length co39)] 28 (0, 0))) ∧ Aside0 (wc.heap[gb223]? = some (.cells #[(.slice Ao50 t233.length co50)] 28 (0, 0))) ∧ Aside0 (wc.heap[gb244]? = some (.cells #[(.slice Ao117 t241.length co117)] 28 (0, 0))) ∧ Aside0 (Below w.heap.size w wc))
                 case first =>
                  have H := HC109.out
                  clear HC109
                  by_cases c131 : t245 = true
                  ·subst c131
                   have H1 : (laws_FnExactPutItem.j8 kj102 t232 t233) = some r := by rw [if_pos rfl] at H; exact H
                   clear H
                   have H := H1
                   clear H1
                   have H' := Aside0.mk H
                   clear H
                   go_wp2
                   go_meet
                   case rel => exact ⟨_, H', ⟨by have := HJ3.out; have := HJ11.out; have := HJ23.out; have := HJ62.out; have := HJ69.out; have := HJ88.out; have := HJ92.out; have := HJ102.out; first | omega | exact Nat.le_refl _⟩, ⟨by (try simp only [hl217000_69]); (try simp only [hl224000_92]); (with_reducible repeat (first | apply Kd.R_alloc | apply Kd.R_drewN | apply Kd.R_drew)); exact Kd.R_mono HO_213000.out (fun _ hk => ⟨hk.2.2.1, ⟨hk.2.2.2, hk.2.1⟩⟩)⟩, ⟨by (try simp only [hl217000_69]); (try simp only [hl224000_92]); (with_reducible repeat (first | apply Kd.R_alloc | apply Kd.R_drewN | apply Kd.R_drew)); exact Kd.R_mono HO_217000.out (fun _ hk => ⟨hk.2.2.1, ⟨hk.2.2.2, hk.2.1⟩⟩)⟩, ⟨by (try simp only [hl217000_69]); (try simp only [hl224000_92]); (with_reducible repeat (first | apply Kd.R_alloc | apply Kd.R_drewN | apply Kd.R_drew)); exact Kd.R_mono HO_224000.out (fun _ hk => ⟨hk.2.2.1, ⟨hk.2.2.2, hk.2.1⟩⟩)⟩, ⟨by (try simp only [hl217000_69]); (try simp only [hl224000_92]); (with_reducible repeat (first | apply Kd.R_alloc | apply Kd.R_drewN | apply Kd.R_drew)); exact Kd.R_mono HO243.out (fun _ hk => ⟨hk.2.1, ⟨hk.2.2.1, hk.2.2.2⟩⟩)⟩, ⟨by (try simp only [hl217000_69]); (try simp only [hl224000_92]); (with_reducible repeat (first | refine blk_drewN ?_ _ | refine blk_drew ?_ | refine blk_alloc ?_ _)); exact BK199.out⟩, ⟨by (try simp only [hl217000_69]); (try simp only [hl224000_92]); (with_reducible repeat (first | refine blk_drewN ?_ _ | refine blk_drew ?_ | refine blk_alloc ?_ _)); exact BK200.out⟩, ⟨by (try simp only [hl217000_69]); (try simp only [hl224000_92]); (with_reducible repeat (first | refine blk_drewN ?_ _ | refine blk_drew ?_ | refine blk_alloc ?_ _)); exact BK212.out⟩, ⟨by (try simp only [hl217000_69]); (try simp only [hl224000_92]); (with_reducible repeat (first | refine blk_drewN ?_ _ | refine blk_drew ?_ | refine blk_alloc ?_ _)); exact BK216.out⟩, ⟨by (try simp only [hl217000_69]); (try simp only [hl224000_92]); (with_reducible repeat (first | refine blk_drewN ?_ _ | refine blk_drew ?_ | refine blk_alloc ?_ _)); exact BK223.out⟩, ⟨by (try simp only [hl217000_69]); (try simp only [hl224000_92]); (with_reducible repeat (first | refine blk_drewN ?_ _ | refine blk_drew ?_ | refine blk_alloc ?_ _)); exact BK244.out⟩, ⟨by repeat (first | (with_reducible first | exact HB.out | apply below_alloc | apply pw_below_drewN | apply below_drew1 | refine below_set ?_ GE199.out | refine below_set ?_ GE200.out | refine below_set ?_ GE212.out | refine below_set ?_ GE216.out | refine below_set ?_ GE223.out | refine below_set ?_ GE244.out) | exact HB.out)⟩⟩
                  ·replace c131 := Bool.eq_false_iff.mpr c131
                   subst c131
                   have H1 : (some false) = some r := by rw [if_neg (show ¬ (false = true) by decide)] at H; exact H
                   clear H
                   have H := H1
                   clear H1
                   obtain rfl := Option.some.inj H
                   go_wp2
                   go_ret
                   exact ⟨by first | rfl | (simp [errW_none, errW_some] <;> rfl) | (simp [*, errW_none, errW_some] <;> rfl), by repeat (first | (with_reducible first | exact HB.out | apply below_alloc | apply pw_below_drewN | apply below_drew1 | refine below_set ?_ GE199.out | refine below_set ?_ GE200.out | refine below_set ?_ GE212.out | refine below_set ?_ GE216.out | refine below_set ?_ GE223.out | refine below_set ?_ GE244.out) | exact HB.out)⟩
                 case rest =>
                  clear HC109
                  try clear c1
                  try clear c2
                  try clear p2
                  try clear c11
                  try clear c12
                  try clear c13
                  try clear c17
                  try clear c19
                  try clear c24
                  try clear c25
                  try clear c119
                  try clear c120
                  try clear c121
                  try clear c122
                  try clear c123
                  try clear c125
                  try clear c126
                  try clear c127
                  try clear c128
                  try clear c131
                  try clear hcz124_0
                  try clear hcz129_0
                  try clear hfz124_0
                  try clear hfz129_0
                  obtain ⟨kq, HA, HJ108, HO_213000, HO_217000, HO_224000, HO_245000, BK199, BK200, BK212, BK216, BK223, BK244, HB⟩ := hcut
                  cases kq with
                  | zero => exact absurd HA.out (by simp [laws_FnExactPutItem.j8])
                  | succ kj108 =>
                   have H := HA.out
                   clear HA
                   simp only [laws_FnExactPutItem.j8] at H
                   replace H := Option.bind_eq_some_iff.mp H
                   obtain ⟨t246, A1320, H⟩ := H
                   replace H : (if t246 < 0 then (some false) else (if t246 = t232 then (some true) else (some false))) = some r := H
                   have A132 := Aside0.mk A1320
                   clear A1320
                   by_cases c133 : t246 < 0
                   ·rw [if_pos c133] at H
                    have c133b0 : decide (t246 < 0) = true := decide_eq_true c133
                    clear c133
                    obtain rfl := Option.some.inj H
                    have hnb134 := NB223_199.out
                    have hnc134 := NB199_223.out
                    have hnb135 := NB223_200.out
                    have hnc135 := NB200_223.out
                    have hnb136 := NB223_212.out
                    have hnc136 := NB212_223.out
                    have hnb137 := NB223_216.out
                    have hnc137 := NB216_223.out
                    have hnb138 := NB223_244.out
                    have hnc138 := NB244_223.out
                    have hcz139_0 := bc_ BK223.out 0
                    have hfz139_0 := blk_frozen BK223.out 0
                    go_wp2_with (first | ((with_reducible refine gate_callee (f := 21) rfl ?_); refine goesL_ (some 76) rfl rfl Try.func21 (by kernel_rfl) rfl #[.agg #[.slice Ao50 t233.length co50], .int .i64 1] rfl tq_4 ?_; (with_reducible refine (laws_heldView.calls kj108 _ _ t233 1 t246 _ ?side1 ?side2 A132.out).mono ?_); (case side1 => exact tq_41); (case side2 => exact (Kd.R_reads' HO_224000.out).2.1); rintro e w140 ⟨rfl, hb⟩; refine ⟨_, rfl, ?_⟩; have n0_ := Aside0.mk (Kd.R_below tq_15 hb); have n1_ := Aside0.mk (Kd.R_below tq_14 hb); have n2_ := Aside0.mk (Kd.R_below tq_13 hb); have n3_ := Aside0.mk (Kd.R_below tq_94 hb); have n4_ := Aside0.mk (blk_below tq_1 hb); have n5_ := Aside0.mk (blk_below tq_2 hb); have n6_ := Aside0.mk (blk_below tq_5 hb); have n7_ := Aside0.mk (blk_below tq_6 hb); have n8_ := Aside0.mk (blk_below tq_8 hb); have n9_ := Aside0.mk (blk_below tq_25 hb); have n10_ := Aside0.mk (below_step tq_7 hb); clear HO_213000 HO_217000 HO_224000 HO_245000 BK199 BK200 BK212 BK216 BK223 BK244 HB; have HO_213000 := n0_; have HO_217000 := n1_; have HO_224000 := n2_; have HO_245000 := n3_; have BK199 := n4_; have BK200 := n5_; have BK212 := n6_; have BK216 := n7_; have BK223 := n8_; have BK244 := n9_; have HB := n10_; clear n0_ n1_ n2_ n3_ n4_ n5_ n6_ n7_ n8_ n9_ n10_; (try clear hb); (try clear hb2); (try clear hk); (try clear hi)))
                    go_ret
                    exact ⟨by first | rfl | (simp [errW_none, errW_some] <;> rfl) | (simp [*, errW_none, errW_some] <;> rfl), by repeat (first | (with_reducible first | exact HB.out | apply below_alloc | apply pw_below_drewN | apply below_drew1 | refine below_set ?_ GE199.out | refine below_set ?_ GE200.out | refine below_set ?_ GE212.out | refine below_set ?_ GE216.out | refine below_set ?_ GE223.out | refine below_set ?_ GE244.out) | exact HB.out)⟩
                   ·rw [if_neg c133] at H
                    have c133b0 : decide (t246 < 0) = false := decide_eq_false c133
                    clear c133
                    by_cases c141 : t246 = t232
                    ·rw [if_pos c141] at H
                     have c141b0 : (t246 == t232) = true := beq_iff_eq.mpr c141
                     have c141b1 : (t246 != t232) = false := bne_eq_false_iff_eq.mpr c141
                     clear c141
                     obtain rfl := Option.some.inj H
                     have hnb142 := NB223_199.out
                     have hnc142 := NB199_223.out
                     have hnb143 := NB223_200.out
                     have hnc143 := NB200_223.out
                     have hnb144 := NB223_212.out
                     have hnc144 := NB212_223.out
                     have hnb145 := NB223_216.out
                     have hnc145 := NB216_223.out
                     have hnb146 := NB223_244.out
                     have hnc146 := NB244_223.out
                     have hcz147_0 := bc_ BK223.out 0
                     have hfz147_0 := blk_frozen BK223.out 0
                     go_wp2_with (first | ((with_reducible refine gate_callee (f := 21) rfl ?_); refine goesL_ (some 76) rfl rfl Try.func21 (by kernel_rfl) rfl #[.agg #[.slice Ao50 t233.length co50], .int .i64 1] rfl tq_4 ?_; (with_reducible refine (laws_heldView.calls kj108 _ _ t233 1 t246 _ ?side1 ?side2 A132.out).mono ?_); (case side1 => exact tq_41); (case side2 => exact (Kd.R_reads' HO_224000.out).2.1); rintro e w148 ⟨rfl, hb⟩; refine ⟨_, rfl, ?_⟩; have n0_ := Aside0.mk (Kd.R_below tq_15 hb); have n1_ := Aside0.mk (Kd.R_below tq_14 hb); have n2_ := Aside0.mk (Kd.R_below tq_13 hb); have n3_ := Aside0.mk (Kd.R_below tq_94 hb); have n4_ := Aside0.mk (blk_below tq_1 hb); have n5_ := Aside0.mk (blk_below tq_2 hb); have n6_ := Aside0.mk (blk_below tq_5 hb); have n7_ := Aside0.mk (blk_below tq_6 hb); have n8_ := Aside0.mk (blk_below tq_8 hb); have n9_ := Aside0.mk (blk_below tq_25 hb); have n10_ := Aside0.mk (below_step tq_7 hb); clear HO_213000 HO_217000 HO_224000 HO_245000 BK199 BK200 BK212 BK216 BK223 BK244 HB; have HO_213000 := n0_; have HO_217000 := n1_; have HO_224000 := n2_; have HO_245000 := n3_; have BK199 := n4_; have BK200 := n5_; have BK212 := n6_; have BK216 := n7_; have BK223 := n8_; have BK244 := n9_; have HB := n10_; clear n0_ n1_ n2_ n3_ n4_ n5_ n6_ n7_ n8_ n9_ n10_; (try clear hb); (try clear hb2); (try clear hk); (try clear hi)))
                     go_ret
                     exact ⟨by first | rfl | (simp [errW_none, errW_some] <;> rfl) | (simp [*, errW_none, errW_some] <;> rfl), by repeat (first | (with_reducible first | exact HB.out | apply below_alloc | apply pw_below_drewN | apply below_drew1 | refine below_set ?_ GE199.out | refine below_set ?_ GE200.out | refine below_set ?_ GE212.out | refine below_set ?_ GE216.out | refine below_set ?_ GE223.out | refine below_set ?_ GE244.out) | exact HB.out)⟩
                    ·rw [if_neg c141] at H
                     have c141b0 : (t246 == t232) = false := beq_eq_false_iff_ne.mpr c141
                     have c141b1 : (t246 != t232) = true := bne_iff_ne.mpr c141
                     obtain rfl := Option.some.inj H
                     have hnb149 := NB223_199.out
                     have hnc149 := NB199_223.out
                     have hnb150 := NB223_200.out
                     have hnc150 := NB200_223.out
                     have hnb151 := NB223_212.out
                     have hnc151 := NB212_223.out
                     have hnb152 := NB223_216.out
                     have hnc152 := NB216_223.out
                     have hnb153 := NB223_244.out
                     have hnc153 := NB244_223.out
                     have hcz154_0 := bc_ BK223.out 0
                     have hfz154_0 := blk_frozen BK223.out 0
                     go_wp2_with (first | ((with_reducible refine gate_callee (f := 21) rfl ?_); refine goesL_ (some 76) rfl rfl Try.func21 (by kernel_rfl) rfl #[.agg #[.slice Ao50 t233.length co50], .int .i64 1] rfl tq_4 ?_; (with_reducible refine (laws_heldView.calls kj108 _ _ t233 1 t246 _ ?side1 ?side2 A132.out).mono ?_); (case side1 => exact tq_41); (case side2 => exact (Kd.R_reads' HO_224000.out).2.1); rintro e w155 ⟨rfl, hb⟩; refine ⟨_, rfl, ?_⟩; have n0_ := Aside0.mk (Kd.R_below tq_15 hb); have n1_ := Aside0.mk (Kd.R_below tq_14 hb); have n2_ := Aside0.mk (Kd.R_below tq_13 hb); have n3_ := Aside0.mk (Kd.R_below tq_94 hb); have n4_ := Aside0.mk (blk_below tq_1 hb); have n5_ := Aside0.mk (blk_below tq_2 hb); have n6_ := Aside0.mk (blk_below tq_5 hb); have n7_ := Aside0.mk (blk_below tq_6 hb); have n8_ := Aside0.mk (blk_below tq_8 hb); have n9_ := Aside0.mk (blk_below tq_25 hb); have n10_ := Aside0.mk (below_step tq_7 hb); clear HO_213000 HO_217000 HO_224000 HO_245000 BK199 BK200 BK212 BK216 BK223 BK244 HB; have HO_213000 := n0_; have HO_217000 := n1_; have HO_224000 := n2_; have HO_245000 := n3_; have BK199 := n4_; have BK200 := n5_; have BK212 := n6_; have BK216 := n7_; have BK223 := n8_; have BK244 := n9_; have HB := n10_; clear n0_ n1_ n2_ n3_ n4_ n5_ n6_ n7_ n8_ n9_ n10_; (try clear hb); (try clear hb2); (try clear hk); (try clear hi)))
                     go_ret
                     exact ⟨by first | rfl | (simp [errW_none, errW_some] <;> rfl) | (simp [*, errW_none, errW_some] <;> rfl), by repeat (first | (with_reducible first | exact HB.out | apply below_alloc | apply pw_below_drewN | apply below_drew1 | refine below_set ?_ GE199.out | refine below_set ?_ GE200.out | refine below_set ?_ GE212.out | refine below_set ?_ GE216.out | refine below_set ?_ GE223.out | refine below_set ?_ GE244.out) | exact HB.out)⟩

end Go.Proofs.Ytcdnfkoahajhhaa.PFnExactPutItem
