/- Contracts of Go functions, written by a program of ours over the print of the kit: each says that the call returns what the Lean function beside it computes. Conditions: as each theorem states them. -/
import Derived.Test.YtcdnfkoahajhhaaPkFnExactInodeWords
import Derived.Test.YtcdnfkoahajhhaaPFnExactInodeWordsx0
import Derived.Test.YtcdnfkoahajhhaaPFnExactInodeWordsx1
import Derived.Test.YtcdnfkoahajhhaaPFnExactInodeWordsx3
import Derived.Test.YtcdnfkoahajhhaaPFnExactInodeWordsx7
import Derived.Test.YtcdnfkoahajhhaaPFnExactInodeWordsx13
import Derived.Test.YtcdnfkoahajhhaaPFnExactInodeWordsx14
namespace Go.Proofs.Ytcdnfkoahajhhaa.PFnExactInodeWords
open Go.RowKit Go.Proofs.YtcdnfkoahajhhaaW.PrintWords Go.Proofs.YtcdnfkoahajhhaaW.PrintLast Go.Proofs.YtcdnfkoahajhhaaW.PrintMore
attribute [local go_sem] max2_int min2_int max_two min_two max_three min_three max_four min_four   -- for this text's walks alone
set_option linter.unusedVariables false
set_option linter.unusedSimpArgs false

/-! ### laws_FnExactInodeWords: function 12 -/
mutual
def laws_FnExactInodeWords.j0 : Nat → Int → Int → Int → ByteArray → List (S181) → List (S56) → Option (Bool)
 | 0, _, _, _, _, _, _ => none
 | k + 1, x311000, x311001, x311002, x311003, x311004, x311005 => (laws_toInode.f k x311000 x311001 x311002 x311003 x311004 x311005).bind fun bt312 => ((spec_InodeWords.f k bt312.1 bt312.2.1 bt312.2.2.1 bt312.2.2.2.1 bt312.2.2.2.2.1 bt312.2.2.2.2.2).bind fun t322 => ((laws_toInode.f k x311000 x311001 x311002 x311003 x311004 x311005).bind fun bt325 => ((impl_InodeWords.f k bt325.1 bt325.2.1 bt325.2.2.1 bt325.2.2.2.1 bt325.2.2.2.2.1 bt325.2.2.2.2.2).bind fun t336 => ((laws_eqStringS.f k t336 t322).bind fun t339 => (if t339 = true then (laws_FnExactInodeWords.j1 k t322 t336 x311000 x311001 x311002 x311003 x311004 x311005 bt325.1 bt325.2.1 bt325.2.2.1 bt325.2.2.2.1 bt325.2.2.2.2.1 bt325.2.2.2.2.2) else (some false))))))
def laws_FnExactInodeWords.j1 : Nat → List ByteArray → List ByteArray → Int → Int → Int → ByteArray → List (S181) → List (S56) → Int → Int → Int → ByteArray → List (S170) → List (S59) → Option (Bool)
 | 0, _, _, _, _, _, _, _, _, _, _, _, _, _, _ => none
 | k + 1, x4, x6, x311000, x311001, x311002, x311003, x311004, x311005, x336000, x336001, x336002, x336003, x336004, x336005 => (laws_toInode.f k x311000 x311001 x311002 x311003 x311004 x311005).bind fun bt340 => ((laws_eqInode.f k x336000 x336001 x336002 x336003 x336004 x336005 bt340.1 bt340.2.1 bt340.2.2.1 bt340.2.2.2.1 bt340.2.2.2.2.1 bt340.2.2.2.2.2).bind fun t350 => (if t350 = true then (laws_FnExactInodeWords.j2 k x4 x6 x311000 x311001 x311002 x311003 x311004 x311005 x336000 x336001 x336002 x336003 x336004 x336005) else (some false)))
def laws_FnExactInodeWords.j2 : Nat → List ByteArray → List ByteArray → Int → Int → Int → ByteArray → List (S181) → List (S56) → Int → Int → Int → ByteArray → List (S170) → List (S59) → Option (Bool)
 | 0, _, _, _, _, _, _, _, _, _, _, _, _, _, _ => none
 | k + 1, x4, x6, x311000, x311001, x311002, x311003, x311004, x311005, x336000, x336001, x336002, x336003, x336004, x336005 => (laws_markInode.f k x336000 x336001 x336002 x336003 x336004 x336005 1).bind fun bt351 => (if bt351.1 < 0 then (laws_FnExactInodeWords.j3 k x4 x6 true x311000 x311001 x311002 x311003 x311004 x311005) else ((laws_eqStringS.f k x6 x4).bind fun t354 => (laws_FnExactInodeWords.j3 k x4 x6 (!t354) x311000 x311001 x311002 x311003 x311004 x311005)))
def laws_FnExactInodeWords.j3 : Nat → List ByteArray → List ByteArray → Bool → Int → Int → Int → ByteArray → List (S181) → List (S56) → Option (Bool)
 | 0, _, _, _, _, _, _, _, _, _ => none
 | k + 1, x4, x6, x42, x311000, x311001, x311002, x311003, x311004, x311005 => if x42 = true then (some false) else (laws_FnExactInodeWords.j4 k x4 x6 x311000 x311001 x311002 x311003 x311004 x311005)
def laws_FnExactInodeWords.j4 : Nat → List ByteArray → List ByteArray → Int → Int → Int → ByteArray → List (S181) → List (S56) → Option (Bool)
 | 0, _, _, _, _, _, _, _, _ => none
 | k + 1, x4, x6, x311000, x311001, x311002, x311003, x311004, x311005 => (laws_markStringS.f k x6 1).bind fun bt355 => ((laws_heldStringS.f k bt355.2 1).bind fun t357 => (if t357 < 0 then (some false) else (laws_FnExactInodeWords.j5 k x4 bt355.2 bt355.1 t357 x311000 x311001 x311002 x311003 x311004 x311005)))
def laws_FnExactInodeWords.j5 : Nat → List ByteArray → List ByteArray → Int → Int → Int → Int → Int → ByteArray → List (S181) → List (S56) → Option (Bool)
 | 0, _, _, _, _, _, _, _, _, _, _ => none
 | k + 1, x4, x6, x8, x9, x311000, x311001, x311002, x311003, x311004, x311005 => if x9 = x8 then (laws_FnExactInodeWords.j6 k x4 x6 x8 x311000 x311001 x311002 x311003 x311004 x311005) else (some false)
def laws_FnExactInodeWords.j6 : Nat → List ByteArray → List ByteArray → Int → Int → Int → Int → ByteArray → List (S181) → List (S56) → Option (Bool)
 | 0, _, _, _, _, _, _, _, _, _ => none
 | k + 1, x4, x6, x8, x311000, x311001, x311002, x311003, x311004, x311005 => (laws_toInode.f k x311000 x311001 x311002 x311003 x311004 x311005).bind fun bt358 => ((impl_InodeWords.f k bt358.1 bt358.2.1 bt358.2.2.1 bt358.2.2.2.1 bt358.2.2.2.2.1 bt358.2.2.2.2.2).bind fun t368 => ((laws_eqStringS.f k t368 x4).bind fun t371 => (if t371 = true then (laws_FnExactInodeWords.j7 k x6 x8) else (some false))))
def laws_FnExactInodeWords.j7 : Nat → List ByteArray → Int → Option (Bool)
 | 0, _, _ => none
 | k + 1, x6, x8 => (laws_heldStringS.f k x6 1).bind fun t372 => (if t372 < 0 then (some false) else (if t372 = x8 then (some true) else (some false)))
end
def laws_FnExactInodeWords.f (k : Nat) (a0_0 : Int) (a0_1 : Int) (a0_2 : Int) (a0_3 : ByteArray) (l0_4 : List (S181)) (l0_5 : List (S56)) : Option (Bool) := (laws_szInode.f k a0_0 a0_1 a0_2 a0_3 l0_4 l0_5 1048576).bind fun t311 => (if t311 < 0 then (some true) else (laws_FnExactInodeWords.j0 k a0_0 a0_1 a0_2 a0_3 l0_4 l0_5))
theorem laws_FnExactInodeWords.mono_l : ∀ k, (∀ y0 y1 y2 y3 y4 y5, LeO (laws_FnExactInodeWords.j0 k y0 y1 y2 y3 y4 y5) (laws_FnExactInodeWords.j0 (k + 1) y0 y1 y2 y3 y4 y5)) ∧ (∀ y0 y1 y2 y3 y4 y5 y6 y7 y8 y9 y10 y11 y12 y13, LeO (laws_FnExactInodeWords.j1 k y0 y1 y2 y3 y4 y5 y6 y7 y8 y9 y10 y11 y12 y13) (laws_FnExactInodeWords.j1 (k + 1) y0 y1 y2 y3 y4 y5 y6 y7 y8 y9 y10 y11 y12 y13)) ∧ (∀ y0 y1 y2 y3 y4 y5 y6 y7 y8 y9 y10 y11 y12 y13, LeO (laws_FnExactInodeWords.j2 k y0 y1 y2 y3 y4 y5 y6 y7 y8 y9 y10 y11 y12 y13) (laws_FnExactInodeWords.j2 (k + 1) y0 y1 y2 y3 y4 y5 y6 y7 y8 y9 y10 y11 y12 y13)) ∧ (∀ y0 y1 y2 y3 y4 y5 y6 y7 y8, LeO (laws_FnExactInodeWords.j3 k y0 y1 y2 y3 y4 y5 y6 y7 y8) (laws_FnExactInodeWords.j3 (k + 1) y0 y1 y2 y3 y4 y5 y6 y7 y8)) ∧ (∀ y0 y1 y2 y3 y4 y5 y6 y7, LeO (laws_FnExactInodeWords.j4 k y0 y1 y2 y3 y4 y5 y6 y7) (laws_FnExactInodeWords.j4 (k + 1) y0 y1 y2 y3 y4 y5 y6 y7)) ∧ (∀ y0 y1 y2 y3 y4 y5 y6 y7 y8 y9, LeO (laws_FnExactInodeWords.j5 k y0 y1 y2 y3 y4 y5 y6 y7 y8 y9) (laws_FnExactInodeWords.j5 (k + 1) y0 y1 y2 y3 y4 y5 y6 y7 y8 y9)) ∧ (∀ y0 y1 y2 y3 y4 y5 y6 y7 y8, LeO (laws_FnExactInodeWords.j6 k y0 y1 y2 y3 y4 y5 y6 y7 y8) (laws_FnExactInodeWords.j6 (k + 1) y0 y1 y2 y3 y4 y5 y6 y7 y8)) ∧ (∀ y0 y1, LeO (laws_FnExactInodeWords.j7 k y0 y1) (laws_FnExactInodeWords.j7 (k + 1) y0 y1))
 | 0 => ⟨fun _ _ _ _ _ _ r h => by simp [laws_FnExactInodeWords.j0] at h, fun _ _ _ _ _ _ _ _ _ _ _ _ _ _ r h => by simp [laws_FnExactInodeWords.j1] at h, fun _ _ _ _ _ _ _ _ _ _ _ _ _ _ r h => by simp [laws_FnExactInodeWords.j2] at h, fun _ _ _ _ _ _ _ _ _ r h => by simp [laws_FnExactInodeWords.j3] at h, fun _ _ _ _ _ _ _ _ r h => by simp [laws_FnExactInodeWords.j4] at h, fun _ _ _ _ _ _ _ _ _ _ r h => by simp [laws_FnExactInodeWords.j5] at h, fun _ _ _ _ _ _ _ _ _ r h => by simp [laws_FnExactInodeWords.j6] at h, fun _ _ r h => by simp [laws_FnExactInodeWords.j7] at h⟩
 | k + 1 => by
  obtain ⟨ih0, ih1, ih2, ih3, ih4, ih5, ih6, ih7⟩ := laws_FnExactInodeWords.mono_l k
  refine ⟨?_, ?_, ?_, ?_, ?_, ?_, ?_, ?_⟩
  ·intro y0 y1 y2 y3 y4 y5
   unfold laws_FnExactInodeWords.j0
   repeat' first
   | (with_reducible exact ih0 ..)
   | (with_reducible exact ih1 ..)
   | (with_reducible exact ih2 ..)
   | (with_reducible exact ih3 ..)
   | (with_reducible exact ih4 ..)
   | (with_reducible exact ih5 ..)
   | (with_reducible exact ih6 ..)
   | (with_reducible exact ih7 ..)
   | (with_reducible exact impl_InodeWords.mono ..)
   | (with_reducible exact laws_eqInode.mono ..)
   | (with_reducible exact laws_eqStringS.mono ..)
   | (with_reducible exact laws_heldStringS.mono ..)
   | (with_reducible exact laws_markInode.mono ..)
   | (with_reducible exact laws_markStringS.mono ..)
   | (with_reducible exact laws_szInode.mono ..)
   | (with_reducible exact laws_toInode.mono ..)
   | (with_reducible exact spec_InodeWords.mono ..)
   | (with_reducible exact LeO.refl _)
   | (with_reducible exact LeO.none _)
   | (with_reducible refine LeO.ite ?_ ?_)
   | (with_reducible refine LeO.bind ?_ (fun _ => ?_))
   | exact ih0 ..
   | exact ih1 ..
   | exact ih2 ..
   | exact ih3 ..
   | exact ih4 ..
   | exact ih5 ..
   | exact ih6 ..
   | exact ih7 ..
   | exact impl_InodeWords.mono ..
   | exact laws_eqInode.mono ..
   | exact laws_eqStringS.mono ..
   | exact laws_heldStringS.mono ..
   | exact laws_markInode.mono ..
   | exact laws_markStringS.mono ..
   | exact laws_szInode.mono ..
   | exact laws_toInode.mono ..
   | exact spec_InodeWords.mono ..
   | exact LeO.none _
   | refine LeO.ite ?_ ?_
   | refine LeO.bind ?_ (fun _ => ?_)
  ·intro y0 y1 y2 y3 y4 y5 y6 y7 y8 y9 y10 y11 y12 y13
   unfold laws_FnExactInodeWords.j1
   repeat' first
   | (with_reducible exact ih0 ..)
   | (with_reducible exact ih1 ..)
   | (with_reducible exact ih2 ..)
   | (with_reducible exact ih3 ..)
   | (with_reducible exact ih4 ..)
   | (with_reducible exact ih5 ..)
   | (with_reducible exact ih6 ..)
   | (with_reducible exact ih7 ..)
   | (with_reducible exact impl_InodeWords.mono ..)
   | (with_reducible exact laws_eqInode.mono ..)
   | (with_reducible exact laws_eqStringS.mono ..)
   | (with_reducible exact laws_heldStringS.mono ..)
   | (with_reducible exact laws_markInode.mono ..)
   | (with_reducible exact laws_markStringS.mono ..)
   | (with_reducible exact laws_szInode.mono ..)
   | (with_reducible exact laws_toInode.mono ..)
   | (with_reducible exact spec_InodeWords.mono ..)
   | (with_reducible exact LeO.refl _)
   | (with_reducible exact LeO.none _)
   | (with_reducible refine LeO.ite ?_ ?_)
   | (with_reducible refine LeO.bind ?_ (fun _ => ?_))
   | exact ih0 ..
   | exact ih1 ..
   | exact ih2 ..
   | exact ih3 ..
   | exact ih4 ..
   | exact ih5 ..
   | exact ih6 ..
   | exact ih7 ..
   | exact impl_InodeWords.mono ..
   | exact laws_eqInode.mono ..
   | exact laws_eqStringS.mono ..
   | exact laws_heldStringS.mono ..
   | exact laws_markInode.mono ..
   | exact laws_markStringS.mono ..
   | exact laws_szInode.mono ..
   | exact laws_toInode.mono ..
   | exact spec_InodeWords.mono ..
   | exact LeO.none _
   | refine LeO.ite ?_ ?_
   | refine LeO.bind ?_ (fun _ => ?_)
  ·intro y0 y1 y2 y3 y4 y5 y6 y7 y8 y9 y10 y11 y12 y13
   unfold laws_FnExactInodeWords.j2
   repeat' first
   | (with_reducible exact ih0 ..)
   | (with_reducible exact ih1 ..)
   | (with_reducible exact ih2 ..)
   | (with_reducible exact ih3 ..)
   | (with_reducible exact ih4 ..)
   | (with_reducible exact ih5 ..)
   | (with_reducible exact ih6 ..)
   | (with_reducible exact ih7 ..)
   | (with_reducible exact impl_InodeWords.mono ..)
   | (with_reducible exact laws_eqInode.mono ..)
   | (with_reducible exact laws_eqStringS.mono ..)
   | (with_reducible exact laws_heldStringS.mono ..)
   | (with_reducible exact laws_markInode.mono ..)
   | (with_reducible exact laws_markStringS.mono ..)
   | (with_reducible exact laws_szInode.mono ..)
   | (with_reducible exact laws_toInode.mono ..)
   | (with_reducible exact spec_InodeWords.mono ..)
   | (with_reducible exact LeO.refl _)
   | (with_reducible exact LeO.none _)
   | (with_reducible refine LeO.ite ?_ ?_)
   | (with_reducible refine LeO.bind ?_ (fun _ => ?_))
   | exact ih0 ..
   | exact ih1 ..
   | exact ih2 ..
   | exact ih3 ..
   | exact ih4 ..
   | exact ih5 ..
   | exact ih6 ..
   | exact ih7 ..
   | exact impl_InodeWords.mono ..
   | exact laws_eqInode.mono ..
   | exact laws_eqStringS.mono ..
   | exact laws_heldStringS.mono ..
   | exact laws_markInode.mono ..
   | exact laws_markStringS.mono ..
   | exact laws_szInode.mono ..
   | exact laws_toInode.mono ..
   | exact spec_InodeWords.mono ..
   | exact LeO.none _
   | refine LeO.ite ?_ ?_
   | refine LeO.bind ?_ (fun _ => ?_)
  ·intro y0 y1 y2 y3 y4 y5 y6 y7 y8
   unfold laws_FnExactInodeWords.j3
   repeat' first
   | (with_reducible exact ih0 ..)
   | (with_reducible exact ih1 ..)
   | (with_reducible exact ih2 ..)
   | (with_reducible exact ih3 ..)
   | (with_reducible exact ih4 ..)
   | (with_reducible exact ih5 ..)
   | (with_reducible exact ih6 ..)
   | (with_reducible exact ih7 ..)
   | (with_reducible exact impl_InodeWords.mono ..)
   | (with_reducible exact laws_eqInode.mono ..)
   | (with_reducible exact laws_eqStringS.mono ..)
   | (with_reducible exact laws_heldStringS.mono ..)
   | (with_reducible exact laws_markInode.mono ..)
   | (with_reducible exact laws_markStringS.mono ..)
   | (with_reducible exact laws_szInode.mono ..)
   | (with_reducible exact laws_toInode.mono ..)
   | (with_reducible exact spec_InodeWords.mono ..)
   | (with_reducible exact LeO.refl _)
   | (with_reducible exact LeO.none _)
   | (with_reducible refine LeO.ite ?_ ?_)
   | (with_reducible refine LeO.bind ?_ (fun _ => ?_))
   | exact ih0 ..
   | exact ih1 ..
   | exact ih2 ..
   | exact ih3 ..
   | exact ih4 ..
   | exact ih5 ..
   | exact ih6 ..
   | exact ih7 ..
   | exact impl_InodeWords.mono ..
   | exact laws_eqInode.mono ..
   | exact laws_eqStringS.mono ..
   | exact laws_heldStringS.mono ..
   | exact laws_markInode.mono ..
   | exact laws_markStringS.mono ..
   | exact laws_szInode.mono ..
   | exact laws_toInode.mono ..
   | exact spec_InodeWords.mono ..
   | exact LeO.none _
   | refine LeO.ite ?_ ?_
   | refine LeO.bind ?_ (fun _ => ?_)
  ·intro y0 y1 y2 y3 y4 y5 y6 y7
   unfold laws_FnExactInodeWords.j4
   repeat' first
   | (with_reducible exact ih0 ..)
   | (with_reducible exact ih1 ..)
   | (with_reducible exact ih2 ..)
   | (with_reducible exact ih3 ..)
   | (with_reducible exact ih4 ..)
   | (with_reducible exact ih5 ..)
   | (with_reducible exact ih6 ..)
   | (with_reducible exact ih7 ..)
   | (with_reducible exact impl_InodeWords.mono ..)
   | (with_reducible exact laws_eqInode.mono ..)
   | (with_reducible exact laws_eqStringS.mono ..)
   | (with_reducible exact laws_heldStringS.mono ..)
   | (with_reducible exact laws_markInode.mono ..)
   | (with_reducible exact laws_markStringS.mono ..)
   | (with_reducible exact laws_szInode.mono ..)
   | (with_reducible exact laws_toInode.mono ..)
   | (with_reducible exact spec_InodeWords.mono ..)
   | (with_reducible exact LeO.refl _)
   | (with_reducible exact LeO.none _)
   | (with_reducible refine LeO.ite ?_ ?_)
   | (with_reducible refine LeO.bind ?_ (fun _ => ?_))
   | exact ih0 ..
   | exact ih1 ..
   | exact ih2 ..
   | exact ih3 ..
   | exact ih4 ..
   | exact ih5 ..
   | exact ih6 ..
   | exact ih7 ..
   | exact impl_InodeWords.mono ..
   | exact laws_eqInode.mono ..
   | exact laws_eqStringS.mono ..
   | exact laws_heldStringS.mono ..
   | exact laws_markInode.mono ..
   | exact laws_markStringS.mono ..
   | exact laws_szInode.mono ..
   | exact laws_toInode.mono ..
   | exact spec_InodeWords.mono ..
   | exact LeO.none _
   | refine LeO.ite ?_ ?_
   | refine LeO.bind ?_ (fun _ => ?_)
  ·intro y0 y1 y2 y3 y4 y5 y6 y7 y8 y9
   unfold laws_FnExactInodeWords.j5
   repeat' first
   | (with_reducible exact ih0 ..)
   | (with_reducible exact ih1 ..)
   | (with_reducible exact ih2 ..)
   | (with_reducible exact ih3 ..)
   | (with_reducible exact ih4 ..)
   | (with_reducible exact ih5 ..)
   | (with_reducible exact ih6 ..)
   | (with_reducible exact ih7 ..)
   | (with_reducible exact impl_InodeWords.mono ..)
   | (with_reducible exact laws_eqInode.mono ..)
   | (with_reducible exact laws_eqStringS.mono ..)
   | (with_reducible exact laws_heldStringS.mono ..)
   | (with_reducible exact laws_markInode.mono ..)
   | (with_reducible exact laws_markStringS.mono ..)
   | (with_reducible exact laws_szInode.mono ..)
   | (with_reducible exact laws_toInode.mono ..)
   | (with_reducible exact spec_InodeWords.mono ..)
   | (with_reducible exact LeO.refl _)
   | (with_reducible exact LeO.none _)
   | (with_reducible refine LeO.ite ?_ ?_)
   | (with_reducible refine LeO.bind ?_ (fun _ => ?_))
   | exact ih0 ..
   | exact ih1 ..
   | exact ih2 ..
   | exact ih3 ..
   | exact ih4 ..
   | exact ih5 ..
   | exact ih6 ..
   | exact ih7 ..
   | exact impl_InodeWords.mono ..
   | exact laws_eqInode.mono ..
   | exact laws_eqStringS.mono ..
   | exact laws_heldStringS.mono ..
   | exact laws_markInode.mono ..
   | exact laws_markStringS.mono ..
   | exact laws_szInode.mono ..
   | exact laws_toInode.mono ..
   | exact spec_InodeWords.mono ..
   | exact LeO.none _
   | refine LeO.ite ?_ ?_
   | refine LeO.bind ?_ (fun _ => ?_)
  ·intro y0 y1 y2 y3 y4 y5 y6 y7 y8
   unfold laws_FnExactInodeWords.j6
   repeat' first
   | (with_reducible exact ih0 ..)
   | (with_reducible exact ih1 ..)
   | (with_reducible exact ih2 ..)
   | (with_reducible exact ih3 ..)
   | (with_reducible exact ih4 ..)
   | (with_reducible exact ih5 ..)
   | (with_reducible exact ih6 ..)
   | (with_reducible exact ih7 ..)
   | (with_reducible exact impl_InodeWords.mono ..)
   | (with_reducible exact laws_eqInode.mono ..)
   | (with_reducible exact laws_eqStringS.mono ..)
   | (with_reducible exact laws_heldStringS.mono ..)
   | (with_reducible exact laws_markInode.mono ..)
   | (with_reducible exact laws_markStringS.mono ..)
   | (with_reducible exact laws_szInode.mono ..)
   | (with_reducible exact laws_toInode.mono ..)
   | (with_reducible exact spec_InodeWords.mono ..)
   | (with_reducible exact LeO.refl _)
   | (with_reducible exact LeO.none _)
   | (with_reducible refine LeO.ite ?_ ?_)
   | (with_reducible refine LeO.bind ?_ (fun _ => ?_))
   | exact ih0 ..
   | exact ih1 ..
   | exact ih2 ..
   | exact ih3 ..
   | exact ih4 ..
   | exact ih5 ..
   | exact ih6 ..
   | exact ih7 ..
   | exact impl_InodeWords.mono ..
   | exact laws_eqInode.mono ..
   | exact laws_eqStringS.mono ..
   | exact laws_heldStringS.mono ..
   | exact laws_markInode.mono ..
   | exact laws_markStringS.mono ..
   | exact laws_szInode.mono ..
   | exact laws_toInode.mono ..
   | exact spec_InodeWords.mono ..
   | exact LeO.none _
   | refine LeO.ite ?_ ?_
   | refine LeO.bind ?_ (fun _ => ?_)
  ·intro y0 y1
   unfold laws_FnExactInodeWords.j7
   repeat' first
   | (with_reducible exact ih0 ..)
   | (with_reducible exact ih1 ..)
   | (with_reducible exact ih2 ..)
   | (with_reducible exact ih3 ..)
   | (with_reducible exact ih4 ..)
   | (with_reducible exact ih5 ..)
   | (with_reducible exact ih6 ..)
   | (with_reducible exact ih7 ..)
   | (with_reducible exact impl_InodeWords.mono ..)
   | (with_reducible exact laws_eqInode.mono ..)
   | (with_reducible exact laws_eqStringS.mono ..)
   | (with_reducible exact laws_heldStringS.mono ..)
   | (with_reducible exact laws_markInode.mono ..)
   | (with_reducible exact laws_markStringS.mono ..)
   | (with_reducible exact laws_szInode.mono ..)
   | (with_reducible exact laws_toInode.mono ..)
   | (with_reducible exact spec_InodeWords.mono ..)
   | (with_reducible exact LeO.refl _)
   | (with_reducible exact LeO.none _)
   | (with_reducible refine LeO.ite ?_ ?_)
   | (with_reducible refine LeO.bind ?_ (fun _ => ?_))
   | exact ih0 ..
   | exact ih1 ..
   | exact ih2 ..
   | exact ih3 ..
   | exact ih4 ..
   | exact ih5 ..
   | exact ih6 ..
   | exact ih7 ..
   | exact impl_InodeWords.mono ..
   | exact laws_eqInode.mono ..
   | exact laws_eqStringS.mono ..
   | exact laws_heldStringS.mono ..
   | exact laws_markInode.mono ..
   | exact laws_markStringS.mono ..
   | exact laws_szInode.mono ..
   | exact laws_toInode.mono ..
   | exact spec_InodeWords.mono ..
   | exact LeO.none _
   | refine LeO.ite ?_ ?_
   | refine LeO.bind ?_ (fun _ => ?_)
theorem laws_FnExactInodeWords.mono : ∀ a0 a1 a2 a3 a4 a5 k, LeO (laws_FnExactInodeWords.f k a0 a1 a2 a3 a4 a5) (laws_FnExactInodeWords.f (k + 1) a0 a1 a2 a3 a4 a5) := by
 intro a0 a1 a2 a3 a4 a5 k
 obtain ⟨ih0, ih1, ih2, ih3, ih4, ih5, ih6, ih7⟩ := laws_FnExactInodeWords.mono_l k
 unfold laws_FnExactInodeWords.f
 repeat' first
   | (with_reducible exact ih0 ..)
   | (with_reducible exact ih1 ..)
   | (with_reducible exact ih2 ..)
   | (with_reducible exact ih3 ..)
   | (with_reducible exact ih4 ..)
   | (with_reducible exact ih5 ..)
   | (with_reducible exact ih6 ..)
   | (with_reducible exact ih7 ..)
   | (with_reducible exact impl_InodeWords.mono ..)
   | (with_reducible exact laws_eqInode.mono ..)
   | (with_reducible exact laws_eqStringS.mono ..)
   | (with_reducible exact laws_heldStringS.mono ..)
   | (with_reducible exact laws_markInode.mono ..)
   | (with_reducible exact laws_markStringS.mono ..)
   | (with_reducible exact laws_szInode.mono ..)
   | (with_reducible exact laws_toInode.mono ..)
   | (with_reducible exact spec_InodeWords.mono ..)
   | (with_reducible exact LeO.refl _)
   | (with_reducible exact LeO.none _)
   | (with_reducible refine LeO.ite ?_ ?_)
   | (with_reducible refine LeO.bind ?_ (fun _ => ?_))
   | exact ih0 ..
   | exact ih1 ..
   | exact ih2 ..
   | exact ih3 ..
   | exact ih4 ..
   | exact ih5 ..
   | exact ih6 ..
   | exact ih7 ..
   | exact impl_InodeWords.mono ..
   | exact laws_eqInode.mono ..
   | exact laws_eqStringS.mono ..
   | exact laws_heldStringS.mono ..
   | exact laws_markInode.mono ..
   | exact laws_markStringS.mono ..
   | exact laws_szInode.mono ..
   | exact laws_toInode.mono ..
   | exact spec_InodeWords.mono ..
   | exact LeO.none _
   | refine LeO.ite ?_ ?_
   | refine LeO.bind ?_ (fun _ => ?_)
set_option maxHeartbeats 8000000 in
set_option maxRecDepth 100000 in
theorem laws_FnExactInodeWords.calls (k : Nat) (a0_0 : Int) (a0_1 : Int) (a0_2 : Int) (a0_3 : ByteArray) (A0_4 : Option Addr) (c0_4 : Nat) (l0_4 : List (S181)) (A0_5 : Option Addr) (c0_5 : Nat) (l0_5 : List (S56)) (r : Bool) (w : World) (hr0_4 : Kd.C k181 w A0_4 l0_4.length l0_4) (hc0_4 : l0_4.length ≤ c0_4) (hr0_5 : Kd.C k56 w A0_5 l0_5.length l0_5) (hc0_5 : l0_5.length ≤ c0_5) (h : laws_FnExactInodeWords.f k a0_0 a0_1 a0_2 a0_3 l0_4 l0_5 = some r) :
  Calls Try.prog 12 #[.agg #[.int .i64 a0_0, .int .i64 a0_1, .int .i64 a0_2, .string a0_3, .slice A0_4 l0_4.length c0_4, .slice A0_5 l0_5.length c0_5]] w fun e w' => e = .returned (.bool r) ∧ Below w.heap.size w w' := by
 have hu44 := Try.underlying44
 have hu49 := Try.underlying49
 have HR0_4 := Aside0.mk hr0_4
 have HC0_4 := Aside0.mk hc0_4
 clear hr0_4 hc0_4
 have HR0_5 := Aside0.mk hr0_5
 have HC0_5 := Aside0.mk hc0_5
 clear hr0_5 hc0_5
 have HB := Aside0.mk (Below.refl w.heap.size w)
 have H : ((laws_szInode.f k a0_0 a0_1 a0_2 a0_3 l0_4 l0_5 1048576).bind fun t311 => (if t311 < 0 then (some true) else (laws_FnExactInodeWords.j0 k a0_0 a0_1 a0_2 a0_3 l0_4 l0_5))) = some r := h
 clear h
 replace H := Option.bind_eq_some_iff.mp H
 obtain ⟨t311, A20, H⟩ := H
 replace H : (if t311 < 0 then (some true) else (laws_FnExactInodeWords.j0 k a0_0 a0_1 a0_2 a0_3 l0_4 l0_5)) = some r := H
 have A2 := Aside0.mk A20
 clear A20
 have HC3 := Aside0.mk H
 clear H
 go_enter Try.func12, Try.ntmps12
 go_upto_if 15 with (first | ((with_reducible refine gate_dst (N := 1) rfl ?_); refine box_event ?hg (N := 1) ?hd (cs := #[.int .i64 a0_0, .int .i64 a0_1, .int .i64 a0_2, .string a0_3, .slice A0_4 l0_4.length c0_4, .slice A0_5 l0_5.length c0_5]) (t := 44) ?hr ?_; (case hd => rfl); (case hg => rfl); (case hr => first | (go_simp; done) | (go_simp; rfl)); intro gb310 hg w4 hbox hb; have z_ := p_ (below_step tq_0 hb) <| p_ (hbox) <| p_ (gb_ hg tq_0) <| a_ (gb_ hg tq_0); clear HB; obtain ⟨HB, BK310, GW310, GE310⟩ := z_; clear hb hbox hg; have hcz5_0 := bc_ BK310.out 0; have hcz5_1 := bc_ BK310.out 1; have hcz5_2 := bc_ BK310.out 2; have hcz5_3 := bc_ BK310.out 3; have hcz5_4 := bc_ BK310.out 4; have hcz5_5 := bc_ BK310.out 5; have hfz5_0 := blk_frozen BK310.out 0; have hfz5_1 := blk_frozen BK310.out 1; have hfz5_2 := blk_frozen BK310.out 2; have hfz5_3 := blk_frozen BK310.out 3; have hfz5_4 := blk_frozen BK310.out 4; have hfz5_5 := blk_frozen BK310.out 5) | ((with_reducible refine gate_callee (f := 26) rfl ?_); refine goesL_ (some 13) rfl rfl Try.func26 (by kernel_rfl) rfl #[.agg #[.int .i64 a0_0, .int .i64 a0_1, .int .i64 a0_2, .string a0_3, .slice A0_4 l0_4.length c0_4, .slice A0_5 l0_5.length c0_5], .int .i64 1048576] rfl tq_1 ?_; (with_reducible refine (laws_szInode.calls k a0_0 a0_1 a0_2 a0_3 _ _ l0_4 _ _ l0_5 1048576 t311 _ ?side1 ?side2 ?side3 ?side4 A2.out).mono ?_); (case side1 => exact tq_18); (case side2 => exact HC0_4.out); (case side3 => exact tq_26); (case side4 => exact HC0_5.out); rintro e w6 ⟨rfl, hb⟩; refine ⟨_, rfl, ?_⟩; have z_ := p_ (blk_below tq_19 hb) <| a_ (below_step tq_27 hb); clear BK310 HB; obtain ⟨BK310, HB⟩ := z_; (try clear hb); (try clear hb2); (try clear hk); (try clear hi)))
 (try simp only [Act.put, List.setIfInBounds_toArray, List.set_cons_zero, List.set_cons_succ])
 go_cut [] (fun wc => ∃ (kq : Nat), Aside0 (laws_FnExactInodeWords.j0 kq a0_0 a0_1 a0_2 a0_3 l0_4 l0_5 = some r) ∧ Aside0 (kq ≤ k) ∧ Aside0 (wc.heap[gb310]? = some (.cells #[.int .i64 a0_0, .int .i64 a0_1, .int .i64 a0_2, .string a0_3, (.slice A0_4 l0_4.length c0_4), (.slice A0_5 l0_5.length c0_5)] 44 (0, 0))) ∧ Aside0 (Below w.heap.size w wc))
 case first =>
  have H := HC3.out
  clear HC3
  by_cases c7 : t311 < 0
  ·rw [if_pos c7] at H
   have c7b0 : decide (t311 < 0) = true := decide_eq_true c7
   clear c7
   (first | rw [c7b0] | (simp only [i64_w, i32_w]; rw [c7b0]) | skip)
   obtain rfl := Option.some.inj H
   go_wp2
   go_ret
   exact ⟨tq_2, tq_27⟩
  ·rw [if_neg c7] at H
   have c7b0 : decide (t311 < 0) = false := decide_eq_false c7
   clear c7
   (first | rw [c7b0] | (simp only [i64_w, i32_w]; rw [c7b0]) | skip)
   have H' := Aside0.mk H
   clear H
   go_wp2
   go_meet
   case rel => exact ⟨_, H', ⟨tq_51⟩, ⟨tq_19⟩, ⟨tq_27⟩⟩
 case rest =>
  clear HC3
  try clear c1
  try clear c2
  try clear p2
  try clear c7
  try clear c7b0
  try clear hcz5_0 hcz5_1 hcz5_2 hcz5_3 hcz5_4 hcz5_5 hfz5_0 hfz5_1 hfz5_2 hfz5_3 hfz5_4 hfz5_5
  obtain ⟨kq, HA, HJ2, BK310, HB⟩ := hcut
  cases kq with
  | zero => exact absurd HA.out (by simp [laws_FnExactInodeWords.j0])
  | succ kj2 =>
   have H := HA.out
   clear HA
   simp only [laws_FnExactInodeWords.j0] at H
   replace H := Option.bind_eq_some_iff.mp H
   obtain ⟨⟨t312, t313, t314, t315, t316, t319⟩, A80, H⟩ := H
   replace H : ((spec_InodeWords.f kj2 t312 t313 t314 t315 t316 t319).bind fun t322 => ((laws_toInode.f kj2 a0_0 a0_1 a0_2 a0_3 l0_4 l0_5).bind fun bt325 => ((impl_InodeWords.f kj2 bt325.1 bt325.2.1 bt325.2.2.1 bt325.2.2.2.1 bt325.2.2.2.2.1 bt325.2.2.2.2.2).bind fun t336 => ((laws_eqStringS.f kj2 t336 t322).bind fun t339 => (if t339 = true then (laws_FnExactInodeWords.j1 kj2 t322 t336 a0_0 a0_1 a0_2 a0_3 l0_4 l0_5 bt325.1 bt325.2.1 bt325.2.2.1 bt325.2.2.2.1 bt325.2.2.2.2.1 bt325.2.2.2.2.2) else (some false)))))) = some r := H
   have A8 := Aside0.mk A80
   clear A80
   replace H := Option.bind_eq_some_iff.mp H
   obtain ⟨t322, A90, H⟩ := H
   replace H : ((laws_toInode.f kj2 a0_0 a0_1 a0_2 a0_3 l0_4 l0_5).bind fun bt325 => ((impl_InodeWords.f kj2 bt325.1 bt325.2.1 bt325.2.2.1 bt325.2.2.2.1 bt325.2.2.2.2.1 bt325.2.2.2.2.2).bind fun t336 => ((laws_eqStringS.f kj2 t336 t322).bind fun t339 => (if t339 = true then (laws_FnExactInodeWords.j1 kj2 t322 t336 a0_0 a0_1 a0_2 a0_3 l0_4 l0_5 bt325.1 bt325.2.1 bt325.2.2.1 bt325.2.2.2.1 bt325.2.2.2.2.1 bt325.2.2.2.2.2) else (some false))))) = some r := H
   have A9 := Aside0.mk A90
   clear A90
   replace H := Option.bind_eq_some_iff.mp H
   obtain ⟨⟨t325, t326, t327, t328, t329, t332⟩, A100, H⟩ := H
   replace H : ((impl_InodeWords.f kj2 t325 t326 t327 t328 t329 t332).bind fun t336 => ((laws_eqStringS.f kj2 t336 t322).bind fun t339 => (if t339 = true then (laws_FnExactInodeWords.j1 kj2 t322 t336 a0_0 a0_1 a0_2 a0_3 l0_4 l0_5 t325 t326 t327 t328 t329 t332) else (some false)))) = some r := H
   have A10 := Aside0.mk A100
   clear A100
   replace H := Option.bind_eq_some_iff.mp H
   obtain ⟨t336, A110, H⟩ := H
   replace H : ((laws_eqStringS.f kj2 t336 t322).bind fun t339 => (if t339 = true then (laws_FnExactInodeWords.j1 kj2 t322 t336 a0_0 a0_1 a0_2 a0_3 l0_4 l0_5 t325 t326 t327 t328 t329 t332) else (some false))) = some r := H
   have A11 := Aside0.mk A110
   clear A110
   replace H := Option.bind_eq_some_iff.mp H
   obtain ⟨t339, A120, H⟩ := H
   replace H : (if t339 = true then (laws_FnExactInodeWords.j1 kj2 t322 t336 a0_0 a0_1 a0_2 a0_3 l0_4 l0_5 t325 t326 t327 t328 t329 t332) else (some false)) = some r := H
   have A12 := Aside0.mk A120
   clear A120
   have HC13 := Aside0.mk H
   clear H
   have hcz14_0 := bc_ BK310.out 0
   have hcz14_1 := bc_ BK310.out 1
   have hcz14_2 := bc_ BK310.out 2
   have hcz14_3 := bc_ BK310.out 3
   have hcz14_4 := bc_ BK310.out 4
   have hcz14_5 := bc_ BK310.out 5
   have hfz14_0 := blk_frozen BK310.out 0
   have hfz14_1 := blk_frozen BK310.out 1
   have hfz14_2 := blk_frozen BK310.out 2
   have hfz14_3 := blk_frozen BK310.out 3
   have hfz14_4 := blk_frozen BK310.out 4
   have hfz14_5 := blk_frozen BK310.out 5
   go_upto_if 26 with (first | ((with_reducible refine gate_callee (f := 28) rfl ?_); refine goesL_ (some 17) rfl rfl Try.func28 (by kernel_rfl) rfl #[.agg #[.int .i64 a0_0, .int .i64 a0_1, .int .i64 a0_2, .string a0_3, .slice A0_4 l0_4.length c0_4, .slice A0_5 l0_5.length c0_5]] rfl tq_1 ?_; (with_reducible refine (laws_toInode.calls kj2 a0_0 a0_1 a0_2 a0_3 _ _ l0_4 _ _ l0_5 t312 t313 t314 t315 t316 t319 _ ?side1 ?side2 ?side3 ?side4 A8.out).mono ?_); (case side1 => exact tq_18); (case side2 => exact HC0_4.out); (case side3 => exact tq_26); (case side4 => exact HC0_5.out); rintro e w15 ⟨v317, v320, rfl, ho0, ho1, hb⟩; refine ⟨_, rfl, ?_⟩; have z_ := p_ (Kd.R_lower ho0 (below_size tq_27)) <| p_ (Kd.R_lower ho1 (below_size tq_27)) <| p_ (blk_below tq_19 hb) <| a_ (below_step tq_27 hb); clear BK310 HB; obtain ⟨HO318, HO321, BK310, HB⟩ := z_; (try clear hb); (try clear hb2); (try clear hk); (try clear hi); (try clear ho0); (try clear ho1); obtain ⟨Ao16, co16, eo16⟩ := Kd.R_slice HO318.out; subst eo16; obtain ⟨Ao17, co17, eo17⟩ := Kd.R_slice HO321.out; subst eo17) | ((with_reducible refine gate_callee (f := 68) rfl ?_); refine goesL_ (some 18) rfl rfl Try.func68 (by kernel_rfl) rfl #[.agg #[.int .i64 t312, .int .i64 t313, .int .i64 t314, .string t315, .slice Ao16 t316.length co16, .slice Ao17 t319.length co17]] rfl tq_1 ?_; (with_reducible refine (spec_InodeWords.calls kj2 t312 t313 t314 t315 _ _ t316 _ _ t319 t322 _ ?side1 ?side2 ?side3 ?side4 A9.out).mono ?_); (case side1 => repeat (first | exact (Kd.R_reads' HO318.out).2.2 | (with_reducible refine Kd.C_alloc ?_ _) | (with_reducible refine Kd.C_drewN ?_ _) | (with_reducible refine Kd.C_drew ?_))); (case side2 => exact (Kd.R_reads' HO318.out).2.1); (case side3 => repeat (first | exact (Kd.R_reads' HO321.out).2.2 | (with_reducible refine Kd.C_alloc ?_ _) | (with_reducible refine Kd.C_drewN ?_ _) | (with_reducible refine Kd.C_drew ?_))); (case side4 => exact (Kd.R_reads' HO321.out).2.1); rintro e w18 ⟨v323, rfl, ho0, hb⟩; refine ⟨_, rfl, ?_⟩; have z_ := p_ (Kd.R_below tq_81 hb) <| p_ (Kd.R_below tq_80 hb) <| p_ (Kd.R_lower ho0 (below_size tq_27)) <| p_ (blk_below tq_19 hb) <| a_ (below_step tq_27 hb); clear HO318 HO321 BK310 HB; obtain ⟨HO318, HO321, HO324, BK310, HB⟩ := z_; (try clear hb); (try clear hb2); (try clear hk); (try clear hi); (try clear ho0); have hcz19_0 := bc_ BK310.out 0; have hcz19_1 := bc_ BK310.out 1; have hcz19_2 := bc_ BK310.out 2; have hcz19_3 := bc_ BK310.out 3; have hcz19_4 := bc_ BK310.out 4; have hcz19_5 := bc_ BK310.out 5; have hfz19_0 := blk_frozen BK310.out 0; have hfz19_1 := blk_frozen BK310.out 1; have hfz19_2 := blk_frozen BK310.out 2; have hfz19_3 := blk_frozen BK310.out 3; have hfz19_4 := blk_frozen BK310.out 4; have hfz19_5 := blk_frozen BK310.out 5) | ((with_reducible refine gate_callee (f := 28) rfl ?_); refine goesL_ (some 20) rfl rfl Try.func28 (by kernel_rfl) rfl #[.agg #[.int .i64 a0_0, .int .i64 a0_1, .int .i64 a0_2, .string a0_3, .slice A0_4 l0_4.length c0_4, .slice A0_5 l0_5.length c0_5]] rfl tq_1 ?_; (with_reducible refine (laws_toInode.calls kj2 a0_0 a0_1 a0_2 a0_3 _ _ l0_4 _ _ l0_5 t325 t326 t327 t328 t329 t332 _ ?side1 ?side2 ?side3 ?side4 A10.out).mono ?_); (case side1 => exact tq_18); (case side2 => exact HC0_4.out); (case side3 => exact tq_26); (case side4 => exact HC0_5.out); rintro e w20 ⟨v330, v333, rfl, ho0, ho1, hb⟩; refine ⟨_, rfl, ?_⟩; have z_ := p_ (Kd.R_elder' tq_81 (Kd.R_base ho0) hb) <| p_ (Kd.R_elder' tq_80 (Kd.R_base ho1) hb) <| p_ (Kd.R_below (by (with_reducible repeat (first | apply Kd.R_alloc | apply Kd.R_drewN | apply Kd.R_drew)); exact HO324.out) hb) <| p_ (Kd.R_lower (Kd.R_new' ho0 (Kd.R_lt tq_81)) (below_size tq_27)) <| p_ (Kd.R_lower (Kd.R_new' ho1 (Kd.R_lt tq_80)) (below_size tq_27)) <| p_ (blk_below tq_19 hb) <| a_ (below_step tq_27 hb); clear HO318 HO321 HO324 BK310 HB; obtain ⟨HO318, HO321, HO324, HO331, HO334, BK310, HB⟩ := z_; (try clear hb); (try clear hb2); (try clear hk); (try clear hi); (try clear ho0); (try clear ho1)) | ((with_reducible refine gate_dst (N := 5) rfl ?_); refine box_event ?hg (N := 5) ?hd (cs := #[.int .i64 0, .int .i64 0, .int .i64 0, .string (⟨#[]⟩ : ByteArray), .slice none 0 0, .slice none 0 0]) (t := 49) ?hr ?_; (case hd => rfl); (case hg => rfl); (case hr => first | (go_simp; done) | (go_simp; rfl)); intro gb335 hg w21 hbox hb; have z_ := p_ (Kd.R_below tq_81 hb) <| p_ (Kd.R_below tq_80 hb) <| p_ (Kd.R_below (by (with_reducible repeat (first | apply Kd.R_alloc | apply Kd.R_drewN | apply Kd.R_drew)); exact HO324.out) hb) <| p_ (Kd.R_below (by (with_reducible repeat (first | apply Kd.R_alloc | apply Kd.R_drewN | apply Kd.R_drew)); exact HO331.out) hb) <| p_ (Kd.R_below (by (with_reducible repeat (first | apply Kd.R_alloc | apply Kd.R_drewN | apply Kd.R_drew)); exact HO334.out) hb) <| p_ (blk_below tq_19 hb) <| p_ (below_step tq_27 hb) <| p_ (hbox) <| p_ (gb_ hg tq_27) <| p_ (gb_ hg tq_27) <| p_ (ltne_ hg (blk_lt tq_19)) <| a_ (gtne_ hg (blk_lt tq_19)); clear HO318 HO321 HO324 HO331 HO334 BK310 HB; obtain ⟨HO318, HO321, HO324, HO331, HO334, BK310, HB, BK335, GW335, GE335, NB310_335, NB335_310⟩ := z_; clear hb hbox hg; have hnb22 := NB335_310.out; have hnc22 := NB310_335.out; have hcz23_0 := bc_ BK335.out 0; have hcz23_1 := bc_ BK335.out 1; have hcz23_2 := bc_ BK335.out 2; have hcz23_3 := bc_ BK335.out 3; have hcz23_4 := bc_ BK335.out 4; have hcz23_5 := bc_ BK335.out 5; have hfz23_0 := blk_frozen BK335.out 0; have hfz23_1 := blk_frozen BK335.out 1; have hfz23_2 := blk_frozen BK335.out 2; have hfz23_3 := blk_frozen BK335.out 3; have hfz23_4 := blk_frozen BK335.out 4; have hfz23_5 := blk_frozen BK335.out 5; obtain ⟨Ao24, co24, eo24⟩ := Kd.R_slice HO331.out; subst eo24; obtain ⟨Ao25, co25, eo25⟩ := Kd.R_slice HO334.out; subst eo25) | ((with_reducible refine gate_callee (f := 69) rfl ?_); refine goesL_ (some 22) rfl rfl Try.func69 (by kernel_rfl) rfl #[.agg #[.int .i64 t325, .int .i64 t326, .int .i64 t327, .string t328, .slice Ao24 t329.length co24, .slice Ao25 t332.length co25]] rfl tq_1 ?_; (with_reducible refine (impl_InodeWords.calls kj2 t325 t326 t327 t328 _ _ t329 _ _ t332 t336 _ ?side1 ?side2 ?side3 ?side4 A11.out).mono ?_); (case side1 => refine (Kd.R_reads' (e := 170) (base := w.heap.size) (ok := fun k_ => (True ∧ some k_ ≠ (.slice Ao16 t316.length co16 : Value).ownBlock)) (n := t329.length) (c := co24) ?_).2.2; exact tq_54); (case side2 => exact (Kd.R_reads' HO331.out).2.1); (case side3 => refine (Kd.R_reads' (e := 59) (base := w.heap.size) (ok := fun k_ => (True ∧ some k_ ≠ (.slice Ao17 t319.length co17 : Value).ownBlock)) (n := t332.length) (c := co25) ?_).2.2; exact tq_53); (case side4 => exact (Kd.R_reads' HO334.out).2.1); rintro e w26 ⟨v337, rfl, ho0, hb⟩; refine ⟨_, rfl, ?_⟩; have z_ := p_ (Kd.R_below (by (with_reducible repeat (first | apply Kd.R_alloc | apply Kd.R_drewN | apply Kd.R_drew)); exact (Kd.R_mono (Kd.R_far (p := ⟨gb335, 5, none⟩) (Kd.R_far (p := ⟨gb335, 4, none⟩) (Kd.R_far (p := ⟨gb335, 3, none⟩) (Kd.R_far (p := ⟨gb335, 2, none⟩) (Kd.R_far (p := ⟨gb335, 1, none⟩) (Kd.R_far (p := ⟨gb335, 0, none⟩) (Kd.R_types HO318.out BK335.out (by decide)) (fun _ hk => hk.2) (.int .i64 t325)) (fun _ hk => hk.2) (.int .i64 t326)) (fun _ hk => hk.2) (.int .i64 t327)) (fun _ hk => hk.2) (.string t328)) (fun _ hk => hk.2) (.slice Ao24 t329.length co24)) (fun _ hk => hk.2) (.slice Ao25 t332.length co25)) (fun _ h_ => h_.1))) hb) <| p_ (Kd.R_below (by (with_reducible repeat (first | apply Kd.R_alloc | apply Kd.R_drewN | apply Kd.R_drew)); exact (Kd.R_mono (Kd.R_far (p := ⟨gb335, 5, none⟩) (Kd.R_far (p := ⟨gb335, 4, none⟩) (Kd.R_far (p := ⟨gb335, 3, none⟩) (Kd.R_far (p := ⟨gb335, 2, none⟩) (Kd.R_far (p := ⟨gb335, 1, none⟩) (Kd.R_far (p := ⟨gb335, 0, none⟩) (Kd.R_types HO321.out BK335.out (by decide)) (fun _ hk => hk.2) (.int .i64 t325)) (fun _ hk => hk.2) (.int .i64 t326)) (fun _ hk => hk.2) (.int .i64 t327)) (fun _ hk => hk.2) (.string t328)) (fun _ hk => hk.2) (.slice Ao24 t329.length co24)) (fun _ hk => hk.2) (.slice Ao25 t332.length co25)) (fun _ h_ => h_.1))) hb) <| p_ (Kd.R_elder' tq_55 (Kd.R_base ho0) hb) <| p_ (Kd.R_below tq_54 hb) <| p_ (Kd.R_below tq_53 hb) <| p_ (Kd.R_lower (Kd.R_new' ho0 (Kd.R_lt tq_55)) (below_size tq_5)) <| p_ (blk_below (g := gb310) (o := .cells #[.int .i64 a0_0, .int .i64 a0_1, .int .i64 a0_2, .string a0_3, .slice A0_4 l0_4.length c0_4, .slice A0_5 l0_5.length c0_5] 44 (0, 0)) (by (with_reducible repeat (first | refine blk_drewN ?_ _ | refine blk_drew ?_ | refine blk_alloc ?_ _)); refine blk_far ?_ NB310_335.out _; (with_reducible repeat (first | refine blk_drewN ?_ _ | refine blk_drew ?_ | refine blk_alloc ?_ _)); refine blk_far ?_ NB310_335.out _; (with_reducible repeat (first | refine blk_drewN ?_ _ | refine blk_drew ?_ | refine blk_alloc ?_ _)); refine blk_far ?_ NB310_335.out _; (with_reducible repeat (first | refine blk_drewN ?_ _ | refine blk_drew ?_ | refine blk_alloc ?_ _)); refine blk_far ?_ NB310_335.out _; (with_reducible repeat (first | refine blk_drewN ?_ _ | refine blk_drew ?_ | refine blk_alloc ?_ _)); refine blk_far ?_ NB310_335.out _; (with_reducible repeat (first | refine blk_drewN ?_ _ | refine blk_drew ?_ | refine blk_alloc ?_ _)); refine blk_far ?_ NB310_335.out _; (with_reducible repeat (first | refine blk_drewN ?_ _ | refine blk_drew ?_ | refine blk_alloc ?_ _)); exact BK310.out) hb) <| p_ (blk_below (g := gb335) (o := .cells #[.int .i64 t325, .int .i64 t326, .int .i64 t327, .string t328, .slice Ao24 t329.length co24, .slice Ao25 t332.length co25] 49 (0, 0)) (by (with_reducible repeat (first | refine blk_drewN ?_ _ | refine blk_drew ?_ | refine blk_alloc ?_ _)); refine blk_put (cs := #[.int .i64 t325, .int .i64 t326, .int .i64 t327, .string t328, .slice Ao24 t329.length co24, .slice none 0 0]) ?_ 5 _ rfl; (with_reducible repeat (first | refine blk_drewN ?_ _ | refine blk_drew ?_ | refine blk_alloc ?_ _)); refine blk_put (cs := #[.int .i64 t325, .int .i64 t326, .int .i64 t327, .string t328, .slice none 0 0, .slice none 0 0]) ?_ 4 _ rfl; (with_reducible repeat (first | refine blk_drewN ?_ _ | refine blk_drew ?_ | refine blk_alloc ?_ _)); refine blk_put (cs := #[.int .i64 t325, .int .i64 t326, .int .i64 t327, .string (⟨#[]⟩ : ByteArray), .slice none 0 0, .slice none 0 0]) ?_ 3 _ rfl; (with_reducible repeat (first | refine blk_drewN ?_ _ | refine blk_drew ?_ | refine blk_alloc ?_ _)); refine blk_put (cs := #[.int .i64 t325, .int .i64 t326, .int .i64 0, .string (⟨#[]⟩ : ByteArray), .slice none 0 0, .slice none 0 0]) ?_ 2 _ rfl; (with_reducible repeat (first | refine blk_drewN ?_ _ | refine blk_drew ?_ | refine blk_alloc ?_ _)); refine blk_put (cs := #[.int .i64 t325, .int .i64 0, .int .i64 0, .string (⟨#[]⟩ : ByteArray), .slice none 0 0, .slice none 0 0]) ?_ 1 _ rfl; (with_reducible repeat (first | refine blk_drewN ?_ _ | refine blk_drew ?_ | refine blk_alloc ?_ _)); refine blk_put (cs := #[.int .i64 0, .int .i64 0, .int .i64 0, .string (⟨#[]⟩ : ByteArray), .slice none 0 0, .slice none 0 0]) ?_ 0 _ rfl; (with_reducible repeat (first | refine blk_drewN ?_ _ | refine blk_drew ?_ | refine blk_alloc ?_ _)); exact BK335.out) hb) <| a_ (below_step tq_5 hb); clear HO318 HO321 HO324 HO331 HO334 BK310 BK335 HB; obtain ⟨HO318, HO321, HO324, HO331, HO334, HO338, BK310, BK335, HB⟩ := z_; (try clear hb); (try clear hb2); (try clear hk); (try clear hi); (try clear ho0); obtain ⟨Ao27, co27, eo27⟩ := Kd.R_slice HO338.out; subst eo27; obtain ⟨Ao28, co28, eo28⟩ := Kd.R_slice HO324.out; subst eo28) | ((with_reducible refine gate_callee (f := 70) rfl ?_); refine goesL_ (some 25) rfl rfl Try.func70 (by kernel_rfl) rfl #[.slice Ao27 t336.length co27, .slice Ao28 t322.length co28] rfl tq_1 ?_; (with_reducible refine (laws_eqStringS.calls kj2 _ _ t336 _ _ t322 t339 _ ?side1 ?side2 ?side3 ?side4 A12.out).mono ?_); (case side1 => repeat (first | exact (Kd.R_reads' HO338.out).2.2 | (with_reducible refine Kd.C_alloc ?_ _) | (with_reducible refine Kd.C_drewN ?_ _) | (with_reducible refine Kd.C_drew ?_))); (case side2 => exact (Kd.R_reads' HO338.out).2.1); (case side3 => repeat (first | exact (Kd.R_reads' HO324.out).2.2 | (with_reducible refine Kd.C_alloc ?_ _) | (with_reducible refine Kd.C_drewN ?_ _) | (with_reducible refine Kd.C_drew ?_))); (case side4 => exact (Kd.R_reads' HO324.out).2.1); rintro e w' ⟨rfl, ⟨nd, rfl⟩⟩; refine ⟨_, rfl, ?_⟩))
   (try simp only [Act.put, List.setIfInBounds_toArray, List.set_cons_zero, List.set_cons_succ])
   go_cut [] (fun wc => ∃ (kq : Nat), Aside0 (laws_FnExactInodeWords.j1 kq t322 t336 a0_0 a0_1 a0_2 a0_3 l0_4 l0_5 t325 t326 t327 t328 t329 t332 = some r) ∧ Aside0 (kq ≤ kj2) ∧ Aside0 (Kd.R Kd.string 9 wc w.heap.size (fun k_ => some k_ ≠ ((.slice Ao27 t336.length co27) : Value).ownBlock) (.slice Ao28 t322.length co28) t322) ∧ Aside0 (Kd.R Kd.string 9 wc w.heap.size (fun k_ => some k_ ≠ ((.slice Ao28 t322.length co28) : Value).ownBlock) (.slice Ao27 t336.length co27) t336) ∧ Aside0 (Kd.R k170 170 wc w.heap.size (fun _ => True) (.slice Ao24 t329.length co24) t329) ∧ Aside0 (Kd.R k59 59 wc w.heap.size (fun _ => True) (.slice Ao25 t332.length co25) t332) ∧ Aside0 (wc.heap[gb310]? = some (.cells #[.int .i64 a0_0, .int .i64 a0_1, .int .i64 a0_2, .string a0_3, (.slice A0_4 l0_4.length c0_4), (.slice A0_5 l0_5.length c0_5)] 44 (0, 0))) ∧ Aside0 (wc.heap[gb335]? = some (.cells #[.int .i64 t325, .int .i64 t326, .int .i64 t327, .string t328, (.slice Ao24 t329.length co24), (.slice Ao25 t332.length co25)] 49 (0, 0))) ∧ Aside0 (Below w.heap.size w wc))
   case first =>
    have H := HC13.out
    clear HC13
    by_cases c29 : t339 = true
    ·subst c29
     have H1 : (laws_FnExactInodeWords.j1 kj2 t322 t336 a0_0 a0_1 a0_2 a0_3 l0_4 l0_5 t325 t326 t327 t328 t329 t332) = some r := by rw [if_pos rfl] at H; exact H
     clear H
     have H := H1
     clear H1
     have H' := Aside0.mk H
     clear H
     go_wp2
     go_meet
     case rel => exact ⟨_, H', ⟨(by have := HJ2.out; first | omega | exact Nat.le_refl _)⟩, ⟨(by (with_reducible repeat (first | apply Kd.R_alloc | apply Kd.R_drewN | apply Kd.R_drew)); exact Kd.R_mono HO324.out (fun _ hk => hk.2))⟩, ⟨(by (with_reducible repeat (first | apply Kd.R_alloc | apply Kd.R_drewN | apply Kd.R_drew)); exact Kd.R_mono HO338.out (fun _ hk => hk.2))⟩, ⟨(by (with_reducible repeat (first | apply Kd.R_alloc | apply Kd.R_drewN | apply Kd.R_drew)); exact Kd.R_mono HO331.out (fun _ hk => trivial))⟩, ⟨(by (with_reducible repeat (first | apply Kd.R_alloc | apply Kd.R_drewN | apply Kd.R_drew)); exact Kd.R_mono HO334.out (fun _ hk => trivial))⟩, ⟨tq_19⟩, ⟨tq_32⟩, ⟨tq_5⟩⟩
    ·replace c29 := Bool.eq_false_iff.mpr c29
     subst c29
     have H1 : (some false) = some r := by rw [if_neg (show ¬ (false = true) by decide)] at H; exact H
     clear H
     have H := H1
     clear H1
     obtain rfl := Option.some.inj H
     go_wp2
     go_ret
     exact ⟨tq_2, tq_5⟩
   case rest =>
    clear HC13
    try clear c1
    try clear c2
    try clear p2
    try clear c6
    try clear c7
    try clear c7b0
    try clear c12
    try clear c22
    try clear c26
    try clear c28
    try clear c29
    try clear hcz14_0 hcz14_1 hcz14_2 hcz14_3 hcz14_4 hcz14_5
    try clear hcz19_0 hcz19_1 hcz19_2 hcz19_3 hcz19_4 hcz19_5
    try clear hcz23_0 hcz23_1 hcz23_2 hcz23_3 hcz23_4 hcz23_5
    try clear hcz5_0 hcz5_1 hcz5_2 hcz5_3 hcz5_4 hcz5_5
    try clear hfz14_0 hfz14_1 hfz14_2 hfz14_3 hfz14_4 hfz14_5
    try clear hfz19_0 hfz19_1 hfz19_2 hfz19_3 hfz19_4 hfz19_5
    try clear hfz23_0 hfz23_1 hfz23_2 hfz23_3 hfz23_4 hfz23_5
    try clear hfz5_0 hfz5_1 hfz5_2 hfz5_3 hfz5_4 hfz5_5
    try clear p2
    obtain ⟨kq, HA, HJ12, HO_4, HO_6, HO_336004, HO_336005, BK310, BK335, HB⟩ := hcut
    cases kq with
    | zero => exact absurd HA.out (by simp [laws_FnExactInodeWords.j1])
    | succ kj12 =>
     have H := HA.out
     clear HA
     simp only [laws_FnExactInodeWords.j1] at H
     replace H := Option.bind_eq_some_iff.mp H
     obtain ⟨⟨t340, t341, t342, t343, t344, t347⟩, A300, H⟩ := H
     replace H : ((laws_eqInode.f kj12 t325 t326 t327 t328 t329 t332 t340 t341 t342 t343 t344 t347).bind fun t350 => (if t350 = true then (laws_FnExactInodeWords.j2 kj12 t322 t336 a0_0 a0_1 a0_2 a0_3 l0_4 l0_5 t325 t326 t327 t328 t329 t332) else (some false))) = some r := H
     have A30 := Aside0.mk A300
     clear A300
     replace H := Option.bind_eq_some_iff.mp H
     obtain ⟨t350, A310, H⟩ := H
     replace H : (if t350 = true then (laws_FnExactInodeWords.j2 kj12 t322 t336 a0_0 a0_1 a0_2 a0_3 l0_4 l0_5 t325 t326 t327 t328 t329 t332) else (some false)) = some r := H
     have A31 := Aside0.mk A310
     clear A310
     have HC32 := Aside0.mk H
     clear H
     try go_wp2
     have z_ := p_ (Kd.R_drew HO_4.out) <| p_ (Kd.R_drew HO_6.out) <| p_ (Kd.R_drew HO_336004.out) <| p_ (Kd.R_drew HO_336005.out) <| p_ (blk_drew BK310.out) <| p_ (blk_drew BK335.out) <| a_ (below_drew1 HB.out)
     clear HO_4 HO_6 HO_336004 HO_336005 BK310 BK335 HB
     obtain ⟨HO_4, HO_6, HO_336004, HO_336005, BK310, BK335, HB⟩ := z_
     refine start_ (n := 5) (S := fun w' => w'.cell? ⟨gb335, 0, none⟩ = some (.int .i64 t325) ∧ w'.cell? ⟨gb335, 1, none⟩ = some (.int .i64 t326) ∧ w'.cell? ⟨gb335, 2, none⟩ = some (.int .i64 t327) ∧ w'.cell? ⟨gb335, 3, none⟩ = some (.string t328) ∧ w'.cell? ⟨gb335, 4, none⟩ = some (.slice Ao24 t329.length co24) ∧ w'.cell? ⟨gb335, 5, none⟩ = some (.slice Ao25 t332.length co25) ∧ w'.cell? ⟨gb310, 0, none⟩ = some (.int .i64 a0_0) ∧ w'.cell? ⟨gb310, 1, none⟩ = some (.int .i64 a0_1) ∧ w'.cell? ⟨gb310, 2, none⟩ = some (.int .i64 a0_2) ∧ w'.cell? ⟨gb310, 3, none⟩ = some (.string a0_3) ∧ w'.cell? ⟨gb310, 4, none⟩ = some (.slice A0_4 l0_4.length c0_4) ∧ w'.cell? ⟨gb310, 5, none⟩ = some (.slice A0_5 l0_5.length c0_5)) (ds := []) #[false, false, false, false, false] (by kernel_rfl) rfl rfl (bc6_ BK335.out (bk6_ BK310.out)) (fun hHeld => ?_)
     generalize wc.drew = w33 at HO_4 HO_6 HO_336004 HO_336005 BK310 BK335 HB hHeld ⊢
     refine take_ (i := 0) (N := some 27) (v := ?_) (a' := ?_) #[true, false, false, false, false] rfl rfl (by kernel_rfl) (fun _ _ _ h => h) (Or.inl ⟨(by rfl), ?_⟩) hHeld ?_ ?_
     rotate_left
     ·rintro w' ⟨s0, s1, s2, s3, s4, s5, s6, s7, s8, s9, s10, s11⟩
      go_simp
      with_reducible rfl
     rotate_left
     ·simp only [Act.put, List.setIfInBounds_toArray, List.set_cons_zero, List.set_cons_succ, i64_w, i32_w]
      rfl
     refine take_ (i := 1) (N := some 28) (v := ?_) (a' := ?_) #[true, true, false, false, false] rfl rfl (by kernel_rfl) (fun _ _ _ h => h) (Or.inl ⟨(by rfl), ?_⟩) hHeld ?_ ?_
     rotate_left
     ·rintro w' ⟨s0, s1, s2, s3, s4, s5, s6, s7, s8, s9, s10, s11⟩
      go_simp
      with_reducible rfl
     rotate_left
     ·simp only [Act.put, List.setIfInBounds_toArray, List.set_cons_zero, List.set_cons_succ, i64_w, i32_w]
      rfl
     refine one_ (i := 2) (N := some 29) #[true, true, true, false, false] rfl rfl (by kernel_rfl) (by decide) (fun K hK => ?_)
     refine goes_ Try.func28 (by kernel_rfl) rfl #[.agg #[.int .i64 a0_0, .int .i64 a0_1, .int .i64 a0_2, .string a0_3, .slice A0_4 l0_4.length c0_4, .slice A0_5 l0_5.length c0_5]] (by rfl) rfl rfl tq_1 ?_
     with_reducible refine (laws_toInode.calls kj12 a0_0 a0_1 a0_2 a0_3 _ _ l0_4 _ _ l0_5 t340 t341 t342 t343 t344 t347 _ ?side1 ?side2 ?side3 ?side4 A30.out).mono ?_
     (case side1 => exact tq_18)
     (case side2 => exact HC0_4.out)
     (case side3 => exact tq_26)
     (case side4 => exact HC0_5.out)
     rintro e w34 ⟨v345, v348, rfl, ho0, ho1, hb⟩
     refine ⟨_, rfl, ?_⟩
     have z_ := p_ (Kd.R_below tq_50 hb) <| p_ (Kd.R_below tq_42 hb) <| p_ (Kd.R_elder' tq_41 (Kd.R_base ho0) hb) <| p_ (Kd.R_elder' tq_40 (Kd.R_base ho1) hb) <| p_ (Kd.R_lower (Kd.R_new' ho0 (Kd.R_lt tq_41)) (below_size tq_5)) <| p_ (Kd.R_lower (Kd.R_new' ho1 (Kd.R_lt tq_40)) (below_size tq_5)) <| p_ (blk_below tq_19 hb) <| p_ (blk_below tq_32 hb) <| a_ (below_step tq_5 hb)
     clear HO_4 HO_6 HO_336004 HO_336005 BK310 BK335 HB
     obtain ⟨HO_4, HO_6, HO_336004, HO_336005, HO346, HO349, BK310, BK335, HB⟩ := z_
     (try clear hb)
     (try clear hb2)
     (try clear hk)
     (try clear hi)
     (try clear ho0)
     (try clear ho1)
     obtain ⟨Ao35, co35, eo35⟩ := Kd.R_slice HO346.out
     (first | subst eo35 | (injection eo35 with f1_ f2_ f3_; have f4_ := f1_.symm; have f5_ := f3_.symm; clear f1_ f2_ f3_; subst f4_; subst f5_))
     obtain ⟨Ao36, co36, eo36⟩ := Kd.R_slice HO349.out
     (first | subst eo36 | (injection eo36 with f1_ f2_ f3_; have f4_ := f1_.symm; have f5_ := f3_.symm; clear f1_ f2_ f3_; subst f4_; subst f5_))
     refine hK.out _ _ (bc6_ BK335.out (bk6_ BK310.out)) (fun hHeld => ?_)
     clear hK K
     refine nm_ (some 29) ?_
     refine one_ (i := 3) (N := some 30) #[true, true, true, true, false] rfl rfl (by kernel_rfl) (by decide) (fun K hK => ?_)
     refine goes_ Try.func30 (by kernel_rfl) rfl #[.agg #[.int .i64 t325, .int .i64 t326, .int .i64 t327, .string t328, .slice Ao24 t329.length co24, .slice Ao25 t332.length co25], .agg #[.int .i64 t340, .int .i64 t341, .int .i64 t342, .string t343, .slice Ao35 t344.length co35, .slice Ao36 t347.length co36]] (by rfl) rfl rfl tq_1 ?_
     with_reducible refine (laws_eqInode.calls kj12 t325 t326 t327 t328 _ _ t329 _ _ t332 t340 t341 t342 t343 _ _ t344 _ _ t347 t350 _ ?side1 ?side2 ?side3 ?side4 ?side5 ?side6 ?side7 ?side8 A31.out).mono ?_
     (case side1 => repeat (first | exact (Kd.R_reads' HO_336004.out).2.2 | (with_reducible refine Kd.C_alloc ?_ _) | (with_reducible refine Kd.C_drewN ?_ _) | (with_reducible refine Kd.C_drew ?_)))
     (case side2 => exact (Kd.R_reads' HO_336004.out).2.1)
     (case side3 => repeat (first | exact (Kd.R_reads' HO_336005.out).2.2 | (with_reducible refine Kd.C_alloc ?_ _) | (with_reducible refine Kd.C_drewN ?_ _) | (with_reducible refine Kd.C_drew ?_)))
     (case side4 => exact (Kd.R_reads' HO_336005.out).2.1)
     (case side5 => repeat (first | exact (Kd.R_reads' HO346.out).2.2 | (with_reducible refine Kd.C_alloc ?_ _) | (with_reducible refine Kd.C_drewN ?_ _) | (with_reducible refine Kd.C_drew ?_)))
     (case side6 => exact (Kd.R_reads' HO346.out).2.1)
     (case side7 => repeat (first | exact (Kd.R_reads' HO349.out).2.2 | (with_reducible refine Kd.C_alloc ?_ _) | (with_reducible refine Kd.C_drewN ?_ _) | (with_reducible refine Kd.C_drew ?_)))
     (case side8 => exact (Kd.R_reads' HO349.out).2.1)
     rintro e w37 ⟨rfl, hb⟩
     refine ⟨_, rfl, ?_⟩
     have z_ := p_ (Kd.R_below tq_50 hb) <| p_ (Kd.R_below tq_42 hb) <| p_ (Kd.R_below tq_41 hb) <| p_ (Kd.R_below tq_40 hb) <| p_ (Kd.R_below (by (with_reducible repeat (first | apply Kd.R_alloc | apply Kd.R_drewN | apply Kd.R_drew)); exact HO346.out) hb) <| p_ (Kd.R_below (by (with_reducible repeat (first | apply Kd.R_alloc | apply Kd.R_drewN | apply Kd.R_drew)); exact HO349.out) hb) <| p_ (blk_below tq_19 hb) <| p_ (blk_below tq_32 hb) <| a_ (below_step tq_5 hb)
     clear HO_4 HO_6 HO_336004 HO_336005 HO346 HO349 BK310 BK335 HB
     obtain ⟨HO_4, HO_6, HO_336004, HO_336005, HO346, HO349, BK310, BK335, HB⟩ := z_
     (try clear hb)
     (try clear hb2)
     (try clear hk)
     (try clear hi)
     refine hK.out _ _ (bc6_ BK335.out (bk6_ BK310.out)) (fun hHeld => ?_)
     clear hK K
     refine nm_ (some 30) ?_
     refine yq_ (i := 4) (N := some 31) #[true, true, true, true, true] (by kernel_rfl) ?_
     refine done_ (by kernel_rfl) ?_
     go_upto_if 31 with (fail)
     go_cut [] (fun wc => ∃ (kq : Nat), Aside0 (laws_FnExactInodeWords.j2 kq t322 t336 a0_0 a0_1 a0_2 a0_3 l0_4 l0_5 t325 t326 t327 t328 t329 t332 = some r) ∧ Aside0 (kq ≤ kj12) ∧ Aside0 (Kd.R Kd.string 9 wc w.heap.size (fun k_ => some k_ ≠ ((.slice Ao27 t336.length co27) : Value).ownBlock) (.slice Ao28 t322.length co28) t322) ∧ Aside0 (Kd.R Kd.string 9 wc w.heap.size (fun k_ => some k_ ≠ ((.slice Ao28 t322.length co28) : Value).ownBlock) (.slice Ao27 t336.length co27) t336) ∧ Aside0 (Kd.R k170 170 wc w.heap.size (fun _ => True) (.slice Ao24 t329.length co24) t329) ∧ Aside0 (Kd.R k59 59 wc w.heap.size (fun _ => True) (.slice Ao25 t332.length co25) t332) ∧ Aside0 (wc.heap[gb310]? = some (.cells #[.int .i64 a0_0, .int .i64 a0_1, .int .i64 a0_2, .string a0_3, (.slice A0_4 l0_4.length c0_4), (.slice A0_5 l0_5.length c0_5)] 44 (0, 0))) ∧ Aside0 (wc.heap[gb335]? = some (.cells #[.int .i64 t325, .int .i64 t326, .int .i64 t327, .string t328, (.slice Ao24 t329.length co24), (.slice Ao25 t332.length co25)] 49 (0, 0))) ∧ Aside0 (Below w.heap.size w wc))
     case first =>
      have H := HC32.out
      clear HC32
      by_cases c38 : t350 = true
      ·subst c38
       have H1 : (laws_FnExactInodeWords.j2 kj12 t322 t336 a0_0 a0_1 a0_2 a0_3 l0_4 l0_5 t325 t326 t327 t328 t329 t332) = some r := by rw [if_pos rfl] at H; exact H
       clear H
       have H := H1
       clear H1
       have H' := Aside0.mk H
       clear H
       go_wp2
       go_meet
       case rel => exact ⟨_, H', ⟨(by have := HJ2.out; have := HJ12.out; first | omega | exact Nat.le_refl _)⟩, ⟨tq_50⟩, ⟨tq_42⟩, ⟨(by (with_reducible repeat (first | apply Kd.R_alloc | apply Kd.R_drewN | apply Kd.R_drew)); exact Kd.R_mono HO_336004.out (fun _ hk => trivial))⟩, ⟨(by (with_reducible repeat (first | apply Kd.R_alloc | apply Kd.R_drewN | apply Kd.R_drew)); exact Kd.R_mono HO_336005.out (fun _ hk => trivial))⟩, ⟨tq_19⟩, ⟨tq_32⟩, ⟨tq_5⟩⟩
      ·replace c38 := Bool.eq_false_iff.mpr c38
       subst c38
       have H1 : (some false) = some r := by rw [if_neg (show ¬ (false = true) by decide)] at H; exact H
       clear H
       have H := H1
       clear H1
       obtain rfl := Option.some.inj H
       go_wp2
       go_ret
       exact ⟨tq_2, tq_5⟩
     case rest =>
      clear HC32
      try clear c1
      try clear c2
      try clear p2
      try clear c3
      try clear c6
      try clear c7
      try clear c7b0
      try clear c12
      try clear c22
      try clear c26
      try clear c28
      try clear c29
      try clear c30
      try clear c38
      try clear hcz14_0 hcz14_1 hcz14_2 hcz14_3 hcz14_4 hcz14_5
      try clear hcz19_0 hcz19_1 hcz19_2 hcz19_3 hcz19_4 hcz19_5
      try clear hcz23_0 hcz23_1 hcz23_2 hcz23_3 hcz23_4 hcz23_5
      try clear hcz5_0 hcz5_1 hcz5_2 hcz5_3 hcz5_4 hcz5_5
      try clear hfz14_0 hfz14_1 hfz14_2 hfz14_3 hfz14_4 hfz14_5
      try clear hfz19_0 hfz19_1 hfz19_2 hfz19_3 hfz19_4 hfz19_5
      try clear hfz23_0 hfz23_1 hfz23_2 hfz23_3 hfz23_4 hfz23_5
      try clear hfz5_0 hfz5_1 hfz5_2 hfz5_3 hfz5_4 hfz5_5
      try clear p2
      obtain ⟨kq, HA, HJ31, HO_4, HO_6, HO_336004, HO_336005, BK310, BK335, HB⟩ := hcut
      cases kq with
      | zero => exact absurd HA.out (by simp [laws_FnExactInodeWords.j2])
      | succ kj31 =>
       have H := HA.out
       clear HA
       simp only [laws_FnExactInodeWords.j2] at H
       replace H := Option.bind_eq_some_iff.mp H
       obtain ⟨⟨t351, t352, t353⟩, A390, H⟩ := H
       replace H : (if t351 < 0 then (laws_FnExactInodeWords.j3 kj31 t322 t336 true a0_0 a0_1 a0_2 a0_3 l0_4 l0_5) else ((laws_eqStringS.f kj31 t336 t322).bind fun t354 => (laws_FnExactInodeWords.j3 kj31 t322 t336 (!t354) a0_0 a0_1 a0_2 a0_3 l0_4 l0_5))) = some r := H
       have A39 := Aside0.mk A390
       clear A390
       have HC40 := Aside0.mk H
       clear H
       have hnb41 := NB335_310.out
       have hnc41 := NB310_335.out
       have hcz42_0 := bc_ BK335.out 0
       have hcz42_1 := bc_ BK335.out 1
       have hcz42_2 := bc_ BK335.out 2
       have hcz42_3 := bc_ BK335.out 3
       have hcz42_4 := bc_ BK335.out 4
       have hcz42_5 := bc_ BK335.out 5
       have hfz42_0 := blk_frozen BK335.out 0
       have hfz42_1 := blk_frozen BK335.out 1
       have hfz42_2 := blk_frozen BK335.out 2
       have hfz42_3 := blk_frozen BK335.out 3
       have hfz42_4 := blk_frozen BK335.out 4
       have hfz42_5 := blk_frozen BK335.out 5
       go_upto_region 14 with (first | ((with_reducible refine gate_callee (f := 31) rfl ?_); refine goesL_ (some 34) rfl rfl Try.func31 (by kernel_rfl) rfl #[.agg #[.int .i64 t325, .int .i64 t326, .int .i64 t327, .string t328, .slice Ao24 t329.length co24, .slice Ao25 t332.length co25], .int .i64 1] rfl tq_1 ?_; (with_reducible refine (laws_markInode.calls kj31 t325 t326 t327 t328 (fun k_ => some k_ = (.slice Ao24 t329.length co24 : Value).ownBlock) (.slice Ao24 t329.length co24) t329 (fun k_ => some k_ = (.slice Ao25 t332.length co25 : Value).ownBlock) (.slice Ao25 t332.length co25) t332 1 t351 t352 t353 w _ ?side1 ?side2 ?side3 A39.out).mono ?_); (case side1 => exact tq_90); (case side2 => exact Kd.R_tight rfl HO_336004.out); (case side3 => exact Kd.R_tight rfl HO_336005.out); rintro e w43 ⟨rfl, hy0, hy1, hb, hkp⟩; refine ⟨_, rfl, ?_⟩; have z_ := p_ (Kd.R_mono (ok' := fun k_ => some k_ ≠ (.slice Ao27 t336.length co27 : Value).ownBlock) (Kd.R_keptB ((Kd.R_apart' (Kd.R_apart' HO_4.out (Kd.R_typed HO_336004.out) (by decide)) (Kd.R_typed HO_336005.out) (by decide))) hkp (fun k_ hk_ hs_ => Or.elim hs_ (fun e_ => (hk_.1.2) e_) (fun e_ => (hk_.2) e_))) (fun k_ hk_ => hk_.1.1.1)) <| p_ (Kd.R_mono (ok' := fun k_ => some k_ ≠ (.slice Ao28 t322.length co28 : Value).ownBlock) (Kd.R_keptB ((Kd.R_apart' (Kd.R_apart' HO_6.out (Kd.R_typed HO_336004.out) (by decide)) (Kd.R_typed HO_336005.out) (by decide))) hkp (fun k_ hk_ hs_ => Or.elim hs_ (fun e_ => (hk_.1.2) e_) (fun e_ => (hk_.2) e_))) (fun k_ hk_ => hk_.1.1.1)) <| p_ (Kd.R_reok rfl hy0 (fun k_ e_ => HO_336004.out.1 k_ e_)) <| p_ (Kd.R_reok rfl hy1 (fun k_ e_ => HO_336005.out.1 k_ e_)) <| p_ (blk_kept tq_19 hkp (fun hs_ => Or.elim hs_ (fun e_ => (fun e_ => (Kd.R_ne HO_336004.out BK310.out (by decide)) e_) e_) (fun e_ => (fun e_ => (Kd.R_ne HO_336005.out BK310.out (by decide)) e_) e_))) <| p_ (blk_kept tq_32 hkp (fun hs_ => Or.elim hs_ (fun e_ => (fun e_ => (Kd.R_ne HO_336004.out BK335.out (by decide)) e_) e_) (fun e_ => (fun e_ => (Kd.R_ne HO_336005.out BK335.out (by decide)) e_) e_))) <| a_ (hb); clear HO_4 HO_6 HO_336004 HO_336005 BK310 BK335 HB; obtain ⟨HO_4, HO_6, HO_336004, HO_336005, BK310, BK335, HB⟩ := z_; (try clear hb); (try clear hkp); (try clear hy0); (try clear hy1)))
       (try simp only [Act.put, List.setIfInBounds_toArray, List.set_cons_zero, List.set_cons_succ])
       go_cut [42] (fun v42 wc => ∃ (kq : Nat) (x42_39 : Bool), v42 = .bool x42_39 ∧ Aside0 (laws_FnExactInodeWords.j3 kq t322 t336 x42_39 a0_0 a0_1 a0_2 a0_3 l0_4 l0_5 = some r) ∧ Aside0 (kq ≤ kj31) ∧ Aside0 (Kd.R Kd.string 9 wc w.heap.size (fun k_ => some k_ ≠ ((.slice Ao27 t336.length co27) : Value).ownBlock) (.slice Ao28 t322.length co28) t322) ∧ Aside0 (Kd.R Kd.string 9 wc w.heap.size (fun k_ => some k_ ≠ ((.slice Ao28 t322.length co28) : Value).ownBlock) (.slice Ao27 t336.length co27) t336) ∧ Aside0 (Kd.R k170 170 wc w.heap.size (fun _ => True) (.slice Ao24 t329.length co24) t352) ∧ Aside0 (Kd.R k59 59 wc w.heap.size (fun _ => True) (.slice Ao25 t332.length co25) t353) ∧ Aside0 (wc.heap[gb310]? = some (.cells #[.int .i64 a0_0, .int .i64 a0_1, .int .i64 a0_2, .string a0_3, (.slice A0_4 l0_4.length c0_4), (.slice A0_5 l0_5.length c0_5)] 44 (0, 0))) ∧ Aside0 (wc.heap[gb335]? = some (.cells #[.int .i64 t325, .int .i64 t326, .int .i64 t327, .string t328, (.slice Ao24 t329.length co24), (.slice Ao25 t332.length co25)] 49 (0, 0))) ∧ Aside0 (Below w.heap.size w wc))
       case first =>
        have H := HC40.out
        clear HC40
        by_cases c44 : t351 < 0
        ·rw [if_pos c44] at H
         have c44b0 : decide (t351 < 0) = true := decide_eq_true c44
         clear c44
         (first | rw [c44b0] | (simp only [i64_w, i32_w]; rw [c44b0]) | skip)
         have H' := Aside0.mk H
         clear H
         go_wp2
         go_meet
         case rel => exact ⟨_, (true), tq_8, H', ⟨(by have := HJ2.out; have := HJ12.out; have := HJ31.out; first | omega | exact Nat.le_refl _)⟩, ⟨tq_50⟩, ⟨tq_42⟩, ⟨tq_41⟩, ⟨tq_40⟩, ⟨tq_19⟩, ⟨tq_32⟩, ⟨tq_5⟩⟩
        ·rw [if_neg c44] at H
         have c44b0 : decide (t351 < 0) = false := decide_eq_false c44
         clear c44
         (first | rw [c44b0] | (simp only [i64_w, i32_w]; rw [c44b0]) | skip)
         replace H := Option.bind_eq_some_iff.mp H
         obtain ⟨t354, A450, H⟩ := H
         replace H : (laws_FnExactInodeWords.j3 kj31 t322 t336 (!t354) a0_0 a0_1 a0_2 a0_3 l0_4 l0_5) = some r := H
         have A45 := Aside0.mk A450
         clear A450
         have H' := Aside0.mk H
         clear H
         go_wp2_with (first | (go_at_call 70; (with_reducible refine (laws_eqStringS.calls kj31 _ _ t336 _ _ t322 t354 _ ?side1 ?side2 ?side3 ?side4 A45.out).mono ?_); (case side1 => exact tq_52); (case side2 => exact (Kd.R_reads' HO_6.out).2.1); (case side3 => exact tq_102); (case side4 => exact (Kd.R_reads' HO_4.out).2.1); rintro e w' ⟨rfl, ⟨nd, rfl⟩⟩))
         go_meet
         case rel => exact ⟨_, (!t354), tq_8, H', ⟨(by have := HJ2.out; have := HJ12.out; have := HJ31.out; first | omega | exact Nat.le_refl _)⟩, ⟨tq_50⟩, ⟨tq_42⟩, ⟨tq_41⟩, ⟨tq_40⟩, ⟨tq_19⟩, ⟨tq_32⟩, ⟨tq_5⟩⟩
       case rest =>
        clear HC40
        try clear c1
        try clear c2
        try clear p2
        try clear c3
        try clear c4
        try clear c6
        try clear c7
        try clear c7b0
        try clear c12
        try clear c22
        try clear c26
        try clear c28
        try clear c29
        try clear c30
        try clear c31
        try clear c38
        try clear c41
        try clear c44
        try clear c44b0
        try clear hcz14_0 hcz14_1 hcz14_2 hcz14_3 hcz14_4 hcz14_5
        try clear hcz19_0 hcz19_1 hcz19_2 hcz19_3 hcz19_4 hcz19_5
        try clear hcz23_0 hcz23_1 hcz23_2 hcz23_3 hcz23_4 hcz23_5
        try clear hcz42_0 hcz42_1 hcz42_2 hcz42_3 hcz42_4 hcz42_5
        try clear hcz5_0 hcz5_1 hcz5_2 hcz5_3 hcz5_4 hcz5_5
        try clear hfz14_0 hfz14_1 hfz14_2 hfz14_3 hfz14_4 hfz14_5
        try clear hfz19_0 hfz19_1 hfz19_2 hfz19_3 hfz19_4 hfz19_5
        try clear hfz23_0 hfz23_1 hfz23_2 hfz23_3 hfz23_4 hfz23_5
        try clear hfz42_0 hfz42_1 hfz42_2 hfz42_3 hfz42_4 hfz42_5
        try clear hfz5_0 hfz5_1 hfz5_2 hfz5_3 hfz5_4 hfz5_5
        try clear p2
        obtain ⟨kq, x42_39, rfl, HA, HJ39, HO_4, HO_6, HO_336004, HO_336005, BK310, BK335, HB⟩ := hcut
        have hl336004_39 := (Kd.R_reads' HO_336004.out).1
        rw [hl336004_39] at HO_336004
        (try simp only [hl336004_39])
        (try simp only [hl336004_39] at BK310)
        (try simp only [hl336004_39] at BK335)
        (try simp only [hl336004_39] at HO_4)
        (try simp only [hl336004_39] at HO_6)
        (try simp only [hl336004_39] at HO_336005)
        have hl336005_39 := (Kd.R_reads' HO_336005.out).1
        rw [hl336005_39] at HO_336005
        (try simp only [hl336005_39])
        (try simp only [hl336005_39] at BK310)
        (try simp only [hl336005_39] at BK335)
        (try simp only [hl336005_39] at HO_4)
        (try simp only [hl336005_39] at HO_6)
        (try simp only [hl336005_39] at HO_336004)
        cases kq with
        | zero => exact absurd HA.out (by simp [laws_FnExactInodeWords.j3])
        | succ kj39 =>
         have H := HA.out
         clear HA
         simp only [laws_FnExactInodeWords.j3] at H
         have HC46 := Aside0.mk H
         clear H
         go_upto_if 42 with (fail)
         go_cut [] (fun wc => ∃ (kq : Nat), Aside0 (laws_FnExactInodeWords.j4 kq t322 t336 a0_0 a0_1 a0_2 a0_3 l0_4 l0_5 = some r) ∧ Aside0 (kq ≤ kj39) ∧ Aside0 (Kd.R Kd.string 9 wc w.heap.size (fun k_ => some k_ ≠ ((.slice Ao27 t336.length co27) : Value).ownBlock) (.slice Ao28 t322.length co28) t322) ∧ Aside0 (Kd.R Kd.string 9 wc w.heap.size (fun k_ => some k_ ≠ ((.slice Ao28 t322.length co28) : Value).ownBlock) (.slice Ao27 t336.length co27) t336) ∧ Aside0 (Kd.R k170 170 wc w.heap.size (fun _ => True) (.slice Ao24 t352.length co24) t352) ∧ Aside0 (Kd.R k59 59 wc w.heap.size (fun _ => True) (.slice Ao25 t353.length co25) t353) ∧ Aside0 (wc.heap[gb310]? = some (.cells #[.int .i64 a0_0, .int .i64 a0_1, .int .i64 a0_2, .string a0_3, (.slice A0_4 l0_4.length c0_4), (.slice A0_5 l0_5.length c0_5)] 44 (0, 0))) ∧ Aside0 (wc.heap[gb335]? = some (.cells #[.int .i64 t325, .int .i64 t326, .int .i64 t327, .string t328, (.slice Ao24 t352.length co24), (.slice Ao25 t353.length co25)] 49 (0, 0))) ∧ Aside0 (Below w.heap.size w wc))
         case first =>
          have H := HC46.out
          clear HC46
          by_cases c47 : x42_39 = true
          ·subst c47
           have H1 : (some false) = some r := by rw [if_pos rfl] at H; exact H
           clear H
           have H := H1
           clear H1
           obtain rfl := Option.some.inj H
           go_wp2
           go_ret
           exact ⟨tq_2, tq_5⟩
          ·replace c47 := Bool.eq_false_iff.mpr c47
           subst c47
           have H1 : (laws_FnExactInodeWords.j4 kj39 t322 t336 a0_0 a0_1 a0_2 a0_3 l0_4 l0_5) = some r := by rw [if_neg (show ¬ (false = true) by decide)] at H; exact H
           clear H
           have H := H1
           clear H1
           have H' := Aside0.mk H
           clear H
           go_wp2
           go_meet
           case rel => exact ⟨_, H', ⟨(by have := HJ2.out; have := HJ12.out; have := HJ31.out; have := HJ39.out; first | omega | exact Nat.le_refl _)⟩, ⟨tq_96⟩, ⟨tq_95⟩, ⟨tq_94⟩, ⟨tq_93⟩, ⟨tq_92⟩, ⟨tq_91⟩, ⟨tq_5⟩⟩
         case rest =>
          clear HC46
          try clear c1
          try clear c2
          try clear p2
          try clear c3
          try clear c4
          try clear c6
          try clear c7
          try clear c7b0
          try clear c12
          try clear c22
          try clear c26
          try clear c28
          try clear c29
          try clear c30
          try clear c31
          try clear c38
          try clear c41
          try clear c44
          try clear c44b0
          try clear c47
          try clear hcz14_0 hcz14_1 hcz14_2 hcz14_3 hcz14_4 hcz14_5
          try clear hcz19_0 hcz19_1 hcz19_2 hcz19_3 hcz19_4 hcz19_5
          try clear hcz23_0 hcz23_1 hcz23_2 hcz23_3 hcz23_4 hcz23_5
          try clear hcz42_0 hcz42_1 hcz42_2 hcz42_3 hcz42_4 hcz42_5
          try clear hcz5_0 hcz5_1 hcz5_2 hcz5_3 hcz5_4 hcz5_5
          try clear hfz14_0 hfz14_1 hfz14_2 hfz14_3 hfz14_4 hfz14_5
          try clear hfz19_0 hfz19_1 hfz19_2 hfz19_3 hfz19_4 hfz19_5
          try clear hfz23_0 hfz23_1 hfz23_2 hfz23_3 hfz23_4 hfz23_5
          try clear hfz42_0 hfz42_1 hfz42_2 hfz42_3 hfz42_4 hfz42_5
          try clear hfz5_0 hfz5_1 hfz5_2 hfz5_3 hfz5_4 hfz5_5
          try clear p2
          obtain ⟨kq, HA, HJ45, HO_4, HO_6, HO_336004, HO_336005, BK310, BK335, HB⟩ := hcut
          cases kq with
          | zero => exact absurd HA.out (by simp [laws_FnExactInodeWords.j4])
          | succ kj45 =>
           have H := HA.out
           clear HA
           simp only [laws_FnExactInodeWords.j4] at H
           replace H := Option.bind_eq_some_iff.mp H
           obtain ⟨⟨t355, t356⟩, A480, H⟩ := H
           replace H : ((laws_heldStringS.f kj45 t356 1).bind fun t357 => (if t357 < 0 then (some false) else (laws_FnExactInodeWords.j5 kj45 t322 t356 t355 t357 a0_0 a0_1 a0_2 a0_3 l0_4 l0_5))) = some r := H
           have A48 := Aside0.mk A480
           clear A480
           replace H := Option.bind_eq_some_iff.mp H
           obtain ⟨t357, A490, H⟩ := H
           replace H : (if t357 < 0 then (some false) else (laws_FnExactInodeWords.j5 kj45 t322 t356 t355 t357 a0_0 a0_1 a0_2 a0_3 l0_4 l0_5)) = some r := H
           have A49 := Aside0.mk A490
           clear A490
           have HC50 := Aside0.mk H
           clear H
           go_upto_if 50 with (first | ((with_reducible refine gate_callee (f := 71) rfl ?_); refine goesL_ (some 45) rfl rfl Try.func71 (by kernel_rfl) rfl #[.slice Ao27 t336.length co27, .int .i64 1] rfl tq_1 ?_; (with_reducible refine (laws_markStringS.calls kj45 (fun k_ => some k_ = (.slice Ao27 t336.length co27 : Value).ownBlock) (.slice Ao27 t336.length co27) t336 1 t355 t356 w _ ?side1 ?side2 A48.out).mono ?_); (case side1 => exact tq_90); (case side2 => exact Kd.R_tight rfl HO_6.out); rintro e w51 ⟨rfl, hy0, hb, hkp⟩; refine ⟨_, rfl, ?_⟩; have z_ := p_ (Kd.R_mono (ok' := fun k_ => some k_ ≠ (.slice Ao27 t336.length co27 : Value).ownBlock) (Kd.R_keptB (HO_4.out) hkp (fun k_ hk_ hs_ => (hk_) hs_)) (fun k_ hk_ => hk_.1)) <| p_ (Kd.R_reok rfl hy0 (fun k_ e_ => HO_6.out.1 k_ e_)) <| p_ (Kd.R_mono (ok' := fun k_ => True) (Kd.R_keptB ((Kd.R_apart' HO_336004.out (Kd.R_typed HO_6.out) (by decide))) hkp (fun k_ hk_ hs_ => (hk_.2) hs_)) (fun k_ hk_ => trivial)) <| p_ (Kd.R_mono (ok' := fun k_ => True) (Kd.R_keptB ((Kd.R_apart' HO_336005.out (Kd.R_typed HO_6.out) (by decide))) hkp (fun k_ hk_ hs_ => (hk_.2) hs_)) (fun k_ hk_ => trivial)) <| p_ (blk_kept tq_19 hkp (fun hs_ => (fun e_ => (Kd.R_ne HO_6.out BK310.out (by decide)) e_) hs_)) <| p_ (blk_kept tq_32 hkp (fun hs_ => (fun e_ => (Kd.R_ne HO_6.out BK335.out (by decide)) e_) hs_)) <| a_ (hb); clear HO_4 HO_6 HO_336004 HO_336005 BK310 BK335 HB; obtain ⟨HO_4, HO_6, HO_336004, HO_336005, BK310, BK335, HB⟩ := z_; (try clear hb); (try clear hkp); (try clear hy0)) | ((with_reducible refine gate_callee (f := 72) rfl ?_); refine goesL_ (some 48) rfl rfl Try.func72 (by kernel_rfl) rfl #[.slice Ao27 t356.length co27, .int .i64 1] rfl (by (try simp only [List.map_toArray, List.map_cons, List.map_nil]); first | done | (rw [show t356.length = t336.length from (Kd.R_reads' HO_6.out).1.symm] <;> rfl) | rfl | (simp only [List.length_drop, List.length_take]; rfl)) ?_; (with_reducible refine (laws_heldStringS.calls kj45 _ _ t356 1 t357 _ ?side1 ?side2 A49.out).mono ?_); (case side1 => exact tq_52); (case side2 => rw [show t356.length = t336.length from (Kd.R_reads' HO_6.out).1.symm]; exact (Kd.R_reads' HO_6.out).2.1); rintro e w52 ⟨rfl, hb⟩; refine ⟨_, rfl, ?_⟩; have z_ := p_ (Kd.R_below tq_50 hb) <| p_ (Kd.R_below tq_42 hb) <| p_ (Kd.R_below tq_41 hb) <| p_ (Kd.R_below tq_40 hb) <| p_ (blk_below tq_19 hb) <| p_ (blk_below tq_32 hb) <| a_ (below_step tq_5 hb); clear HO_4 HO_6 HO_336004 HO_336005 BK310 BK335 HB; obtain ⟨HO_4, HO_6, HO_336004, HO_336005, BK310, BK335, HB⟩ := z_; (try clear hb); (try clear hb2); (try clear hk); (try clear hi)))
           (try simp only [Act.put, List.setIfInBounds_toArray, List.set_cons_zero, List.set_cons_succ])
           go_cut [] (fun wc => ∃ (kq : Nat), Aside0 (laws_FnExactInodeWords.j5 kq t322 t356 t355 t357 a0_0 a0_1 a0_2 a0_3 l0_4 l0_5 = some r) ∧ Aside0 (kq ≤ kj45) ∧ Aside0 (Kd.R Kd.string 9 wc w.heap.size (fun k_ => some k_ ≠ ((.slice Ao27 t336.length co27) : Value).ownBlock) (.slice Ao28 t322.length co28) t322) ∧ Aside0 (Kd.R Kd.string 9 wc w.heap.size (fun k_ => some k_ ≠ ((.slice Ao28 t322.length co28) : Value).ownBlock) (.slice Ao27 t336.length co27) t356) ∧ Aside0 (Kd.R k170 170 wc w.heap.size (fun _ => True) (.slice Ao24 t352.length co24) t352) ∧ Aside0 (Kd.R k59 59 wc w.heap.size (fun _ => True) (.slice Ao25 t353.length co25) t353) ∧ Aside0 (wc.heap[gb310]? = some (.cells #[.int .i64 a0_0, .int .i64 a0_1, .int .i64 a0_2, .string a0_3, (.slice A0_4 l0_4.length c0_4), (.slice A0_5 l0_5.length c0_5)] 44 (0, 0))) ∧ Aside0 (wc.heap[gb335]? = some (.cells #[.int .i64 t325, .int .i64 t326, .int .i64 t327, .string t328, (.slice Ao24 t352.length co24), (.slice Ao25 t353.length co25)] 49 (0, 0))) ∧ Aside0 (Below w.heap.size w wc))
           case first =>
            have H := HC50.out
            clear HC50
            by_cases c53 : t357 < 0
            ·rw [if_pos c53] at H
             have c53b0 : decide (t357 < 0) = true := decide_eq_true c53
             clear c53
             (first | rw [c53b0] | (simp only [i64_w, i32_w]; rw [c53b0]) | skip)
             obtain rfl := Option.some.inj H
             go_wp2
             go_ret
             exact ⟨tq_2, tq_5⟩
            ·rw [if_neg c53] at H
             have c53b0 : decide (t357 < 0) = false := decide_eq_false c53
             clear c53
             (first | rw [c53b0] | (simp only [i64_w, i32_w]; rw [c53b0]) | skip)
             have H' := Aside0.mk H
             clear H
             go_wp2
             go_meet
             case rel => exact ⟨_, H', ⟨(by have := HJ2.out; have := HJ12.out; have := HJ31.out; have := HJ39.out; have := HJ45.out; first | omega | exact Nat.le_refl _)⟩, ⟨tq_96⟩, ⟨tq_95⟩, ⟨tq_94⟩, ⟨tq_93⟩, ⟨tq_92⟩, ⟨tq_91⟩, ⟨tq_5⟩⟩
           case rest =>
            clear HC50
            try clear c1
            try clear c2
            try clear p2
            try clear c3
            try clear c4
            try clear c5
            try clear c6
            try clear c7
            try clear c7b0
            try clear c12
            try clear c22
            try clear c26
            try clear c28
            try clear c29
            try clear c30
            try clear c31
            try clear c38
            try clear c41
            try clear c44
            try clear c44b0
            try clear c47
            try clear c53
            try clear c53b0
            try clear hcz14_0 hcz14_1 hcz14_2 hcz14_3 hcz14_4 hcz14_5
            try clear hcz19_0 hcz19_1 hcz19_2 hcz19_3 hcz19_4 hcz19_5
            try clear hcz23_0 hcz23_1 hcz23_2 hcz23_3 hcz23_4 hcz23_5
            try clear hcz42_0 hcz42_1 hcz42_2 hcz42_3 hcz42_4 hcz42_5
            try clear hcz5_0 hcz5_1 hcz5_2 hcz5_3 hcz5_4 hcz5_5
            try clear hfz14_0 hfz14_1 hfz14_2 hfz14_3 hfz14_4 hfz14_5
            try clear hfz19_0 hfz19_1 hfz19_2 hfz19_3 hfz19_4 hfz19_5
            try clear hfz23_0 hfz23_1 hfz23_2 hfz23_3 hfz23_4 hfz23_5
            try clear hfz42_0 hfz42_1 hfz42_2 hfz42_3 hfz42_4 hfz42_5
            try clear hfz5_0 hfz5_1 hfz5_2 hfz5_3 hfz5_4 hfz5_5
            try clear p2
            obtain ⟨kq, HA, HJ49, HO_4, HO_6, HO_336004, HO_336005, BK310, BK335, HB⟩ := hcut
            have hl6_49 := (Kd.R_reads' HO_6.out).1
            rw [hl6_49] at HO_6
            (try simp only [hl6_49])
            (try simp only [hl6_49] at BK310)
            (try simp only [hl6_49] at BK335)
            (try simp only [hl6_49] at HO_4)
            (try simp only [hl6_49] at HO_336004)
            (try simp only [hl6_49] at HO_336005)
            cases kq with
            | zero => exact absurd HA.out (by simp [laws_FnExactInodeWords.j5])
            | succ kj49 =>
             have H := HA.out
             clear HA
             simp only [laws_FnExactInodeWords.j5] at H
             have HC54 := Aside0.mk H
             clear H
             go_upto_if 53 with (fail)
             go_cut [] (fun wc => ∃ (kq : Nat), Aside0 (laws_FnExactInodeWords.j6 kq t322 t356 t355 a0_0 a0_1 a0_2 a0_3 l0_4 l0_5 = some r) ∧ Aside0 (kq ≤ kj49) ∧ Aside0 (Kd.R Kd.string 9 wc w.heap.size (fun k_ => some k_ ≠ ((.slice Ao27 t356.length co27) : Value).ownBlock) (.slice Ao28 t322.length co28) t322) ∧ Aside0 (Kd.R Kd.string 9 wc w.heap.size (fun k_ => some k_ ≠ ((.slice Ao28 t322.length co28) : Value).ownBlock) (.slice Ao27 t356.length co27) t356) ∧ Aside0 (Kd.R k170 170 wc w.heap.size (fun _ => True) (.slice Ao24 t352.length co24) t352) ∧ Aside0 (Kd.R k59 59 wc w.heap.size (fun _ => True) (.slice Ao25 t353.length co25) t353) ∧ Aside0 (wc.heap[gb310]? = some (.cells #[.int .i64 a0_0, .int .i64 a0_1, .int .i64 a0_2, .string a0_3, (.slice A0_4 l0_4.length c0_4), (.slice A0_5 l0_5.length c0_5)] 44 (0, 0))) ∧ Aside0 (wc.heap[gb335]? = some (.cells #[.int .i64 t325, .int .i64 t326, .int .i64 t327, .string t328, (.slice Ao24 t352.length co24), (.slice Ao25 t353.length co25)] 49 (0, 0))) ∧ Aside0 (Below w.heap.size w wc))
             case first =>
              have H := HC54.out
              clear HC54
              by_cases c55 : t357 = t355
              ·rw [if_pos c55] at H
               have c55b0 : (t357 == t355) = true := beq_iff_eq.mpr c55
               have c55b1 : (t357 != t355) = false := bne_eq_false_iff_eq.mpr c55
               clear c55
               (first | rw [c55b0] | (simp only [i64_w, i32_w]; rw [c55b0]) | skip)
               have H' := Aside0.mk H
               clear H
               go_wp2
               go_meet
               case rel => exact ⟨_, H', ⟨(by have := HJ2.out; have := HJ12.out; have := HJ31.out; have := HJ39.out; have := HJ45.out; have := HJ49.out; first | omega | exact Nat.le_refl _)⟩, ⟨(by (try simp only [hl336004_39]); (try simp only [hl336005_39]); (try simp only [hl6_49]); (with_reducible repeat (first | apply Kd.R_alloc | apply Kd.R_drewN | apply Kd.R_drew)); exact HO_4.out)⟩, ⟨(by (try simp only [hl336004_39]); (try simp only [hl336005_39]); (try simp only [hl6_49]); (with_reducible repeat (first | apply Kd.R_alloc | apply Kd.R_drewN | apply Kd.R_drew)); exact HO_6.out)⟩, ⟨(by (try simp only [hl336004_39]); (try simp only [hl336005_39]); (try simp only [hl6_49]); (with_reducible repeat (first | apply Kd.R_alloc | apply Kd.R_drewN | apply Kd.R_drew)); exact HO_336004.out)⟩, ⟨(by (try simp only [hl336004_39]); (try simp only [hl336005_39]); (try simp only [hl6_49]); (with_reducible repeat (first | apply Kd.R_alloc | apply Kd.R_drewN | apply Kd.R_drew)); exact HO_336005.out)⟩, ⟨tq_87⟩, ⟨tq_86⟩, ⟨tq_5⟩⟩
              ·rw [if_neg c55] at H
               have c55b0 : (t357 == t355) = false := beq_eq_false_iff_ne.mpr c55
               have c55b1 : (t357 != t355) = true := bne_iff_ne.mpr c55
               (first | rw [c55b0] | (simp only [i64_w, i32_w]; rw [c55b0]) | skip)
               obtain rfl := Option.some.inj H
               go_wp2
               go_ret
               exact ⟨tq_2, tq_5⟩
             case rest =>
              clear HC54
              try clear c1
              try clear c2
              try clear p2
              try clear c3
              try clear c4
              try clear c5
              try clear c6
              try clear c7
              try clear c7b0
              try clear c12
              try clear c22
              try clear c26
              try clear c28
              try clear c29
              try clear c30
              try clear c31
              try clear c38
              try clear c41
              try clear c44
              try clear c44b0
              try clear c47
              try clear c53
              try clear c53b0
              try clear c55
              try clear c55b0
              try clear c55b1
              try clear hcz14_0 hcz14_1 hcz14_2 hcz14_3 hcz14_4 hcz14_5
              try clear hcz19_0 hcz19_1 hcz19_2 hcz19_3 hcz19_4 hcz19_5
              try clear hcz23_0 hcz23_1 hcz23_2 hcz23_3 hcz23_4 hcz23_5
              try clear hcz42_0 hcz42_1 hcz42_2 hcz42_3 hcz42_4 hcz42_5
              try clear hcz5_0 hcz5_1 hcz5_2 hcz5_3 hcz5_4 hcz5_5
              try clear hfz14_0 hfz14_1 hfz14_2 hfz14_3 hfz14_4 hfz14_5
              try clear hfz19_0 hfz19_1 hfz19_2 hfz19_3 hfz19_4 hfz19_5
              try clear hfz23_0 hfz23_1 hfz23_2 hfz23_3 hfz23_4 hfz23_5
              try clear hfz42_0 hfz42_1 hfz42_2 hfz42_3 hfz42_4 hfz42_5
              try clear hfz5_0 hfz5_1 hfz5_2 hfz5_3 hfz5_4 hfz5_5
              try clear p2
              obtain ⟨kq, HA, HJ53, HO_4, HO_6, HO_336004, HO_336005, BK310, BK335, HB⟩ := hcut
              cases kq with
              | zero => exact absurd HA.out (by simp [laws_FnExactInodeWords.j6])
              | succ kj53 =>
               have H := HA.out
               clear HA
               simp only [laws_FnExactInodeWords.j6] at H
               replace H := Option.bind_eq_some_iff.mp H
               obtain ⟨⟨t358, t359, t360, t361, t362, t365⟩, A560, H⟩ := H
               replace H : ((impl_InodeWords.f kj53 t358 t359 t360 t361 t362 t365).bind fun t368 => ((laws_eqStringS.f kj53 t368 t322).bind fun t371 => (if t371 = true then (laws_FnExactInodeWords.j7 kj53 t356 t355) else (some false)))) = some r := H
               have A56 := Aside0.mk A560
               clear A560
               replace H := Option.bind_eq_some_iff.mp H
               obtain ⟨t368, A570, H⟩ := H
               replace H : ((laws_eqStringS.f kj53 t368 t322).bind fun t371 => (if t371 = true then (laws_FnExactInodeWords.j7 kj53 t356 t355) else (some false))) = some r := H
               have A57 := Aside0.mk A570
               clear A570
               replace H := Option.bind_eq_some_iff.mp H
               obtain ⟨t371, A580, H⟩ := H
               replace H : (if t371 = true then (laws_FnExactInodeWords.j7 kj53 t356 t355) else (some false)) = some r := H
               have A58 := Aside0.mk A580
               clear A580
               have HC59 := Aside0.mk H
               clear H
               have hnb60 := NB310_335.out
               have hnc60 := NB335_310.out
               have hcz61_0 := bc_ BK310.out 0
               have hcz61_1 := bc_ BK310.out 1
               have hcz61_2 := bc_ BK310.out 2
               have hcz61_3 := bc_ BK310.out 3
               have hcz61_4 := bc_ BK310.out 4
               have hcz61_5 := bc_ BK310.out 5
               have hfz61_0 := blk_frozen BK310.out 0
               have hfz61_1 := blk_frozen BK310.out 1
               have hfz61_2 := blk_frozen BK310.out 2
               have hfz61_3 := blk_frozen BK310.out 3
               have hfz61_4 := blk_frozen BK310.out 4
               have hfz61_5 := blk_frozen BK310.out 5
               go_upto_if 60 with (first | ((with_reducible refine gate_callee (f := 28) rfl ?_); refine goesL_ (some 55) rfl rfl Try.func28 (by kernel_rfl) rfl #[.agg #[.int .i64 a0_0, .int .i64 a0_1, .int .i64 a0_2, .string a0_3, .slice A0_4 l0_4.length c0_4, .slice A0_5 l0_5.length c0_5]] rfl tq_1 ?_; (with_reducible refine (laws_toInode.calls kj53 a0_0 a0_1 a0_2 a0_3 _ _ l0_4 _ _ l0_5 t358 t359 t360 t361 t362 t365 _ ?side1 ?side2 ?side3 ?side4 A56.out).mono ?_); (case side1 => exact tq_18); (case side2 => exact HC0_4.out); (case side3 => exact tq_26); (case side4 => exact HC0_5.out); rintro e w62 ⟨v363, v366, rfl, ho0, ho1, hb⟩; refine ⟨_, rfl, ?_⟩; have z_ := p_ (Kd.R_below tq_50 hb) <| p_ (Kd.R_below tq_42 hb) <| p_ (Kd.R_elder' tq_41 (Kd.R_base ho0) hb) <| p_ (Kd.R_elder' tq_40 (Kd.R_base ho1) hb) <| p_ (Kd.R_lower (Kd.R_new' ho0 (Kd.R_lt tq_41)) (below_size tq_5)) <| p_ (Kd.R_lower (Kd.R_new' ho1 (Kd.R_lt tq_40)) (below_size tq_5)) <| p_ (blk_below tq_19 hb) <| p_ (blk_below tq_32 hb) <| a_ (below_step tq_5 hb); clear HO_4 HO_6 HO_336004 HO_336005 BK310 BK335 HB; obtain ⟨HO_4, HO_6, HO_336004, HO_336005, HO364, HO367, BK310, BK335, HB⟩ := z_; (try clear hb); (try clear hb2); (try clear hk); (try clear hi); (try clear ho0); (try clear ho1); obtain ⟨Ao63, co63, eo63⟩ := Kd.R_slice HO364.out; subst eo63; obtain ⟨Ao64, co64, eo64⟩ := Kd.R_slice HO367.out; subst eo64) | ((with_reducible refine gate_callee (f := 69) rfl ?_); refine goesL_ (some 56) rfl rfl Try.func69 (by kernel_rfl) rfl #[.agg #[.int .i64 t358, .int .i64 t359, .int .i64 t360, .string t361, .slice Ao63 t362.length co63, .slice Ao64 t365.length co64]] rfl tq_1 ?_; (with_reducible refine (impl_InodeWords.calls kj53 t358 t359 t360 t361 _ _ t362 _ _ t365 t368 _ ?side1 ?side2 ?side3 ?side4 A57.out).mono ?_); (case side1 => repeat (first | exact (Kd.R_reads' HO364.out).2.2 | (with_reducible refine Kd.C_alloc ?_ _) | (with_reducible refine Kd.C_drewN ?_ _) | (with_reducible refine Kd.C_drew ?_))); (case side2 => exact (Kd.R_reads' HO364.out).2.1); (case side3 => repeat (first | exact (Kd.R_reads' HO367.out).2.2 | (with_reducible refine Kd.C_alloc ?_ _) | (with_reducible refine Kd.C_drewN ?_ _) | (with_reducible refine Kd.C_drew ?_))); (case side4 => exact (Kd.R_reads' HO367.out).2.1); rintro e w65 ⟨v369, rfl, ho0, hb⟩; refine ⟨_, rfl, ?_⟩; have z_ := p_ (Kd.R_elder' tq_50 (Kd.R_base ho0) hb) <| p_ (Kd.R_elder' tq_42 (Kd.R_base ho0) hb) <| p_ (Kd.R_below tq_41 hb) <| p_ (Kd.R_below tq_40 hb) <| p_ (Kd.R_below (by (with_reducible repeat (first | apply Kd.R_alloc | apply Kd.R_drewN | apply Kd.R_drew)); exact HO364.out) hb) <| p_ (Kd.R_below (by (with_reducible repeat (first | apply Kd.R_alloc | apply Kd.R_drewN | apply Kd.R_drew)); exact HO367.out) hb) <| p_ (Kd.R_lower (Kd.R_new' (Kd.R_new' ho0 (Kd.R_lt tq_50)) (Kd.R_lt tq_42)) (below_size tq_5)) <| p_ (blk_below tq_19 hb) <| p_ (blk_below tq_32 hb) <| a_ (below_step tq_5 hb); clear HO_4 HO_6 HO_336004 HO_336005 HO364 HO367 BK310 BK335 HB; obtain ⟨HO_4, HO_6, HO_336004, HO_336005, HO364, HO367, HO370, BK310, BK335, HB⟩ := z_; (try clear hb); (try clear hb2); (try clear hk); (try clear hi); (try clear ho0); obtain ⟨Ao66, co66, eo66⟩ := Kd.R_slice HO370.out; subst eo66) | ((with_reducible refine gate_callee (f := 70) rfl ?_); refine goesL_ (some 59) rfl rfl Try.func70 (by kernel_rfl) rfl #[.slice Ao66 t368.length co66, .slice Ao28 t322.length co28] rfl tq_1 ?_; (with_reducible refine (laws_eqStringS.calls kj53 _ _ t368 _ _ t322 t371 _ ?side1 ?side2 ?side3 ?side4 A58.out).mono ?_); (case side1 => repeat (first | exact (Kd.R_reads' HO370.out).2.2 | (with_reducible refine Kd.C_alloc ?_ _) | (with_reducible refine Kd.C_drewN ?_ _) | (with_reducible refine Kd.C_drew ?_))); (case side2 => exact (Kd.R_reads' HO370.out).2.1); (case side3 => exact tq_102); (case side4 => exact (Kd.R_reads' HO_4.out).2.1); rintro e w' ⟨rfl, ⟨nd, rfl⟩⟩; refine ⟨_, rfl, ?_⟩))
               (try simp only [Act.put, List.setIfInBounds_toArray, List.set_cons_zero, List.set_cons_succ])
               go_cut [] (fun wc => ∃ (kq : Nat), Aside0 (laws_FnExactInodeWords.j7 kq t356 t355 = some r) ∧ Aside0 (kq ≤ kj53) ∧ Aside0 (Kd.R Kd.string 9 wc w.heap.size (fun _ => True) (.slice Ao27 t356.length co27) t356) ∧ Aside0 (Kd.R k170 170 wc w.heap.size (fun _ => True) (.slice Ao24 t352.length co24) t352) ∧ Aside0 (Kd.R k59 59 wc w.heap.size (fun _ => True) (.slice Ao25 t353.length co25) t353) ∧ Aside0 (wc.heap[gb310]? = some (.cells #[.int .i64 a0_0, .int .i64 a0_1, .int .i64 a0_2, .string a0_3, (.slice A0_4 l0_4.length c0_4), (.slice A0_5 l0_5.length c0_5)] 44 (0, 0))) ∧ Aside0 (wc.heap[gb335]? = some (.cells #[.int .i64 t325, .int .i64 t326, .int .i64 t327, .string t328, (.slice Ao24 t352.length co24), (.slice Ao25 t353.length co25)] 49 (0, 0))) ∧ Aside0 (Below w.heap.size w wc))
               case first =>
                have H := HC59.out
                clear HC59
                by_cases c67 : t371 = true
                ·subst c67
                 have H1 : (laws_FnExactInodeWords.j7 kj53 t356 t355) = some r := by rw [if_pos rfl] at H; exact H
                 clear H
                 have H := H1
                 clear H1
                 have H' := Aside0.mk H
                 clear H
                 go_wp2
                 go_meet
                 case rel => exact ⟨_, H', ⟨(by have := HJ2.out; have := HJ12.out; have := HJ31.out; have := HJ39.out; have := HJ45.out; have := HJ49.out; have := HJ53.out; first | omega | exact Nat.le_refl _)⟩, ⟨(by (try simp only [hl336004_39]); (try simp only [hl336005_39]); (try simp only [hl6_49]); (with_reducible repeat (first | apply Kd.R_alloc | apply Kd.R_drewN | apply Kd.R_drew)); exact Kd.R_mono HO_6.out (fun _ hk => trivial))⟩, ⟨(by (try simp only [hl336004_39]); (try simp only [hl336005_39]); (try simp only [hl6_49]); (with_reducible repeat (first | apply Kd.R_alloc | apply Kd.R_drewN | apply Kd.R_drew)); exact Kd.R_mono HO_336004.out (fun _ hk => trivial))⟩, ⟨(by (try simp only [hl336004_39]); (try simp only [hl336005_39]); (try simp only [hl6_49]); (with_reducible repeat (first | apply Kd.R_alloc | apply Kd.R_drewN | apply Kd.R_drew)); exact Kd.R_mono HO_336005.out (fun _ hk => trivial))⟩, ⟨tq_87⟩, ⟨tq_86⟩, ⟨tq_5⟩⟩
                ·replace c67 := Bool.eq_false_iff.mpr c67
                 subst c67
                 have H1 : (some false) = some r := by rw [if_neg (show ¬ (false = true) by decide)] at H; exact H
                 clear H
                 have H := H1
                 clear H1
                 obtain rfl := Option.some.inj H
                 go_wp2
                 go_ret
                 exact ⟨tq_2, tq_5⟩
               case rest =>
                clear HC59
                try clear c1
                try clear c2
                try clear p2
                try clear c3
                try clear c4
                try clear c5
                try clear c6
                try clear c7
                try clear c7b0
                try clear c12
                try clear c22
                try clear c26
                try clear c28
                try clear c29
                try clear c30
                try clear c31
                try clear c38
                try clear c41
                try clear c44
                try clear c44b0
                try clear c47
                try clear c53
                try clear c53b0
                try clear c55
                try clear c55b0
                try clear c55b1
                try clear c60
                try clear c67
                try clear hcz14_0 hcz14_1 hcz14_2 hcz14_3 hcz14_4 hcz14_5
                try clear hcz19_0 hcz19_1 hcz19_2 hcz19_3 hcz19_4 hcz19_5
                try clear hcz23_0 hcz23_1 hcz23_2 hcz23_3 hcz23_4 hcz23_5
                try clear hcz42_0 hcz42_1 hcz42_2 hcz42_3 hcz42_4 hcz42_5
                try clear hcz5_0 hcz5_1 hcz5_2 hcz5_3 hcz5_4 hcz5_5
                try clear hcz61_0 hcz61_1 hcz61_2 hcz61_3 hcz61_4 hcz61_5
                try clear hfz14_0 hfz14_1 hfz14_2 hfz14_3 hfz14_4 hfz14_5
                try clear hfz19_0 hfz19_1 hfz19_2 hfz19_3 hfz19_4 hfz19_5
                try clear hfz23_0 hfz23_1 hfz23_2 hfz23_3 hfz23_4 hfz23_5
                try clear hfz42_0 hfz42_1 hfz42_2 hfz42_3 hfz42_4 hfz42_5
                try clear hfz5_0 hfz5_1 hfz5_2 hfz5_3 hfz5_4 hfz5_5
                try clear hfz61_0 hfz61_1 hfz61_2 hfz61_3 hfz61_4 hfz61_5
                try clear p2
                obtain ⟨kq, HA, HJ58, HO_6, HO_336004, HO_336005, BK310, BK335, HB⟩ := hcut
                cases kq with
                | zero => exact absurd HA.out (by simp [laws_FnExactInodeWords.j7])
                | succ kj58 =>
                 have H := HA.out
                 clear HA
                 simp only [laws_FnExactInodeWords.j7] at H
                 replace H := Option.bind_eq_some_iff.mp H
                 obtain ⟨t372, A680, H⟩ := H
                 replace H : (if t372 < 0 then (some false) else (if t372 = t355 then (some true) else (some false))) = some r := H
                 have A68 := Aside0.mk A680
                 clear A680
                 by_cases c69 : t372 < 0
                 ·rw [if_pos c69] at H
                  have c69b0 : decide (t372 < 0) = true := decide_eq_true c69
                  clear c69
                  obtain rfl := Option.some.inj H
                  go_wp2_with (first | ((with_reducible refine gate_callee (f := 72) rfl ?_); refine goesL_ (some 63) rfl rfl Try.func72 (by kernel_rfl) rfl #[.slice Ao27 t356.length co27, .int .i64 1] rfl tq_1 ?_; (with_reducible refine (laws_heldStringS.calls kj58 _ _ t356 1 t372 _ ?side1 ?side2 A68.out).mono ?_); (case side1 => exact tq_52); (case side2 => exact (Kd.R_reads' HO_6.out).2.1); rintro e w70 ⟨rfl, hb⟩; refine ⟨_, rfl, ?_⟩; have z_ := p_ (Kd.R_below tq_42 hb) <| p_ (Kd.R_below tq_41 hb) <| p_ (Kd.R_below tq_40 hb) <| p_ (blk_below tq_19 hb) <| p_ (blk_below tq_32 hb) <| a_ (below_step tq_5 hb); clear HO_6 HO_336004 HO_336005 BK310 BK335 HB; obtain ⟨HO_6, HO_336004, HO_336005, BK310, BK335, HB⟩ := z_; (try clear hb); (try clear hb2); (try clear hk); (try clear hi)))
                  go_ret
                  exact ⟨tq_2, tq_5⟩
                 ·rw [if_neg c69] at H
                  have c69b0 : decide (t372 < 0) = false := decide_eq_false c69
                  clear c69
                  by_cases c71 : t372 = t355
                  ·rw [if_pos c71] at H
                   have c71b0 : (t372 == t355) = true := beq_iff_eq.mpr c71
                   have c71b1 : (t372 != t355) = false := bne_eq_false_iff_eq.mpr c71
                   clear c71
                   obtain rfl := Option.some.inj H
                   go_wp2_with (first | ((with_reducible refine gate_callee (f := 72) rfl ?_); refine goesL_ (some 63) rfl rfl Try.func72 (by kernel_rfl) rfl #[.slice Ao27 t356.length co27, .int .i64 1] rfl tq_1 ?_; (with_reducible refine (laws_heldStringS.calls kj58 _ _ t356 1 t372 _ ?side1 ?side2 A68.out).mono ?_); (case side1 => exact tq_52); (case side2 => exact (Kd.R_reads' HO_6.out).2.1); rintro e w72 ⟨rfl, hb⟩; refine ⟨_, rfl, ?_⟩; have z_ := p_ (Kd.R_below tq_42 hb) <| p_ (Kd.R_below tq_41 hb) <| p_ (Kd.R_below tq_40 hb) <| p_ (blk_below tq_19 hb) <| p_ (blk_below tq_32 hb) <| a_ (below_step tq_5 hb); clear HO_6 HO_336004 HO_336005 BK310 BK335 HB; obtain ⟨HO_6, HO_336004, HO_336005, BK310, BK335, HB⟩ := z_; (try clear hb); (try clear hb2); (try clear hk); (try clear hi)))
                   go_ret
                   exact ⟨tq_2, tq_5⟩
                  ·rw [if_neg c71] at H
                   have c71b0 : (t372 == t355) = false := beq_eq_false_iff_ne.mpr c71
                   have c71b1 : (t372 != t355) = true := bne_iff_ne.mpr c71
                   obtain rfl := Option.some.inj H
                   go_wp2_with (first | ((with_reducible refine gate_callee (f := 72) rfl ?_); refine goesL_ (some 63) rfl rfl Try.func72 (by kernel_rfl) rfl #[.slice Ao27 t356.length co27, .int .i64 1] rfl tq_1 ?_; (with_reducible refine (laws_heldStringS.calls kj58 _ _ t356 1 t372 _ ?side1 ?side2 A68.out).mono ?_); (case side1 => exact tq_52); (case side2 => exact (Kd.R_reads' HO_6.out).2.1); rintro e w73 ⟨rfl, hb⟩; refine ⟨_, rfl, ?_⟩; have z_ := p_ (Kd.R_below tq_42 hb) <| p_ (Kd.R_below tq_41 hb) <| p_ (Kd.R_below tq_40 hb) <| p_ (blk_below tq_19 hb) <| p_ (blk_below tq_32 hb) <| a_ (below_step tq_5 hb); clear HO_6 HO_336004 HO_336005 BK310 BK335 HB; obtain ⟨HO_6, HO_336004, HO_336005, BK310, BK335, HB⟩ := z_; (try clear hb); (try clear hb2); (try clear hk); (try clear hi)))
                   go_ret
                   exact ⟨tq_2, tq_5⟩

end Go.Proofs.Ytcdnfkoahajhhaa.PFnExactInodeWords
