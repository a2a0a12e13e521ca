/- Contracts of Go functions, written by a program of ours over the print of the kit: each says that the call returns what the Lean function beside it computes. Conditions: as each theorem states them. -/
import Derived.Test.YtcdnfkoahajhhaaPkFnExactWithEntry
import Derived.Test.YtcdnfkoahajhhaaPFnExactWithEntryx0
import Derived.Test.YtcdnfkoahajhhaaPFnExactWithEntryx1
import Derived.Test.YtcdnfkoahajhhaaPFnExactWithEntryx3
import Derived.Test.YtcdnfkoahajhhaaPFnExactWithEntryx4
import Derived.Test.YtcdnfkoahajhhaaPFnExactWithEntryx5
import Derived.Test.YtcdnfkoahajhhaaPFnExactWithEntryx6
namespace Go.Proofs.Ytcdnfkoahajhhaa.PFnExactWithEntry
open Go.RowKit Go.Proofs.YtcdnfkoahajhhaaW.PrintWords Go.Proofs.YtcdnfkoahajhhaaW.PrintLast Go.Proofs.YtcdnfkoahajhhaaW.PrintMore
attribute [local go_sem] max2_int min2_int max_two min_two max_three min_three max_four min_four   -- for this text's walks alone
set_option linter.unusedVariables false
set_option linter.unusedSimpArgs false

/-! ### laws_FnExactWithEntry: function 6 -/
mutual
def laws_FnExactWithEntry.j0 : Nat → Int → Int → Int → Int → ByteArray → List (S181) → List (S56) → Int → ByteArray → Option (Bool)
 | 0, _, _, _, _, _, _, _, _, _ => none
 | k + 1, x5, x280000, x280001, x280002, x280003, x280004, x280005, x281000, x281001 => (laws_szEntry.f x281000 x281001 x5).bind fun t282 => (if t282 < 0 then (some true) else (laws_FnExactWithEntry.j1 k x280000 x280001 x280002 x280003 x280004 x280005 x281000 x281001))
def laws_FnExactWithEntry.j1 : Nat → Int → Int → Int → ByteArray → List (S181) → List (S56) → Int → ByteArray → Option (Bool)
 | 0, _, _, _, _, _, _, _, _ => none
 | k + 1, x280000, x280001, x280002, x280003, x280004, x280005, x281000, x281001 => (laws_toInode.f k x280000 x280001 x280002 x280003 x280004 x280005).bind fun bt283 => ((laws_toEntry.f x281000 x281001).bind fun bt293 => ((spec_WithEntry.f k bt283.1 bt283.2.1 bt283.2.2.1 bt283.2.2.2.1 bt283.2.2.2.2.1 bt283.2.2.2.2.2 bt293.1 bt293.2).bind fun bt295 => ((laws_toInode.f k x280000 x280001 x280002 x280003 x280004 x280005).bind fun bt306 => ((laws_toEntry.f x281000 x281001).bind fun bt317 => ((impl_WithEntry.f bt306.1 bt306.2.1 bt306.2.2.1 bt306.2.2.2.1 bt306.2.2.2.2.1 bt306.2.2.2.2.2 bt317.1 bt317.2).bind fun bt319 => ((laws_eqInode.f k bt319.1 bt319.2.1 bt319.2.2.1 bt319.2.2.2.1 bt319.2.2.2.2.1 bt319.2.2.2.2.2 bt295.1 bt295.2.1 bt295.2.2.1 bt295.2.2.2.1 bt295.2.2.2.2.1 bt295.2.2.2.2.2).bind fun t330 => (if t330 = true then (laws_FnExactWithEntry.j2 k x280000 x280001 x280002 x280003 x280004 x280005 x281000 x281001 bt295.1 bt295.2.1 bt295.2.2.1 bt295.2.2.2.1 bt295.2.2.2.2.1 bt295.2.2.2.2.2 bt306.1 bt306.2.1 bt306.2.2.1 bt306.2.2.2.1 bt306.2.2.2.2.1 bt306.2.2.2.2.2 bt319.1 bt319.2.1 bt319.2.2.1 bt319.2.2.2.1 bt319.2.2.2.2.1 bt319.2.2.2.2.2) else (some false))))))))
def laws_FnExactWithEntry.j2 : Nat → Int → Int → Int → ByteArray → List (S181) → List (S56) → Int → ByteArray → Int → Int → Int → ByteArray → List (S170) → List (S59) → Int → Int → Int → ByteArray → List (S170) → List (S59) → Int → Int → Int → ByteArray → List (S170) → List (S59) → Option (Bool)
 | 0, _, _, _, _, _, _, _, _, _, _, _, _, _, _, _, _, _, _, _, _, _, _, _, _, _, _ => none
 | k + 1, x280000, x280001, x280002, x280003, x280004, x280005, x281000, x281001, x306000, x306001, x306002, x306003, x306004, x306005, x317000, x317001, x317002, x317003, x317004, x317005, x330000, x330001, x330002, x330003, x330004, x330005 => (laws_toInode.f k x280000 x280001 x280002 x280003 x280004 x280005).bind fun bt331 => ((laws_eqInode.f k x317000 x317001 x317002 x317003 x317004 x317005 bt331.1 bt331.2.1 bt331.2.2.1 bt331.2.2.2.1 bt331.2.2.2.2.1 bt331.2.2.2.2.2).bind fun t341 => (if t341 = true then (laws_FnExactWithEntry.j3 k x280000 x280001 x280002 x280003 x280004 x280005 x281000 x281001 x306000 x306001 x306002 x306003 x306004 x306005 x317000 x317001 x317002 x317003 x317004 x317005 x330000 x330001 x330002 x330003 x330004 x330005) else (some false)))
def laws_FnExactWithEntry.j3 : Nat → Int → Int → Int → ByteArray → List (S181) → List (S56) → Int → ByteArray → Int → Int → Int → ByteArray → List (S170) → List (S59) → Int → Int → Int → ByteArray → List (S170) → List (S59) → Int → Int → Int → ByteArray → List (S170) → List (S59) → Option (Bool)
 | 0, _, _, _, _, _, _, _, _, _, _, _, _, _, _, _, _, _, _, _, _, _, _, _, _, _, _ => none
 | k + 1, x280000, x280001, x280002, x280003, x280004, x280005, x281000, x281001, x306000, x306001, x306002, x306003, x306004, x306005, x317000, x317001, x317002, x317003, x317004, x317005, x330000, x330001, x330002, x330003, x330004, x330005 => (laws_markInode.f k x317000 x317001 x317002 x317003 x317004 x317005 1).bind fun bt342 => (if bt342.1 < 0 then (laws_FnExactWithEntry.j4 k true x280000 x280001 x280002 x280003 x280004 x280005 x281000 x281001 x306000 x306001 x306002 x306003 x306004 x306005 x330000 x330001 x330002 x330003 x330004 x330005) else ((laws_eqInode.f k x330000 x330001 x330002 x330003 x330004 x330005 x306000 x306001 x306002 x306003 x306004 x306005).bind fun t345 => (laws_FnExactWithEntry.j4 k (!t345) x280000 x280001 x280002 x280003 x280004 x280005 x281000 x281001 x306000 x306001 x306002 x306003 x306004 x306005 x330000 x330001 x330002 x330003 x330004 x330005)))
def laws_FnExactWithEntry.j4 : Nat → Bool → Int → Int → Int → ByteArray → List (S181) → List (S56) → Int → ByteArray → Int → Int → Int → ByteArray → List (S170) → List (S59) → Int → Int → Int → ByteArray → List (S170) → List (S59) → Option (Bool)
 | 0, _, _, _, _, _, _, _, _, _, _, _, _, _, _, _, _, _, _, _, _, _ => none
 | k + 1, x53, x280000, x280001, x280002, x280003, x280004, x280005, x281000, x281001, x306000, x306001, x306002, x306003, x306004, x306005, x330000, x330001, x330002, x330003, x330004, x330005 => if x53 = true then (some false) else (laws_FnExactWithEntry.j5 k x280000 x280001 x280002 x280003 x280004 x280005 x281000 x281001 x306000 x306001 x306002 x306003 x306004 x306005 x330000 x330001 x330002 x330003 x330004 x330005)
def laws_FnExactWithEntry.j5 : Nat → Int → Int → Int → ByteArray → List (S181) → List (S56) → Int → ByteArray → Int → Int → Int → ByteArray → List (S170) → List (S59) → Int → Int → Int → ByteArray → List (S170) → List (S59) → Option (Bool)
 | 0, _, _, _, _, _, _, _, _, _, _, _, _, _, _, _, _, _, _, _, _ => none
 | k + 1, x280000, x280001, x280002, x280003, x280004, x280005, x281000, x281001, x306000, x306001, x306002, x306003, x306004, x306005, x330000, x330001, x330002, x330003, x330004, x330005 => (laws_markInode.f k x330000 x330001 x330002 x330003 x330004 x330005 1).bind fun bt346 => ((laws_heldInode.f k x330000 x330001 x330002 x330003 bt346.2.1 bt346.2.2 1).bind fun t349 => (if t349 < 0 then (some false) else (laws_FnExactWithEntry.j6 k bt346.1 t349 x280000 x280001 x280002 x280003 x280004 x280005 x281000 x281001 x306000 x306001 x306002 x306003 x306004 x306005 x330000 x330001 x330002 x330003 bt346.2.1 bt346.2.2)))
def laws_FnExactWithEntry.j6 : Nat → Int → Int → Int → Int → Int → ByteArray → List (S181) → List (S56) → Int → ByteArray → Int → Int → Int → ByteArray → List (S170) → List (S59) → Int → Int → Int → ByteArray → List (S170) → List (S59) → Option (Bool)
 | 0, _, _, _, _, _, _, _, _, _, _, _, _, _, _, _, _, _, _, _, _, _, _ => none
 | k + 1, x10, x11, x280000, x280001, x280002, x280003, x280004, x280005, x281000, x281001, x306000, x306001, x306002, x306003, x306004, x306005, x330000, x330001, x330002, x330003, x330004, x330005 => if x11 = x10 then (laws_FnExactWithEntry.j7 k x10 x280000 x280001 x280002 x280003 x280004 x280005 x281000 x281001 x306000 x306001 x306002 x306003 x306004 x306005 x330000 x330001 x330002 x330003 x330004 x330005) else (some false)
def laws_FnExactWithEntry.j7 : Nat → Int → Int → Int → Int → ByteArray → List (S181) → List (S56) → Int → ByteArray → Int → Int → Int → ByteArray → List (S170) → List (S59) → Int → Int → Int → ByteArray → List (S170) → List (S59) → Option (Bool)
 | 0, _, _, _, _, _, _, _, _, _, _, _, _, _, _, _, _, _, _, _, _, _ => none
 | k + 1, x10, x280000, x280001, x280002, x280003, x280004, x280005, x281000, x281001, x306000, x306001, x306002, x306003, x306004, x306005, x330000, x330001, x330002, x330003, x330004, x330005 => (laws_toInode.f k x280000 x280001 x280002 x280003 x280004 x280005).bind fun bt350 => ((laws_toEntry.f x281000 x281001).bind fun bt360 => ((impl_WithEntry.f bt350.1 bt350.2.1 bt350.2.2.1 bt350.2.2.2.1 bt350.2.2.2.2.1 bt350.2.2.2.2.2 bt360.1 bt360.2).bind fun bt362 => ((laws_eqInode.f k bt362.1 bt362.2.1 bt362.2.2.1 bt362.2.2.2.1 bt362.2.2.2.2.1 bt362.2.2.2.2.2 x306000 x306001 x306002 x306003 x306004 x306005).bind fun t373 => (if t373 = true then (laws_FnExactWithEntry.j8 k x10 x330000 x330001 x330002 x330003 x330004 x330005) else (some false)))))
def laws_FnExactWithEntry.j8 : Nat → Int → Int → Int → Int → ByteArray → List (S170) → List (S59) → Option (Bool)
 | 0, _, _, _, _, _, _, _ => none
 | k + 1, x10, x330000, x330001, x330002, x330003, x330004, x330005 => (laws_heldInode.f k x330000 x330001 x330002 x330003 x330004 x330005 1).bind fun t374 => (if t374 < 0 then (some false) else (if t374 = x10 then (some true) else (some false)))
end
def laws_FnExactWithEntry.f (k : Nat) (a0_0 : Int) (a0_1 : Int) (a0_2 : Int) (a0_3 : ByteArray) (l0_4 : List (S181)) (l0_5 : List (S56)) (a1_0 : Int) (a1_1 : ByteArray) : Option (Bool) := (laws_szInode.f k a0_0 a0_1 a0_2 a0_3 l0_4 l0_5 1048576).bind fun t281 => (if t281 < 0 then (some true) else (laws_FnExactWithEntry.j0 k t281 a0_0 a0_1 a0_2 a0_3 l0_4 l0_5 a1_0 a1_1))
theorem laws_FnExactWithEntry.mono_l : ∀ k, (∀ y0 y1 y2 y3 y4 y5 y6 y7 y8, LeO (laws_FnExactWithEntry.j0 k y0 y1 y2 y3 y4 y5 y6 y7 y8) (laws_FnExactWithEntry.j0 (k + 1) y0 y1 y2 y3 y4 y5 y6 y7 y8)) ∧ (∀ y0 y1 y2 y3 y4 y5 y6 y7, LeO (laws_FnExactWithEntry.j1 k y0 y1 y2 y3 y4 y5 y6 y7) (laws_FnExactWithEntry.j1 (k + 1) y0 y1 y2 y3 y4 y5 y6 y7)) ∧ (∀ y0 y1 y2 y3 y4 y5 y6 y7 y8 y9 y10 y11 y12 y13 y14 y15 y16 y17 y18 y19 y20 y21 y22 y23 y24 y25, LeO (laws_FnExactWithEntry.j2 k y0 y1 y2 y3 y4 y5 y6 y7 y8 y9 y10 y11 y12 y13 y14 y15 y16 y17 y18 y19 y20 y21 y22 y23 y24 y25) (laws_FnExactWithEntry.j2 (k + 1) y0 y1 y2 y3 y4 y5 y6 y7 y8 y9 y10 y11 y12 y13 y14 y15 y16 y17 y18 y19 y20 y21 y22 y23 y24 y25)) ∧ (∀ y0 y1 y2 y3 y4 y5 y6 y7 y8 y9 y10 y11 y12 y13 y14 y15 y16 y17 y18 y19 y20 y21 y22 y23 y24 y25, LeO (laws_FnExactWithEntry.j3 k y0 y1 y2 y3 y4 y5 y6 y7 y8 y9 y10 y11 y12 y13 y14 y15 y16 y17 y18 y19 y20 y21 y22 y23 y24 y25) (laws_FnExactWithEntry.j3 (k + 1) y0 y1 y2 y3 y4 y5 y6 y7 y8 y9 y10 y11 y12 y13 y14 y15 y16 y17 y18 y19 y20 y21 y22 y23 y24 y25)) ∧ (∀ y0 y1 y2 y3 y4 y5 y6 y7 y8 y9 y10 y11 y12 y13 y14 y15 y16 y17 y18 y19 y20, LeO (laws_FnExactWithEntry.j4 k y0 y1 y2 y3 y4 y5 y6 y7 y8 y9 y10 y11 y12 y13 y14 y15 y16 y17 y18 y19 y20) (laws_FnExactWithEntry.j4 (k + 1) y0 y1 y2 y3 y4 y5 y6 y7 y8 y9 y10 y11 y12 y13 y14 y15 y16 y17 y18 y19 y20)) ∧ (∀ y0 y1 y2 y3 y4 y5 y6 y7 y8 y9 y10 y11 y12 y13 y14 y15 y16 y17 y18 y19, LeO (laws_FnExactWithEntry.j5 k y0 y1 y2 y3 y4 y5 y6 y7 y8 y9 y10 y11 y12 y13 y14 y15 y16 y17 y18 y19) (laws_FnExactWithEntry.j5 (k + 1) y0 y1 y2 y3 y4 y5 y6 y7 y8 y9 y10 y11 y12 y13 y14 y15 y16 y17 y18 y19)) ∧ (∀ y0 y1 y2 y3 y4 y5 y6 y7 y8 y9 y10 y11 y12 y13 y14 y15 y16 y17 y18 y19 y20 y21, LeO (laws_FnExactWithEntry.j6 k y0 y1 y2 y3 y4 y5 y6 y7 y8 y9 y10 y11 y12 y13 y14 y15 y16 y17 y18 y19 y20 y21) (laws_FnExactWithEntry.j6 (k + 1) y0 y1 y2 y3 y4 y5 y6 y7 y8 y9 y10 y11 y12 y13 y14 y15 y16 y17 y18 y19 y20 y21)) ∧ (∀ y0 y1 y2 y3 y4 y5 y6 y7 y8 y9 y10 y11 y12 y13 y14 y15 y16 y17 y18 y19 y20, LeO (laws_FnExactWithEntry.j7 k y0 y1 y2 y3 y4 y5 y6 y7 y8 y9 y10 y11 y12 y13 y14 y15 y16 y17 y18 y19 y20) (laws_FnExactWithEntry.j7 (k + 1) y0 y1 y2 y3 y4 y5 y6 y7 y8 y9 y10 y11 y12 y13 y14 y15 y16 y17 y18 y19 y20)) ∧ (∀ y0 y1 y2 y3 y4 y5 y6, LeO (laws_FnExactWithEntry.j8 k y0 y1 y2 y3 y4 y5 y6) (laws_FnExactWithEntry.j8 (k + 1) y0 y1 y2 y3 y4 y5 y6))
 | 0 => ⟨fun _ _ _ _ _ _ _ _ _ r h => by simp [laws_FnExactWithEntry.j0] at h, fun _ _ _ _ _ _ _ _ r h => by simp [laws_FnExactWithEntry.j1] at h, fun _ _ _ _ _ _ _ _ _ _ _ _ _ _ _ _ _ _ _ _ _ _ _ _ _ _ r h => by simp [laws_FnExactWithEntry.j2] at h, fun _ _ _ _ _ _ _ _ _ _ _ _ _ _ _ _ _ _ _ _ _ _ _ _ _ _ r h => by simp [laws_FnExactWithEntry.j3] at h, fun _ _ _ _ _ _ _ _ _ _ _ _ _ _ _ _ _ _ _ _ _ r h => by simp [laws_FnExactWithEntry.j4] at h, fun _ _ _ _ _ _ _ _ _ _ _ _ _ _ _ _ _ _ _ _ r h => by simp [laws_FnExactWithEntry.j5] at h, fun _ _ _ _ _ _ _ _ _ _ _ _ _ _ _ _ _ _ _ _ _ _ r h => by simp [laws_FnExactWithEntry.j6] at h, fun _ _ _ _ _ _ _ _ _ _ _ _ _ _ _ _ _ _ _ _ _ r h => by simp [laws_FnExactWithEntry.j7] at h, fun _ _ _ _ _ _ _ r h => by simp [laws_FnExactWithEntry.j8] at h⟩
 | k + 1 => by
  obtain ⟨ih0, ih1, ih2, ih3, ih4, ih5, ih6, ih7, ih8⟩ := laws_FnExactWithEntry.mono_l k
  refine ⟨?_, ?_, ?_, ?_, ?_, ?_, ?_, ?_, ?_⟩
  ·intro y0 y1 y2 y3 y4 y5 y6 y7 y8
   unfold laws_FnExactWithEntry.j0
   repeat' first
   | (with_reducible exact ih0 ..)
   | (with_reducible exact ih1 ..)
   | (with_reducible exact ih2 ..)
   | (with_reducible exact ih3 ..)
   | (with_reducible exact ih4 ..)
   | (with_reducible exact ih5 ..)
   | (with_reducible exact ih6 ..)
   | (with_reducible exact ih7 ..)
   | (with_reducible exact ih8 ..)
   | (with_reducible exact laws_eqInode.mono ..)
   | (with_reducible exact laws_heldInode.mono ..)
   | (with_reducible exact laws_markInode.mono ..)
   | (with_reducible exact laws_szInode.mono ..)
   | (with_reducible exact laws_toInode.mono ..)
   | (with_reducible exact spec_WithEntry.mono ..)
   | (with_reducible exact LeO.refl _)
   | (with_reducible exact LeO.none _)
   | (with_reducible refine LeO.ite ?_ ?_)
   | (with_reducible refine LeO.bind ?_ (fun _ => ?_))
   | exact ih0 ..
   | exact ih1 ..
   | exact ih2 ..
   | exact ih3 ..
   | exact ih4 ..
   | exact ih5 ..
   | exact ih6 ..
   | exact ih7 ..
   | exact ih8 ..
   | exact laws_eqInode.mono ..
   | exact laws_heldInode.mono ..
   | exact laws_markInode.mono ..
   | exact laws_szInode.mono ..
   | exact laws_toInode.mono ..
   | exact spec_WithEntry.mono ..
   | exact LeO.none _
   | refine LeO.ite ?_ ?_
   | refine LeO.bind ?_ (fun _ => ?_)
  ·intro y0 y1 y2 y3 y4 y5 y6 y7
   unfold laws_FnExactWithEntry.j1
   repeat' first
   | (with_reducible exact ih0 ..)
   | (with_reducible exact ih1 ..)
   | (with_reducible exact ih2 ..)
   | (with_reducible exact ih3 ..)
   | (with_reducible exact ih4 ..)
   | (with_reducible exact ih5 ..)
   | (with_reducible exact ih6 ..)
   | (with_reducible exact ih7 ..)
   | (with_reducible exact ih8 ..)
   | (with_reducible exact laws_eqInode.mono ..)
   | (with_reducible exact laws_heldInode.mono ..)
   | (with_reducible exact laws_markInode.mono ..)
   | (with_reducible exact laws_szInode.mono ..)
   | (with_reducible exact laws_toInode.mono ..)
   | (with_reducible exact spec_WithEntry.mono ..)
   | (with_reducible exact LeO.refl _)
   | (with_reducible exact LeO.none _)
   | (with_reducible refine LeO.ite ?_ ?_)
   | (with_reducible refine LeO.bind ?_ (fun _ => ?_))
   | exact ih0 ..
   | exact ih1 ..
   | exact ih2 ..
   | exact ih3 ..
   | exact ih4 ..
   | exact ih5 ..
   | exact ih6 ..
   | exact ih7 ..
   | exact ih8 ..
   | exact laws_eqInode.mono ..
   | exact laws_heldInode.mono ..
   | exact laws_markInode.mono ..
   | exact laws_szInode.mono ..
   | exact laws_toInode.mono ..
   | exact spec_WithEntry.mono ..
   | exact LeO.none _
   | refine LeO.ite ?_ ?_
   | refine LeO.bind ?_ (fun _ => ?_)
  ·intro y0 y1 y2 y3 y4 y5 y6 y7 y8 y9 y10 y11 y12 y13 y14 y15 y16 y17 y18 y19 y20 y21 y22 y23 y24 y25
   unfold laws_FnExactWithEntry.j2
   repeat' first
   | (with_reducible exact ih0 ..)
   | (with_reducible exact ih1 ..)
   | (with_reducible exact ih2 ..)
   | (with_reducible exact ih3 ..)
   | (with_reducible exact ih4 ..)
   | (with_reducible exact ih5 ..)
   | (with_reducible exact ih6 ..)
   | (with_reducible exact ih7 ..)
   | (with_reducible exact ih8 ..)
   | (with_reducible exact laws_eqInode.mono ..)
   | (with_reducible exact laws_heldInode.mono ..)
   | (with_reducible exact laws_markInode.mono ..)
   | (with_reducible exact laws_szInode.mono ..)
   | (with_reducible exact laws_toInode.mono ..)
   | (with_reducible exact spec_WithEntry.mono ..)
   | (with_reducible exact LeO.refl _)
   | (with_reducible exact LeO.none _)
   | (with_reducible refine LeO.ite ?_ ?_)
   | (with_reducible refine LeO.bind ?_ (fun _ => ?_))
   | exact ih0 ..
   | exact ih1 ..
   | exact ih2 ..
   | exact ih3 ..
   | exact ih4 ..
   | exact ih5 ..
   | exact ih6 ..
   | exact ih7 ..
   | exact ih8 ..
   | exact laws_eqInode.mono ..
   | exact laws_heldInode.mono ..
   | exact laws_markInode.mono ..
   | exact laws_szInode.mono ..
   | exact laws_toInode.mono ..
   | exact spec_WithEntry.mono ..
   | exact LeO.none _
   | refine LeO.ite ?_ ?_
   | refine LeO.bind ?_ (fun _ => ?_)
  ·intro y0 y1 y2 y3 y4 y5 y6 y7 y8 y9 y10 y11 y12 y13 y14 y15 y16 y17 y18 y19 y20 y21 y22 y23 y24 y25
   unfold laws_FnExactWithEntry.j3
   repeat' first
   | (with_reducible exact ih0 ..)
   | (with_reducible exact ih1 ..)
   | (with_reducible exact ih2 ..)
   | (with_reducible exact ih3 ..)
   | (with_reducible exact ih4 ..)
   | (with_reducible exact ih5 ..)
   | (with_reducible exact ih6 ..)
   | (with_reducible exact ih7 ..)
   | (with_reducible exact ih8 ..)
   | (with_reducible exact laws_eqInode.mono ..)
   | (with_reducible exact laws_heldInode.mono ..)
   | (with_reducible exact laws_markInode.mono ..)
   | (with_reducible exact laws_szInode.mono ..)
   | (with_reducible exact laws_toInode.mono ..)
   | (with_reducible exact spec_WithEntry.mono ..)
   | (with_reducible exact LeO.refl _)
   | (with_reducible exact LeO.none _)
   | (with_reducible refine LeO.ite ?_ ?_)
   | (with_reducible refine LeO.bind ?_ (fun _ => ?_))
   | exact ih0 ..
   | exact ih1 ..
   | exact ih2 ..
   | exact ih3 ..
   | exact ih4 ..
   | exact ih5 ..
   | exact ih6 ..
   | exact ih7 ..
   | exact ih8 ..
   | exact laws_eqInode.mono ..
   | exact laws_heldInode.mono ..
   | exact laws_markInode.mono ..
   | exact laws_szInode.mono ..
   | exact laws_toInode.mono ..
   | exact spec_WithEntry.mono ..
   | exact LeO.none _
   | refine LeO.ite ?_ ?_
   | refine LeO.bind ?_ (fun _ => ?_)
  ·intro y0 y1 y2 y3 y4 y5 y6 y7 y8 y9 y10 y11 y12 y13 y14 y15 y16 y17 y18 y19 y20
   unfold laws_FnExactWithEntry.j4
   repeat' first
   | (with_reducible exact ih0 ..)
   | (with_reducible exact ih1 ..)
   | (with_reducible exact ih2 ..)
   | (with_reducible exact ih3 ..)
   | (with_reducible exact ih4 ..)
   | (with_reducible exact ih5 ..)
   | (with_reducible exact ih6 ..)
   | (with_reducible exact ih7 ..)
   | (with_reducible exact ih8 ..)
   | (with_reducible exact laws_eqInode.mono ..)
   | (with_reducible exact laws_heldInode.mono ..)
   | (with_reducible exact laws_markInode.mono ..)
   | (with_reducible exact laws_szInode.mono ..)
   | (with_reducible exact laws_toInode.mono ..)
   | (with_reducible exact spec_WithEntry.mono ..)
   | (with_reducible exact LeO.refl _)
   | (with_reducible exact LeO.none _)
   | (with_reducible refine LeO.ite ?_ ?_)
   | (with_reducible refine LeO.bind ?_ (fun _ => ?_))
   | exact ih0 ..
   | exact ih1 ..
   | exact ih2 ..
   | exact ih3 ..
   | exact ih4 ..
   | exact ih5 ..
   | exact ih6 ..
   | exact ih7 ..
   | exact ih8 ..
   | exact laws_eqInode.mono ..
   | exact laws_heldInode.mono ..
   | exact laws_markInode.mono ..
   | exact laws_szInode.mono ..
   | exact laws_toInode.mono ..
   | exact spec_WithEntry.mono ..
   | exact LeO.none _
   | refine LeO.ite ?_ ?_
   | refine LeO.bind ?_ (fun _ => ?_)
  ·intro y0 y1 y2 y3 y4 y5 y6 y7 y8 y9 y10 y11 y12 y13 y14 y15 y16 y17 y18 y19
   unfold laws_FnExactWithEntry.j5
   repeat' first
   | (with_reducible exact ih0 ..)
   | (with_reducible exact ih1 ..)
   | (with_reducible exact ih2 ..)
   | (with_reducible exact ih3 ..)
   | (with_reducible exact ih4 ..)
   | (with_reducible exact ih5 ..)
   | (with_reducible exact ih6 ..)
   | (with_reducible exact ih7 ..)
   | (with_reducible exact ih8 ..)
   | (with_reducible exact laws_eqInode.mono ..)
   | (with_reducible exact laws_heldInode.mono ..)
   | (with_reducible exact laws_markInode.mono ..)
   | (with_reducible exact laws_szInode.mono ..)
   | (with_reducible exact laws_toInode.mono ..)
   | (with_reducible exact spec_WithEntry.mono ..)
   | (with_reducible exact LeO.refl _)
   | (with_reducible exact LeO.none _)
   | (with_reducible refine LeO.ite ?_ ?_)
   | (with_reducible refine LeO.bind ?_ (fun _ => ?_))
   | exact ih0 ..
   | exact ih1 ..
   | exact ih2 ..
   | exact ih3 ..
   | exact ih4 ..
   | exact ih5 ..
   | exact ih6 ..
   | exact ih7 ..
   | exact ih8 ..
   | exact laws_eqInode.mono ..
   | exact laws_heldInode.mono ..
   | exact laws_markInode.mono ..
   | exact laws_szInode.mono ..
   | exact laws_toInode.mono ..
   | exact spec_WithEntry.mono ..
   | exact LeO.none _
   | refine LeO.ite ?_ ?_
   | refine LeO.bind ?_ (fun _ => ?_)
  ·intro y0 y1 y2 y3 y4 y5 y6 y7 y8 y9 y10 y11 y12 y13 y14 y15 y16 y17 y18 y19 y20 y21
   unfold laws_FnExactWithEntry.j6
   repeat' first
   | (with_reducible exact ih0 ..)
   | (with_reducible exact ih1 ..)
   | (with_reducible exact ih2 ..)
   | (with_reducible exact ih3 ..)
   | (with_reducible exact ih4 ..)
   | (with_reducible exact ih5 ..)
   | (with_reducible exact ih6 ..)
   | (with_reducible exact ih7 ..)
   | (with_reducible exact ih8 ..)
   | (with_reducible exact laws_eqInode.mono ..)
   | (with_reducible exact laws_heldInode.mono ..)
   | (with_reducible exact laws_markInode.mono ..)
   | (with_reducible exact laws_szInode.mono ..)
   | (with_reducible exact laws_toInode.mono ..)
   | (with_reducible exact spec_WithEntry.mono ..)
   | (with_reducible exact LeO.refl _)
   | (with_reducible exact LeO.none _)
   | (with_reducible refine LeO.ite ?_ ?_)
   | (with_reducible refine LeO.bind ?_ (fun _ => ?_))
   | exact ih0 ..
   | exact ih1 ..
   | exact ih2 ..
   | exact ih3 ..
   | exact ih4 ..
   | exact ih5 ..
   | exact ih6 ..
   | exact ih7 ..
   | exact ih8 ..
   | exact laws_eqInode.mono ..
   | exact laws_heldInode.mono ..
   | exact laws_markInode.mono ..
   | exact laws_szInode.mono ..
   | exact laws_toInode.mono ..
   | exact spec_WithEntry.mono ..
   | exact LeO.none _
   | refine LeO.ite ?_ ?_
   | refine LeO.bind ?_ (fun _ => ?_)
  ·intro y0 y1 y2 y3 y4 y5 y6 y7 y8 y9 y10 y11 y12 y13 y14 y15 y16 y17 y18 y19 y20
   unfold laws_FnExactWithEntry.j7
   repeat' first
   | (with_reducible exact ih0 ..)
   | (with_reducible exact ih1 ..)
   | (with_reducible exact ih2 ..)
   | (with_reducible exact ih3 ..)
   | (with_reducible exact ih4 ..)
   | (with_reducible exact ih5 ..)
   | (with_reducible exact ih6 ..)
   | (with_reducible exact ih7 ..)
   | (with_reducible exact ih8 ..)
   | (with_reducible exact laws_eqInode.mono ..)
   | (with_reducible exact laws_heldInode.mono ..)
   | (with_reducible exact laws_markInode.mono ..)
   | (with_reducible exact laws_szInode.mono ..)
   | (with_reducible exact laws_toInode.mono ..)
   | (with_reducible exact spec_WithEntry.mono ..)
   | (with_reducible exact LeO.refl _)
   | (with_reducible exact LeO.none _)
   | (with_reducible refine LeO.ite ?_ ?_)
   | (with_reducible refine LeO.bind ?_ (fun _ => ?_))
   | exact ih0 ..
   | exact ih1 ..
   | exact ih2 ..
   | exact ih3 ..
   | exact ih4 ..
   | exact ih5 ..
   | exact ih6 ..
   | exact ih7 ..
   | exact ih8 ..
   | exact laws_eqInode.mono ..
   | exact laws_heldInode.mono ..
   | exact laws_markInode.mono ..
   | exact laws_szInode.mono ..
   | exact laws_toInode.mono ..
   | exact spec_WithEntry.mono ..
   | exact LeO.none _
   | refine LeO.ite ?_ ?_
   | refine LeO.bind ?_ (fun _ => ?_)
  ·intro y0 y1 y2 y3 y4 y5 y6
   unfold laws_FnExactWithEntry.j8
   repeat' first
   | (with_reducible exact ih0 ..)
   | (with_reducible exact ih1 ..)
   | (with_reducible exact ih2 ..)
   | (with_reducible exact ih3 ..)
   | (with_reducible exact ih4 ..)
   | (with_reducible exact ih5 ..)
   | (with_reducible exact ih6 ..)
   | (with_reducible exact ih7 ..)
   | (with_reducible exact ih8 ..)
   | (with_reducible exact laws_eqInode.mono ..)
   | (with_reducible exact laws_heldInode.mono ..)
   | (with_reducible exact laws_markInode.mono ..)
   | (with_reducible exact laws_szInode.mono ..)
   | (with_reducible exact laws_toInode.mono ..)
   | (with_reducible exact spec_WithEntry.mono ..)
   | (with_reducible exact LeO.refl _)
   | (with_reducible exact LeO.none _)
   | (with_reducible refine LeO.ite ?_ ?_)
   | (with_reducible refine LeO.bind ?_ (fun _ => ?_))
   | exact ih0 ..
   | exact ih1 ..
   | exact ih2 ..
   | exact ih3 ..
   | exact ih4 ..
   | exact ih5 ..
   | exact ih6 ..
   | exact ih7 ..
   | exact ih8 ..
   | exact laws_eqInode.mono ..
   | exact laws_heldInode.mono ..
   | exact laws_markInode.mono ..
   | exact laws_szInode.mono ..
   | exact laws_toInode.mono ..
   | exact spec_WithEntry.mono ..
   | exact LeO.none _
   | refine LeO.ite ?_ ?_
   | refine LeO.bind ?_ (fun _ => ?_)
theorem laws_FnExactWithEntry.mono : ∀ a0 a1 a2 a3 a4 a5 a6 a7 k, LeO (laws_FnExactWithEntry.f k a0 a1 a2 a3 a4 a5 a6 a7) (laws_FnExactWithEntry.f (k + 1) a0 a1 a2 a3 a4 a5 a6 a7) := by
 intro a0 a1 a2 a3 a4 a5 a6 a7 k
 obtain ⟨ih0, ih1, ih2, ih3, ih4, ih5, ih6, ih7, ih8⟩ := laws_FnExactWithEntry.mono_l k
 unfold laws_FnExactWithEntry.f
 repeat' first
   | (with_reducible exact ih0 ..)
   | (with_reducible exact ih1 ..)
   | (with_reducible exact ih2 ..)
   | (with_reducible exact ih3 ..)
   | (with_reducible exact ih4 ..)
   | (with_reducible exact ih5 ..)
   | (with_reducible exact ih6 ..)
   | (with_reducible exact ih7 ..)
   | (with_reducible exact ih8 ..)
   | (with_reducible exact laws_eqInode.mono ..)
   | (with_reducible exact laws_heldInode.mono ..)
   | (with_reducible exact laws_markInode.mono ..)
   | (with_reducible exact laws_szInode.mono ..)
   | (with_reducible exact laws_toInode.mono ..)
   | (with_reducible exact spec_WithEntry.mono ..)
   | (with_reducible exact LeO.refl _)
   | (with_reducible exact LeO.none _)
   | (with_reducible refine LeO.ite ?_ ?_)
   | (with_reducible refine LeO.bind ?_ (fun _ => ?_))
   | exact ih0 ..
   | exact ih1 ..
   | exact ih2 ..
   | exact ih3 ..
   | exact ih4 ..
   | exact ih5 ..
   | exact ih6 ..
   | exact ih7 ..
   | exact ih8 ..
   | exact laws_eqInode.mono ..
   | exact laws_heldInode.mono ..
   | exact laws_markInode.mono ..
   | exact laws_szInode.mono ..
   | exact laws_toInode.mono ..
   | exact spec_WithEntry.mono ..
   | exact LeO.none _
   | refine LeO.ite ?_ ?_
   | refine LeO.bind ?_ (fun _ => ?_)
set_option maxHeartbeats 8000000 in
set_option maxRecDepth 100000 in
theorem laws_FnExactWithEntry.calls (k : Nat) (a0_0 : Int) (a0_1 : Int) (a0_2 : Int) (a0_3 : ByteArray) (A0_4 : Option Addr) (c0_4 : Nat) (l0_4 : List (S181)) (A0_5 : Option Addr) (c0_5 : Nat) (l0_5 : List (S56)) (a1_0 : Int) (a1_1 : ByteArray) (r : Bool) (w : World) (hr0_4 : Kd.C k181 w A0_4 l0_4.length l0_4) (hc0_4 : l0_4.length ≤ c0_4) (hr0_5 : Kd.C k56 w A0_5 l0_5.length l0_5) (hc0_5 : l0_5.length ≤ c0_5) (h : laws_FnExactWithEntry.f k a0_0 a0_1 a0_2 a0_3 l0_4 l0_5 a1_0 a1_1 = some r) :
  Calls Try.prog 6 #[.agg #[.int .i64 a0_0, .int .i64 a0_1, .int .i64 a0_2, .string a0_3, .slice A0_4 l0_4.length c0_4, .slice A0_5 l0_5.length c0_5], .agg #[.int .i64 a1_0, .string a1_1]] w fun e w' => e = .returned (.bool r) ∧ Below w.heap.size w w' := by
 have hu44 := Try.underlying44
 have hu56 := Try.underlying56
 have hu49 := Try.underlying49
 have HR0_4 := Aside0.mk hr0_4
 have HC0_4 := Aside0.mk hc0_4
 clear hr0_4 hc0_4
 have HR0_5 := Aside0.mk hr0_5
 have HC0_5 := Aside0.mk hc0_5
 clear hr0_5 hc0_5
 have HB := Aside0.mk (Below.refl w.heap.size w)
 have H : ((laws_szInode.f k a0_0 a0_1 a0_2 a0_3 l0_4 l0_5 1048576).bind fun t281 => (if t281 < 0 then (some true) else (laws_FnExactWithEntry.j0 k t281 a0_0 a0_1 a0_2 a0_3 l0_4 l0_5 a1_0 a1_1))) = some r := h
 clear h
 replace H := Option.bind_eq_some_iff.mp H
 obtain ⟨t281, A30, H⟩ := H
 replace H : (if t281 < 0 then (some true) else (laws_FnExactWithEntry.j0 k t281 a0_0 a0_1 a0_2 a0_3 l0_4 l0_5 a1_0 a1_1)) = some r := H
 have A3 := Aside0.mk A30
 clear A30
 have HC4 := Aside0.mk H
 clear H
 go_enter Try.func6, Try.ntmps6
 go_upto_if 17 with (first | ((with_reducible refine gate_dst (N := 2) rfl ?_); refine box_event ?hg (N := 2) ?hd (cs := #[.int .i64 a0_0, .int .i64 a0_1, .int .i64 a0_2, .string a0_3, .slice A0_4 l0_4.length c0_4, .slice A0_5 l0_5.length c0_5]) (t := 44) ?hr ?_; (case hd => rfl); (case hg => rfl); (case hr => first | (go_simp; done) | (go_simp; rfl)); intro gb279 hg w5 hbox hb; have z_ := p_ (below_step tq_0 hb) <| p_ (hbox) <| p_ (gb_ hg tq_0) <| a_ (gb_ hg tq_0); clear HB; obtain ⟨HB, BK279, GW279, GE279⟩ := z_; clear hb hbox hg) | ((with_reducible refine gate_dst (N := 3) rfl ?_); refine box_event ?hg (N := 3) ?hd (cs := #[.int .i64 a1_0, .string a1_1]) (t := 56) ?hr ?_; (case hd => rfl); (case hg => rfl); (case hr => first | (go_simp; done) | (go_simp; rfl)); intro gb280 hg w6 hbox hb; have z_ := p_ (blk_below tq_3 hb) <| p_ (below_step tq_129 hb) <| p_ (hbox) <| p_ (gb_ hg tq_129) <| p_ (gb_ hg tq_129) <| p_ (ltne_ hg (blk_lt tq_3)) <| a_ (gtne_ hg (blk_lt tq_3)); clear BK279 HB; obtain ⟨BK279, HB, BK280, GW280, GE280, NB279_280, NB280_279⟩ := z_; clear hb hbox hg; have hnb7 := NB279_280.out; have hnc7 := NB280_279.out; have hcz8_0 := bc_ BK279.out 0; have hcz8_1 := bc_ BK279.out 1; have hcz8_2 := bc_ BK279.out 2; have hcz8_3 := bc_ BK279.out 3; have hcz8_4 := bc_ BK279.out 4; have hcz8_5 := bc_ BK279.out 5; have hfz8_0 := blk_frozen BK279.out 0; have hfz8_1 := blk_frozen BK279.out 1; have hfz8_2 := blk_frozen BK279.out 2; have hfz8_3 := blk_frozen BK279.out 3; have hfz8_4 := blk_frozen BK279.out 4; have hfz8_5 := blk_frozen BK279.out 5) | ((with_reducible refine gate_callee (f := 26) rfl ?_); refine goesL_ (some 15) rfl rfl Try.func26 (by kernel_rfl) rfl #[.agg #[.int .i64 a0_0, .int .i64 a0_1, .int .i64 a0_2, .string a0_3, .slice A0_4 l0_4.length c0_4, .slice A0_5 l0_5.length c0_5], .int .i64 1048576] rfl tq_2 ?_; (with_reducible refine (laws_szInode.calls k a0_0 a0_1 a0_2 a0_3 _ _ l0_4 _ _ l0_5 1048576 t281 _ ?side1 ?side2 ?side3 ?side4 A3.out).mono ?_); (case side1 => exact tq_15); (case side2 => exact HC0_4.out); (case side3 => exact tq_24); (case side4 => exact HC0_5.out); rintro e w9 ⟨rfl, hb⟩; refine ⟨_, rfl, ?_⟩; have z_ := p_ (blk_below tq_3 hb) <| p_ (blk_below tq_4 hb) <| a_ (below_step tq_13 hb); clear BK279 BK280 HB; obtain ⟨BK279, BK280, HB⟩ := z_; (try clear hb); (try clear hb2); (try clear hk); (try clear hi)))
 (try simp only [Act.put, List.setIfInBounds_toArray, List.set_cons_zero, List.set_cons_succ])
 go_cut [] (fun wc => ∃ (kq : Nat), Aside0 (laws_FnExactWithEntry.j0 kq t281 a0_0 a0_1 a0_2 a0_3 l0_4 l0_5 a1_0 a1_1 = some r) ∧ Aside0 (kq ≤ k) ∧ Aside0 (wc.heap[gb279]? = some (.cells #[.int .i64 a0_0, .int .i64 a0_1, .int .i64 a0_2, .string a0_3, (.slice A0_4 l0_4.length c0_4), (.slice A0_5 l0_5.length c0_5)] 44 (0, 0))) ∧ Aside0 (wc.heap[gb280]? = some (.cells #[.int .i64 a1_0, .string a1_1] 56 (0, 0))) ∧ Aside0 (Below w.heap.size w wc))
 case first =>
  have H := HC4.out
  clear HC4
  by_cases c10 : t281 < 0
  ·rw [if_pos c10] at H
   have c10b0 : decide (t281 < 0) = true := decide_eq_true c10
   clear c10
   (first | rw [c10b0] | (simp only [i64_w, i32_w]; rw [c10b0]) | skip)
   obtain rfl := Option.some.inj H
   go_wp2
   go_ret
   exact ⟨tq_7, tq_13⟩
  ·rw [if_neg c10] at H
   have c10b0 : decide (t281 < 0) = false := decide_eq_false c10
   clear c10
   (first | rw [c10b0] | (simp only [i64_w, i32_w]; rw [c10b0]) | skip)
   have H' := Aside0.mk H
   clear H
   go_wp2
   go_meet
   case rel => exact ⟨_, H', ⟨(by first | omega | exact Nat.le_refl _)⟩, ⟨tq_3⟩, ⟨tq_4⟩, ⟨tq_13⟩⟩
 case rest =>
  clear HC4
  try clear c1
  try clear c2
  try clear p2
  try clear c6
  try clear c7
  try clear c10
  try clear c10b0
  try clear hcz8_0 hcz8_1 hcz8_2 hcz8_3 hcz8_4 hcz8_5 hfz8_0 hfz8_1 hfz8_2 hfz8_3 hfz8_4 hfz8_5
  obtain ⟨kq, HA, HJ3, BK279, BK280, HB⟩ := hcut
  cases kq with
  | zero => exact absurd HA.out (by simp [laws_FnExactWithEntry.j0])
  | succ kj3 =>
   have H := HA.out
   clear HA
   simp only [laws_FnExactWithEntry.j0] at H
   replace H := Option.bind_eq_some_iff.mp H
   obtain ⟨t282, A110, H⟩ := H
   replace H : (if t282 < 0 then (some true) else (laws_FnExactWithEntry.j1 kj3 a0_0 a0_1 a0_2 a0_3 l0_4 l0_5 a1_0 a1_1)) = some r := H
   have A11 := Aside0.mk A110
   clear A110
   have HC12 := Aside0.mk H
   clear H
   have hnb13 := NB280_279.out
   have hnc13 := NB279_280.out
   have hcz14_0 := bc_ BK280.out 0
   have hcz14_1 := bc_ BK280.out 1
   have hfz14_0 := blk_frozen BK280.out 0
   have hfz14_1 := blk_frozen BK280.out 1
   go_upto_if 22 with (first | ((with_reducible refine gate_callee (f := 33) rfl ?_); refine goesL_ (some 20) rfl rfl Try.func33 (by kernel_rfl) rfl #[.agg #[.int .i64 a1_0, .string a1_1], .int .i64 t281] rfl tq_2 ?_; (with_reducible refine (laws_szEntry.calls a1_0 a1_1 t281 t282 _ A11.out).mono ?_); rintro e w15 ⟨rfl, hb⟩; refine ⟨_, rfl, ?_⟩; have z_ := p_ (blk_below tq_3 hb) <| p_ (blk_below tq_4 hb) <| a_ (below_step tq_13 hb); clear BK279 BK280 HB; obtain ⟨BK279, BK280, HB⟩ := z_; (try clear hb); (try clear hb2); (try clear hk); (try clear hi)))
   (try simp only [Act.put, List.setIfInBounds_toArray, List.set_cons_zero, List.set_cons_succ])
   go_cut [] (fun wc => ∃ (kq : Nat), Aside0 (laws_FnExactWithEntry.j1 kq a0_0 a0_1 a0_2 a0_3 l0_4 l0_5 a1_0 a1_1 = some r) ∧ Aside0 (kq ≤ kj3) ∧ Aside0 (wc.heap[gb279]? = some (.cells #[.int .i64 a0_0, .int .i64 a0_1, .int .i64 a0_2, .string a0_3, (.slice A0_4 l0_4.length c0_4), (.slice A0_5 l0_5.length c0_5)] 44 (0, 0))) ∧ Aside0 (wc.heap[gb280]? = some (.cells #[.int .i64 a1_0, .string a1_1] 56 (0, 0))) ∧ Aside0 (Below w.heap.size w wc))
   case first =>
    have H := HC12.out
    clear HC12
    by_cases c16 : t282 < 0
    ·rw [if_pos c16] at H
     have c16b0 : decide (t282 < 0) = true := decide_eq_true c16
     clear c16
     (first | rw [c16b0] | (simp only [i64_w, i32_w]; rw [c16b0]) | skip)
     obtain rfl := Option.some.inj H
     go_wp2
     go_ret
     exact ⟨tq_7, tq_13⟩
    ·rw [if_neg c16] at H
     have c16b0 : decide (t282 < 0) = false := decide_eq_false c16
     clear c16
     (first | rw [c16b0] | (simp only [i64_w, i32_w]; rw [c16b0]) | skip)
     have H' := Aside0.mk H
     clear H
     go_wp2
     go_meet
     case rel => exact ⟨_, H', ⟨(by have := HJ3.out; first | omega | exact Nat.le_refl _)⟩, ⟨tq_3⟩, ⟨tq_4⟩, ⟨tq_13⟩⟩
   case rest =>
    clear HC12
    try clear c1
    try clear c2
    try clear p2
    try clear c3
    try clear c6
    try clear c7
    try clear c10
    try clear c10b0
    try clear c13
    try clear c16
    try clear c16b0
    try clear hcz14_0 hcz14_1
    try clear hcz8_0 hcz8_1 hcz8_2 hcz8_3 hcz8_4 hcz8_5
    try clear hfz14_0 hfz14_1
    try clear hfz8_0 hfz8_1 hfz8_2 hfz8_3 hfz8_4 hfz8_5
    try clear p2
    obtain ⟨kq, HA, HJ11, BK279, BK280, HB⟩ := hcut
    cases kq with
    | zero => exact absurd HA.out (by simp [laws_FnExactWithEntry.j1])
    | succ kj11 =>
     have H := HA.out
     clear HA
     simp only [laws_FnExactWithEntry.j1] at H
     replace H := Option.bind_eq_some_iff.mp H
     obtain ⟨⟨t283, t284, t285, t286, t287, t290⟩, A170, H⟩ := H
     replace H : ((laws_toEntry.f a1_0 a1_1).bind fun bt293 => ((spec_WithEntry.f kj11 t283 t284 t285 t286 t287 t290 bt293.1 bt293.2).bind fun bt295 => ((laws_toInode.f kj11 a0_0 a0_1 a0_2 a0_3 l0_4 l0_5).bind fun bt306 => ((laws_toEntry.f a1_0 a1_1).bind fun bt317 => ((impl_WithEntry.f bt306.1 bt306.2.1 bt306.2.2.1 bt306.2.2.2.1 bt306.2.2.2.2.1 bt306.2.2.2.2.2 bt317.1 bt317.2).bind fun bt319 => ((laws_eqInode.f kj11 bt319.1 bt319.2.1 bt319.2.2.1 bt319.2.2.2.1 bt319.2.2.2.2.1 bt319.2.2.2.2.2 bt295.1 bt295.2.1 bt295.2.2.1 bt295.2.2.2.1 bt295.2.2.2.2.1 bt295.2.2.2.2.2).bind fun t330 => (if t330 = true then (laws_FnExactWithEntry.j2 kj11 a0_0 a0_1 a0_2 a0_3 l0_4 l0_5 a1_0 a1_1 bt295.1 bt295.2.1 bt295.2.2.1 bt295.2.2.2.1 bt295.2.2.2.2.1 bt295.2.2.2.2.2 bt306.1 bt306.2.1 bt306.2.2.1 bt306.2.2.2.1 bt306.2.2.2.2.1 bt306.2.2.2.2.2 bt319.1 bt319.2.1 bt319.2.2.1 bt319.2.2.2.1 bt319.2.2.2.2.1 bt319.2.2.2.2.2) else (some false)))))))) = some r := H
     have A17 := Aside0.mk A170
     clear A170
     replace H := Option.bind_eq_some_iff.mp H
     obtain ⟨⟨t293, t294⟩, A180, H⟩ := H
     replace H : ((spec_WithEntry.f kj11 t283 t284 t285 t286 t287 t290 t293 t294).bind fun bt295 => ((laws_toInode.f kj11 a0_0 a0_1 a0_2 a0_3 l0_4 l0_5).bind fun bt306 => ((laws_toEntry.f a1_0 a1_1).bind fun bt317 => ((impl_WithEntry.f bt306.1 bt306.2.1 bt306.2.2.1 bt306.2.2.2.1 bt306.2.2.2.2.1 bt306.2.2.2.2.2 bt317.1 bt317.2).bind fun bt319 => ((laws_eqInode.f kj11 bt319.1 bt319.2.1 bt319.2.2.1 bt319.2.2.2.1 bt319.2.2.2.2.1 bt319.2.2.2.2.2 bt295.1 bt295.2.1 bt295.2.2.1 bt295.2.2.2.1 bt295.2.2.2.2.1 bt295.2.2.2.2.2).bind fun t330 => (if t330 = true then (laws_FnExactWithEntry.j2 kj11 a0_0 a0_1 a0_2 a0_3 l0_4 l0_5 a1_0 a1_1 bt295.1 bt295.2.1 bt295.2.2.1 bt295.2.2.2.1 bt295.2.2.2.2.1 bt295.2.2.2.2.2 bt306.1 bt306.2.1 bt306.2.2.1 bt306.2.2.2.1 bt306.2.2.2.2.1 bt306.2.2.2.2.2 bt319.1 bt319.2.1 bt319.2.2.1 bt319.2.2.2.1 bt319.2.2.2.2.1 bt319.2.2.2.2.2) else (some false))))))) = some r := H
     have A18 := Aside0.mk A180
     clear A180
     replace H := Option.bind_eq_some_iff.mp H
     obtain ⟨⟨t295, t296, t297, t298, t299, t302⟩, A190, H⟩ := H
     replace H : ((laws_toInode.f kj11 a0_0 a0_1 a0_2 a0_3 l0_4 l0_5).bind fun bt306 => ((laws_toEntry.f a1_0 a1_1).bind fun bt317 => ((impl_WithEntry.f bt306.1 bt306.2.1 bt306.2.2.1 bt306.2.2.2.1 bt306.2.2.2.2.1 bt306.2.2.2.2.2 bt317.1 bt317.2).bind fun bt319 => ((laws_eqInode.f kj11 bt319.1 bt319.2.1 bt319.2.2.1 bt319.2.2.2.1 bt319.2.2.2.2.1 bt319.2.2.2.2.2 t295 t296 t297 t298 t299 t302).bind fun t330 => (if t330 = true then (laws_FnExactWithEntry.j2 kj11 a0_0 a0_1 a0_2 a0_3 l0_4 l0_5 a1_0 a1_1 t295 t296 t297 t298 t299 t302 bt306.1 bt306.2.1 bt306.2.2.1 bt306.2.2.2.1 bt306.2.2.2.2.1 bt306.2.2.2.2.2 bt319.1 bt319.2.1 bt319.2.2.1 bt319.2.2.2.1 bt319.2.2.2.2.1 bt319.2.2.2.2.2) else (some false)))))) = some r := H
     have A19 := Aside0.mk A190
     clear A190
     replace H := Option.bind_eq_some_iff.mp H
     obtain ⟨⟨t306, t307, t308, t309, t310, t313⟩, A200, H⟩ := H
     replace H : ((laws_toEntry.f a1_0 a1_1).bind fun bt317 => ((impl_WithEntry.f t306 t307 t308 t309 t310 t313 bt317.1 bt317.2).bind fun bt319 => ((laws_eqInode.f kj11 bt319.1 bt319.2.1 bt319.2.2.1 bt319.2.2.2.1 bt319.2.2.2.2.1 bt319.2.2.2.2.2 t295 t296 t297 t298 t299 t302).bind fun t330 => (if t330 = true then (laws_FnExactWithEntry.j2 kj11 a0_0 a0_1 a0_2 a0_3 l0_4 l0_5 a1_0 a1_1 t295 t296 t297 t298 t299 t302 t306 t307 t308 t309 t310 t313 bt319.1 bt319.2.1 bt319.2.2.1 bt319.2.2.2.1 bt319.2.2.2.2.1 bt319.2.2.2.2.2) else (some false))))) = some r := H
     have A20 := Aside0.mk A200
     clear A200
     replace H := Option.bind_eq_some_iff.mp H
     obtain ⟨⟨t317, t318⟩, A210, H⟩ := H
     replace H : ((impl_WithEntry.f t306 t307 t308 t309 t310 t313 t317 t318).bind fun bt319 => ((laws_eqInode.f kj11 bt319.1 bt319.2.1 bt319.2.2.1 bt319.2.2.2.1 bt319.2.2.2.2.1 bt319.2.2.2.2.2 t295 t296 t297 t298 t299 t302).bind fun t330 => (if t330 = true then (laws_FnExactWithEntry.j2 kj11 a0_0 a0_1 a0_2 a0_3 l0_4 l0_5 a1_0 a1_1 t295 t296 t297 t298 t299 t302 t306 t307 t308 t309 t310 t313 bt319.1 bt319.2.1 bt319.2.2.1 bt319.2.2.2.1 bt319.2.2.2.2.1 bt319.2.2.2.2.2) else (some false)))) = some r := H
     have A21 := Aside0.mk A210
     clear A210
     replace H := Option.bind_eq_some_iff.mp H
     obtain ⟨⟨t319, t320, t321, t322, t323, t326⟩, A220, H⟩ := H
     replace H : ((laws_eqInode.f kj11 t319 t320 t321 t322 t323 t326 t295 t296 t297 t298 t299 t302).bind fun t330 => (if t330 = true then (laws_FnExactWithEntry.j2 kj11 a0_0 a0_1 a0_2 a0_3 l0_4 l0_5 a1_0 a1_1 t295 t296 t297 t298 t299 t302 t306 t307 t308 t309 t310 t313 t319 t320 t321 t322 t323 t326) else (some false))) = some r := H
     have A22 := Aside0.mk A220
     clear A220
     replace H := Option.bind_eq_some_iff.mp H
     obtain ⟨t330, A230, H⟩ := H
     replace H : (if t330 = true then (laws_FnExactWithEntry.j2 kj11 a0_0 a0_1 a0_2 a0_3 l0_4 l0_5 a1_0 a1_1 t295 t296 t297 t298 t299 t302 t306 t307 t308 t309 t310 t313 t319 t320 t321 t322 t323 t326) else (some false)) = some r := H
     have A23 := Aside0.mk A230
     clear A230
     have HC24 := Aside0.mk H
     clear H
     try go_wp2
     have z_ := p_ (blk_drew BK279.out) <| p_ (blk_drew BK280.out) <| a_ (below_drew1 HB.out)
     clear BK279 BK280 HB
     obtain ⟨BK279, BK280, HB⟩ := z_
     refine start_ (n := 7) (S := fun w' => w'.cell? ⟨gb279, 0, none⟩ = some (.int .i64 a0_0) ∧ w'.cell? ⟨gb279, 1, none⟩ = some (.int .i64 a0_1) ∧ w'.cell? ⟨gb279, 2, none⟩ = some (.int .i64 a0_2) ∧ w'.cell? ⟨gb279, 3, none⟩ = some (.string a0_3) ∧ w'.cell? ⟨gb279, 4, none⟩ = some (.slice A0_4 l0_4.length c0_4) ∧ w'.cell? ⟨gb279, 5, none⟩ = some (.slice A0_5 l0_5.length c0_5) ∧ w'.cell? ⟨gb280, 0, none⟩ = some (.int .i64 a1_0) ∧ w'.cell? ⟨gb280, 1, none⟩ = some (.string a1_1)) (ds := []) #[false, false, false, false, false, false, false] (by kernel_rfl) rfl rfl (bc6_ BK279.out (bk2_ BK280.out)) (fun hHeld => ?_)
     generalize wc.drew = w25 at BK279 BK280 HB hHeld ⊢
     refine take_ (i := 0) (N := some 23) (v := ?_) (a' := ?_) #[true, false, false, false, false, false, false] rfl rfl (by kernel_rfl) (fun _ _ _ h => h) (Or.inl ⟨(by rfl), ?_⟩) hHeld ?_ ?_
     rotate_left
     ·rintro w' ⟨s0, s1, s2, s3, s4, s5, s6, s7⟩
      go_simp
      with_reducible rfl
     rotate_left
     ·simp only [Act.put, List.setIfInBounds_toArray, List.set_cons_zero, List.set_cons_succ, i64_w, i32_w]
      rfl
     refine take_ (i := 2) (N := some 25) (v := ?_) (a' := ?_) #[true, false, true, false, false, false, false] rfl rfl (by kernel_rfl) (fun _ _ _ h => h) (Or.inl ⟨(by rfl), ?_⟩) hHeld ?_ ?_
     rotate_left
     ·rintro w' ⟨s0, s1, s2, s3, s4, s5, s6, s7⟩
      go_simp
      with_reducible rfl
     rotate_left
     ·simp only [Act.put, List.setIfInBounds_toArray, List.set_cons_zero, List.set_cons_succ, i64_w, i32_w]
      rfl
     refine join_ (σ := Value × Value × Value × Value × Nat) 1 bq_0 (fun s_ => [(24, .agg #[.int .i64 t283, .int .i64 t284, .int .i64 t285, .string t286, s_.1, s_.2.1]), (26, .agg #[.int .i64 t293, .string t294]), (27, .agg #[.int .i64 t295, .int .i64 t296, .int .i64 t297, .string t298, s_.2.2.1, s_.2.2.2.1]), (6, .pointer (some ⟨s_.2.2.2.2, 0, none⟩))]) (fun s_ w' => (w'.cell? ⟨gb279, 0, none⟩ = some (.int .i64 a0_0) ∧ w'.cell? ⟨gb279, 1, none⟩ = some (.int .i64 a0_1) ∧ w'.cell? ⟨gb279, 2, none⟩ = some (.int .i64 a0_2) ∧ w'.cell? ⟨gb279, 3, none⟩ = some (.string a0_3) ∧ w'.cell? ⟨gb279, 4, none⟩ = some (.slice A0_4 l0_4.length c0_4) ∧ w'.cell? ⟨gb279, 5, none⟩ = some (.slice A0_5 l0_5.length c0_5) ∧ w'.cell? ⟨gb280, 0, none⟩ = some (.int .i64 a1_0) ∧ w'.cell? ⟨gb280, 1, none⟩ = some (.string a1_1)) ∧ (Kd.R k170 170 w' w.heap.size (fun k_ => some k_ ≠ (s_.2.2.1 : Value).ownBlock) s_.1 t287) ∧ (Kd.R k59 59 w' w.heap.size (fun k_ => some k_ ≠ (s_.2.2.2.1 : Value).ownBlock) s_.2.1 t290) ∧ (Kd.R k170 170 w' w.heap.size (fun k_ => some k_ ≠ (s_.1 : Value).ownBlock) s_.2.2.1 t299) ∧ (Kd.R k59 59 w' w.heap.size (fun k_ => some k_ ≠ (s_.2.1 : Value).ownBlock) s_.2.2.2.1 t302) ∧ (w'.heap[gb279]? = some (.cells #[.int .i64 a0_0, .int .i64 a0_1, .int .i64 a0_2, .string a0_3, .slice A0_4 l0_4.length c0_4, .slice A0_5 l0_5.length c0_5] 44 (0, 0))) ∧ (w'.heap[gb280]? = some (.cells #[.int .i64 a1_0, .string a1_1] 56 (0, 0))) ∧ (w'.heap[s_.2.2.2.2]? = some (.cells #[.int .i64 0, .int .i64 0, .int .i64 0, .string (⟨#[]⟩ : ByteArray), .slice none 0 0, .slice none 0 0] 49 (0, 0))) ∧ (w.heap.size ≤ s_.2.2.2.2) ∧ (w.heap.size ≤ s_.2.2.2.2) ∧ (gb279 ≠ s_.2.2.2.2) ∧ (s_.2.2.2.2 ≠ gb279) ∧ (gb280 ≠ s_.2.2.2.2) ∧ (s_.2.2.2.2 ≠ gb280) ∧ (Below w.heap.size w w')) ?_ ?_
     rotate_left
     ·intro hCont
      refine two_ (i := 1) (j := 5) (Ni := some 24) (Nj := some 6) #[true, true, true, false, false, false, false] #[true, false, true, false, false, true, false] rfl rfl rfl rfl (by kernel_rfl) (by decide) (by decide) (fun K hK => ?_) (fun K hK => ?_)
      ·skip
       refine goes_ Try.func28 (by kernel_rfl) rfl #[.agg #[.int .i64 a0_0, .int .i64 a0_1, .int .i64 a0_2, .string a0_3, .slice A0_4 l0_4.length c0_4, .slice A0_5 l0_5.length c0_5]] (by rfl) rfl rfl tq_2 ?_
       with_reducible refine (laws_toInode.calls kj11 a0_0 a0_1 a0_2 a0_3 _ _ l0_4 _ _ l0_5 t283 t284 t285 t286 t287 t290 _ ?side1 ?side2 ?side3 ?side4 A17.out).mono ?_
       (case side1 => exact tq_15)
       (case side2 => exact HC0_4.out)
       (case side3 => exact tq_24)
       (case side4 => exact HC0_5.out)
       rintro e w26 ⟨v288, v291, rfl, ho0, ho1, hb⟩
       refine ⟨_, rfl, ?_⟩
       have z_ := p_ (Kd.R_lower ho0 (below_size tq_13)) <| p_ (Kd.R_lower ho1 (below_size tq_13)) <| p_ (blk_below tq_3 hb) <| p_ (blk_below tq_4 hb) <| a_ (below_step tq_13 hb)
       clear BK279 BK280 HB
       obtain ⟨HO289, HO292, BK279, BK280, HB⟩ := z_
       (try clear hb)
       (try clear hb2)
       (try clear hk)
       (try clear hi)
       (try clear ho0)
       (try clear ho1)
       refine hK.out _ _ (bc6_ BK279.out (bk2_ BK280.out)) (fun hHeld => ?_)
       clear hK K
       refine nm_ (some 24) ?_
       refine two_ (i := 3) (j := 5) (Ni := some 26) (Nj := some 6) #[true, true, true, true, false, false, false] bq_32 rfl rfl rfl rfl (by kernel_rfl) (by decide) (by decide) (fun K hK => ?_) (fun K hK => ?_)
       ·skip
        refine goes_ Try.func35 (by kernel_rfl) rfl #[.agg #[.int .i64 a1_0, .string a1_1]] (by rfl) rfl rfl tq_2 ?_
        with_reducible refine (laws_toEntry.calls a1_0 a1_1 t293 t294 _ A18.out).mono ?_
        rintro e w27 ⟨rfl, hb⟩
        refine ⟨_, rfl, ?_⟩
        have z_ := p_ (Kd.R_below tq_28 hb) <| p_ (Kd.R_below tq_27 hb) <| p_ (blk_below tq_3 hb) <| p_ (blk_below tq_4 hb) <| a_ (below_step tq_13 hb)
        clear HO289 HO292 BK279 BK280 HB
        obtain ⟨HO289, HO292, BK279, BK280, HB⟩ := z_
        (try clear hb)
        (try clear hb2)
        (try clear hk)
        (try clear hi)
        obtain ⟨Ao28, co28, eo28⟩ := Kd.R_slice HO289.out
        (first | subst eo28 | (injection eo28 with f1_ f2_ f3_; have f4_ := f1_.symm; have f5_ := f3_.symm; clear f1_ f2_ f3_; subst f4_; subst f5_))
        obtain ⟨Ao29, co29, eo29⟩ := Kd.R_slice HO292.out
        (first | subst eo29 | (injection eo29 with f1_ f2_ f3_; have f4_ := f1_.symm; have f5_ := f3_.symm; clear f1_ f2_ f3_; subst f4_; subst f5_))
        refine hK.out _ _ (bc6_ BK279.out (bk2_ BK280.out)) (fun hHeld => ?_)
        clear hK K
        refine nm_ (some 26) ?_
        refine two_ (i := 4) (j := 5) (Ni := some 27) (Nj := some 6) #[true, true, true, true, true, false, false] bq_1 rfl rfl rfl rfl (by kernel_rfl) (by decide) (by decide) (fun K hK => ?_) (fun K hK => ?_)
        ·skip
         refine goes_ Try.func34 (by kernel_rfl) rfl #[.agg #[.int .i64 t283, .int .i64 t284, .int .i64 t285, .string t286, .slice Ao28 t287.length co28, .slice Ao29 t290.length co29], .agg #[.int .i64 t293, .string t294]] (by rfl) rfl rfl tq_2 ?_
         with_reducible refine (spec_WithEntry.calls kj11 t283 t284 t285 t286 _ _ t287 _ _ t290 t293 t294 t295 t296 t297 t298 t299 t302 _ ?side1 ?side2 ?side3 ?side4 A19.out).mono ?_
         (case side1 => exact tq_110)
         (case side2 => exact (Kd.R_reads' HO289.out).2.1)
         (case side3 => exact tq_109)
         (case side4 => exact (Kd.R_reads' HO292.out).2.1)
         rintro e w30 ⟨v300, v303, rfl, ho0, ho1, hb⟩
         refine ⟨_, rfl, ?_⟩
         have z_ := p_ (Kd.R_elder' tq_28 (Kd.R_base ho0) hb) <| p_ (Kd.R_elder' tq_27 (Kd.R_base ho1) hb) <| p_ (Kd.R_lower (Kd.R_new' ho0 (Kd.R_lt tq_28)) (below_size tq_13)) <| p_ (Kd.R_lower (Kd.R_new' ho1 (Kd.R_lt tq_27)) (below_size tq_13)) <| p_ (blk_below tq_3 hb) <| p_ (blk_below tq_4 hb) <| a_ (below_step tq_13 hb)
         clear HO289 HO292 BK279 BK280 HB
         obtain ⟨HO289, HO292, HO301, HO304, BK279, BK280, HB⟩ := z_
         (try clear hb)
         (try clear hb2)
         (try clear hk)
         (try clear hi)
         (try clear ho0)
         (try clear ho1)
         refine hK.out _ _ (bc6_ BK279.out (bk2_ BK280.out)) (fun hHeld => ?_)
         clear hK K
         refine nm_ (some 27) ?_
         refine one_ (i := 5) (N := some 6) bq_0 rfl rfl (by kernel_rfl) (by decide) (fun K hK => ?_)
         refine box_step ?hg (N := 6) ?hd (cs := #[.int .i64 0, .int .i64 0, .int .i64 0, .string (⟨#[]⟩ : ByteArray), .slice none 0 0, .slice none 0 0]) (t := 49) ?hr ?_; (case hd => rfl); (case hg => rfl); (case hr => first | (go_simp; done) | (go_simp; rfl))
         intro gb305 hg w31 hbox hb
         have z_ := p_ (Kd.R_below tq_28 hb) <| p_ (Kd.R_below tq_27 hb) <| p_ (Kd.R_below tq_48 hb) <| p_ (Kd.R_below tq_47 hb) <| p_ (blk_below tq_3 hb) <| p_ (blk_below tq_4 hb) <| p_ (below_step tq_13 hb) <| p_ (hbox) <| p_ (gb_ hg tq_13) <| p_ (gb_ hg tq_13) <| p_ (ltne_ hg (blk_lt tq_3)) <| p_ (gtne_ hg (blk_lt tq_3)) <| p_ (ltne_ hg (blk_lt tq_4)) <| a_ (gtne_ hg (blk_lt tq_4))
         clear HO289 HO292 HO301 HO304 BK279 BK280 HB
         obtain ⟨HO289, HO292, HO301, HO304, BK279, BK280, HB, BK305, GW305, GE305, NB279_305, NB305_279, NB280_305, NB305_280⟩ := z_
         clear hb hbox hg
         refine hK.out _ _ (bc6_ BK279.out (bk2_ BK280.out)) (fun hHeld => ?_)
         clear hK K
         refine nm_ (some 6) ?_
         exact norm_ tq_65 (hCont (.slice Ao28 t287.length co28, .slice Ao29 t290.length co29, v300, v303, gb305) _ ⟨hHeld, tq_119, tq_118, tq_117, tq_116, tq_3, tq_4, tq_6, GW305.out, GE305.out, NB279_305.out, NB305_279.out, NB280_305.out, NB305_280.out, tq_10⟩)
        ·skip
         refine box_step ?hg (N := 6) ?hd (cs := #[.int .i64 0, .int .i64 0, .int .i64 0, .string (⟨#[]⟩ : ByteArray), .slice none 0 0, .slice none 0 0]) (t := 49) ?hr ?_; (case hd => rfl); (case hg => rfl); (case hr => first | (go_simp; done) | (go_simp; rfl))
         intro gb305 hg w28 hbox hb
         have z_ := p_ (Kd.R_below tq_28 hb) <| p_ (Kd.R_below tq_27 hb) <| p_ (blk_below tq_3 hb) <| p_ (blk_below tq_4 hb) <| p_ (below_step tq_13 hb) <| p_ (hbox) <| p_ (gb_ hg tq_13) <| p_ (gb_ hg tq_13) <| p_ (ltne_ hg (blk_lt tq_3)) <| p_ (gtne_ hg (blk_lt tq_3)) <| p_ (ltne_ hg (blk_lt tq_4)) <| a_ (gtne_ hg (blk_lt tq_4))
         clear HO289 HO292 BK279 BK280 HB
         obtain ⟨HO289, HO292, BK279, BK280, HB, BK305, GW305, GE305, NB279_305, NB305_279, NB280_305, NB305_280⟩ := z_
         clear hb hbox hg
         obtain ⟨Ao29, co29, eo29⟩ := Kd.R_slice HO289.out
         (first | subst eo29 | (injection eo29 with f1_ f2_ f3_; have f4_ := f1_.symm; have f5_ := f3_.symm; clear f1_ f2_ f3_; subst f4_; subst f5_))
         obtain ⟨Ao30, co30, eo30⟩ := Kd.R_slice HO292.out
         (first | subst eo30 | (injection eo30 with f1_ f2_ f3_; have f4_ := f1_.symm; have f5_ := f3_.symm; clear f1_ f2_ f3_; subst f4_; subst f5_))
         refine hK.out _ _ (bc6_ BK279.out (bk2_ BK280.out)) (fun hHeld => ?_)
         clear hK K
         refine nm_ (some 6) ?_
         refine one_ (i := 4) (N := some 27) bq_0 rfl rfl (by kernel_rfl) (by decide) (fun K hK => ?_)
         refine goes_ Try.func34 (by kernel_rfl) rfl #[.agg #[.int .i64 t283, .int .i64 t284, .int .i64 t285, .string t286, .slice Ao29 t287.length co29, .slice Ao30 t290.length co30], .agg #[.int .i64 t293, .string t294]] (by rfl) rfl rfl tq_2 ?_
         with_reducible refine (spec_WithEntry.calls kj11 t283 t284 t285 t286 _ _ t287 _ _ t290 t293 t294 t295 t296 t297 t298 t299 t302 _ ?side1 ?side2 ?side3 ?side4 A19.out).mono ?_
         (case side1 => exact tq_110)
         (case side2 => exact (Kd.R_reads' HO289.out).2.1)
         (case side3 => exact tq_109)
         (case side4 => exact (Kd.R_reads' HO292.out).2.1)
         rintro e w31 ⟨v300, v303, rfl, ho0, ho1, hb⟩
         refine ⟨_, rfl, ?_⟩
         have z_ := p_ (Kd.R_elder' tq_28 (Kd.R_base ho0) hb) <| p_ (Kd.R_elder' tq_27 (Kd.R_base ho1) hb) <| p_ (Kd.R_lower (Kd.R_new' ho0 (Kd.R_lt tq_28)) (below_size tq_10)) <| p_ (Kd.R_lower (Kd.R_new' ho1 (Kd.R_lt tq_27)) (below_size tq_10)) <| p_ (blk_below tq_3 hb) <| p_ (blk_below tq_4 hb) <| p_ (blk_below tq_6 hb) <| a_ (below_step tq_10 hb)
         clear HO289 HO292 BK279 BK280 BK305 HB
         obtain ⟨HO289, HO292, HO301, HO304, BK279, BK280, BK305, HB⟩ := z_
         (try clear hb)
         (try clear hb2)
         (try clear hk)
         (try clear hi)
         (try clear ho0)
         (try clear ho1)
         refine hK.out _ _ (bc6_ BK279.out (bk2_ BK280.out)) (fun hHeld => ?_)
         clear hK K
         refine nm_ (some 27) ?_
         exact norm_ tq_65 (hCont (.slice Ao29 t287.length co29, .slice Ao30 t290.length co30, v300, v303, gb305) _ ⟨hHeld, tq_119, tq_118, tq_117, tq_116, tq_3, tq_4, tq_6, GW305.out, GE305.out, NB279_305.out, NB305_279.out, NB280_305.out, NB305_280.out, tq_10⟩)
       ·skip
        refine box_step ?hg (N := 6) ?hd (cs := #[.int .i64 0, .int .i64 0, .int .i64 0, .string (⟨#[]⟩ : ByteArray), .slice none 0 0, .slice none 0 0]) (t := 49) ?hr ?_; (case hd => rfl); (case hg => rfl); (case hr => first | (go_simp; done) | (go_simp; rfl))
        intro gb305 hg w27 hbox hb
        have z_ := p_ (Kd.R_below tq_28 hb) <| p_ (Kd.R_below tq_27 hb) <| p_ (blk_below tq_3 hb) <| p_ (blk_below tq_4 hb) <| p_ (below_step tq_13 hb) <| p_ (hbox) <| p_ (gb_ hg tq_13) <| p_ (gb_ hg tq_13) <| p_ (ltne_ hg (blk_lt tq_3)) <| p_ (gtne_ hg (blk_lt tq_3)) <| p_ (ltne_ hg (blk_lt tq_4)) <| a_ (gtne_ hg (blk_lt tq_4))
        clear HO289 HO292 BK279 BK280 HB
        obtain ⟨HO289, HO292, BK279, BK280, HB, BK305, GW305, GE305, NB279_305, NB305_279, NB280_305, NB305_280⟩ := z_
        clear hb hbox hg
        refine hK.out _ _ (bc6_ BK279.out (bk2_ BK280.out)) (fun hHeld => ?_)
        clear hK K
        refine nm_ (some 6) ?_
        refine one_ (i := 3) (N := some 26) bq_1 rfl rfl (by kernel_rfl) (by decide) (fun K hK => ?_)
        refine goes_ Try.func35 (by kernel_rfl) rfl #[.agg #[.int .i64 a1_0, .string a1_1]] (by rfl) rfl rfl tq_2 ?_
        with_reducible refine (laws_toEntry.calls a1_0 a1_1 t293 t294 _ A18.out).mono ?_
        rintro e w28 ⟨rfl, hb⟩
        refine ⟨_, rfl, ?_⟩
        have z_ := p_ (Kd.R_below tq_28 hb) <| p_ (Kd.R_below tq_27 hb) <| p_ (blk_below tq_3 hb) <| p_ (blk_below tq_4 hb) <| p_ (blk_below tq_6 hb) <| a_ (below_step tq_10 hb)
        clear HO289 HO292 BK279 BK280 BK305 HB
        obtain ⟨HO289, HO292, BK279, BK280, BK305, HB⟩ := z_
        (try clear hb)
        (try clear hb2)
        (try clear hk)
        (try clear hi)
        obtain ⟨Ao29, co29, eo29⟩ := Kd.R_slice HO289.out
        (first | subst eo29 | (injection eo29 with f1_ f2_ f3_; have f4_ := f1_.symm; have f5_ := f3_.symm; clear f1_ f2_ f3_; subst f4_; subst f5_))
        obtain ⟨Ao30, co30, eo30⟩ := Kd.R_slice HO292.out
        (first | subst eo30 | (injection eo30 with f1_ f2_ f3_; have f4_ := f1_.symm; have f5_ := f3_.symm; clear f1_ f2_ f3_; subst f4_; subst f5_))
        refine hK.out _ _ (bc6_ BK279.out (bk2_ BK280.out)) (fun hHeld => ?_)
        clear hK K
        refine nm_ (some 26) ?_
        refine one_ (i := 4) (N := some 27) bq_0 rfl rfl (by kernel_rfl) (by decide) (fun K hK => ?_)
        refine goes_ Try.func34 (by kernel_rfl) rfl #[.agg #[.int .i64 t283, .int .i64 t284, .int .i64 t285, .string t286, .slice Ao29 t287.length co29, .slice Ao30 t290.length co30], .agg #[.int .i64 t293, .string t294]] (by rfl) rfl rfl tq_2 ?_
        with_reducible refine (spec_WithEntry.calls kj11 t283 t284 t285 t286 _ _ t287 _ _ t290 t293 t294 t295 t296 t297 t298 t299 t302 _ ?side1 ?side2 ?side3 ?side4 A19.out).mono ?_
        (case side1 => exact tq_110)
        (case side2 => exact (Kd.R_reads' HO289.out).2.1)
        (case side3 => exact tq_109)
        (case side4 => exact (Kd.R_reads' HO292.out).2.1)
        rintro e w31 ⟨v300, v303, rfl, ho0, ho1, hb⟩
        refine ⟨_, rfl, ?_⟩
        have z_ := p_ (Kd.R_elder' tq_28 (Kd.R_base ho0) hb) <| p_ (Kd.R_elder' tq_27 (Kd.R_base ho1) hb) <| p_ (Kd.R_lower (Kd.R_new' ho0 (Kd.R_lt tq_28)) (below_size tq_10)) <| p_ (Kd.R_lower (Kd.R_new' ho1 (Kd.R_lt tq_27)) (below_size tq_10)) <| p_ (blk_below tq_3 hb) <| p_ (blk_below tq_4 hb) <| p_ (blk_below tq_6 hb) <| a_ (below_step tq_10 hb)
        clear HO289 HO292 BK279 BK280 BK305 HB
        obtain ⟨HO289, HO292, HO301, HO304, BK279, BK280, BK305, HB⟩ := z_
        (try clear hb)
        (try clear hb2)
        (try clear hk)
        (try clear hi)
        (try clear ho0)
        (try clear ho1)
        refine hK.out _ _ (bc6_ BK279.out (bk2_ BK280.out)) (fun hHeld => ?_)
        clear hK K
        refine nm_ (some 27) ?_
        exact norm_ tq_65 (hCont (.slice Ao29 t287.length co29, .slice Ao30 t290.length co30, v300, v303, gb305) _ ⟨hHeld, tq_119, tq_118, tq_117, tq_116, tq_3, tq_4, tq_6, GW305.out, GE305.out, NB279_305.out, NB305_279.out, NB280_305.out, NB305_280.out, tq_10⟩)
      ·skip
       refine box_step ?hg (N := 6) ?hd (cs := #[.int .i64 0, .int .i64 0, .int .i64 0, .string (⟨#[]⟩ : ByteArray), .slice none 0 0, .slice none 0 0]) (t := 49) ?hr ?_; (case hd => rfl); (case hg => rfl); (case hr => first | (go_simp; done) | (go_simp; rfl))
       intro gb305 hg w26 hbox hb
       have z_ := p_ (blk_below tq_3 hb) <| p_ (blk_below tq_4 hb) <| p_ (below_step tq_13 hb) <| p_ (hbox) <| p_ (gb_ hg tq_13) <| p_ (gb_ hg tq_13) <| p_ (ltne_ hg (blk_lt tq_3)) <| p_ (gtne_ hg (blk_lt tq_3)) <| p_ (ltne_ hg (blk_lt tq_4)) <| a_ (gtne_ hg (blk_lt tq_4))
       clear BK279 BK280 HB
       obtain ⟨BK279, BK280, HB, BK305, GW305, GE305, NB279_305, NB305_279, NB280_305, NB305_280⟩ := z_
       clear hb hbox hg
       refine hK.out _ _ (bc6_ BK279.out (bk2_ BK280.out)) (fun hHeld => ?_)
       clear hK K
       refine nm_ (some 6) ?_
       refine one_ (i := 1) (N := some 24) bq_32 rfl rfl (by kernel_rfl) (by decide) (fun K hK => ?_)
       refine goes_ Try.func28 (by kernel_rfl) rfl #[.agg #[.int .i64 a0_0, .int .i64 a0_1, .int .i64 a0_2, .string a0_3, .slice A0_4 l0_4.length c0_4, .slice A0_5 l0_5.length c0_5]] (by rfl) rfl rfl tq_2 ?_
       with_reducible refine (laws_toInode.calls kj11 a0_0 a0_1 a0_2 a0_3 _ _ l0_4 _ _ l0_5 t283 t284 t285 t286 t287 t290 _ ?side1 ?side2 ?side3 ?side4 A17.out).mono ?_
       (case side1 => exact tq_15)
       (case side2 => exact HC0_4.out)
       (case side3 => exact tq_24)
       (case side4 => exact HC0_5.out)
       rintro e w27 ⟨v288, v291, rfl, ho0, ho1, hb⟩
       refine ⟨_, rfl, ?_⟩
       have z_ := p_ (Kd.R_lower ho0 (below_size tq_10)) <| p_ (Kd.R_lower ho1 (below_size tq_10)) <| p_ (blk_below tq_3 hb) <| p_ (blk_below tq_4 hb) <| p_ (blk_below tq_6 hb) <| a_ (below_step tq_10 hb)
       clear BK279 BK280 BK305 HB
       obtain ⟨HO289, HO292, BK279, BK280, BK305, HB⟩ := z_
       (try clear hb)
       (try clear hb2)
       (try clear hk)
       (try clear hi)
       (try clear ho0)
       (try clear ho1)
       refine hK.out _ _ (bc6_ BK279.out (bk2_ BK280.out)) (fun hHeld => ?_)
       clear hK K
       refine nm_ (some 24) ?_
       refine one_ (i := 3) (N := some 26) bq_1 rfl rfl (by kernel_rfl) (by decide) (fun K hK => ?_)
       refine goes_ Try.func35 (by kernel_rfl) rfl #[.agg #[.int .i64 a1_0, .string a1_1]] (by rfl) rfl rfl tq_2 ?_
       with_reducible refine (laws_toEntry.calls a1_0 a1_1 t293 t294 _ A18.out).mono ?_
       rintro e w28 ⟨rfl, hb⟩
       refine ⟨_, rfl, ?_⟩
       have z_ := p_ (Kd.R_below tq_28 hb) <| p_ (Kd.R_below tq_27 hb) <| p_ (blk_below tq_3 hb) <| p_ (blk_below tq_4 hb) <| p_ (blk_below tq_6 hb) <| a_ (below_step tq_10 hb)
       clear HO289 HO292 BK279 BK280 BK305 HB
       obtain ⟨HO289, HO292, BK279, BK280, BK305, HB⟩ := z_
       (try clear hb)
       (try clear hb2)
       (try clear hk)
       (try clear hi)
       obtain ⟨Ao29, co29, eo29⟩ := Kd.R_slice HO289.out
       (first | subst eo29 | (injection eo29 with f1_ f2_ f3_; have f4_ := f1_.symm; have f5_ := f3_.symm; clear f1_ f2_ f3_; subst f4_; subst f5_))
       obtain ⟨Ao30, co30, eo30⟩ := Kd.R_slice HO292.out
       (first | subst eo30 | (injection eo30 with f1_ f2_ f3_; have f4_ := f1_.symm; have f5_ := f3_.symm; clear f1_ f2_ f3_; subst f4_; subst f5_))
       refine hK.out _ _ (bc6_ BK279.out (bk2_ BK280.out)) (fun hHeld => ?_)
       clear hK K
       refine nm_ (some 26) ?_
       refine one_ (i := 4) (N := some 27) bq_0 rfl rfl (by kernel_rfl) (by decide) (fun K hK => ?_)
       refine goes_ Try.func34 (by kernel_rfl) rfl #[.agg #[.int .i64 t283, .int .i64 t284, .int .i64 t285, .string t286, .slice Ao29 t287.length co29, .slice Ao30 t290.length co30], .agg #[.int .i64 t293, .string t294]] (by rfl) rfl rfl tq_2 ?_
       with_reducible refine (spec_WithEntry.calls kj11 t283 t284 t285 t286 _ _ t287 _ _ t290 t293 t294 t295 t296 t297 t298 t299 t302 _ ?side1 ?side2 ?side3 ?side4 A19.out).mono ?_
       (case side1 => exact tq_110)
       (case side2 => exact (Kd.R_reads' HO289.out).2.1)
       (case side3 => exact tq_109)
       (case side4 => exact (Kd.R_reads' HO292.out).2.1)
       rintro e w31 ⟨v300, v303, rfl, ho0, ho1, hb⟩
       refine ⟨_, rfl, ?_⟩
       have z_ := p_ (Kd.R_elder' tq_28 (Kd.R_base ho0) hb) <| p_ (Kd.R_elder' tq_27 (Kd.R_base ho1) hb) <| p_ (Kd.R_lower (Kd.R_new' ho0 (Kd.R_lt tq_28)) (below_size tq_10)) <| p_ (Kd.R_lower (Kd.R_new' ho1 (Kd.R_lt tq_27)) (below_size tq_10)) <| p_ (blk_below tq_3 hb) <| p_ (blk_below tq_4 hb) <| p_ (blk_below tq_6 hb) <| a_ (below_step tq_10 hb)
       clear HO289 HO292 BK279 BK280 BK305 HB
       obtain ⟨HO289, HO292, HO301, HO304, BK279, BK280, BK305, HB⟩ := z_
       (try clear hb)
       (try clear hb2)
       (try clear hk)
       (try clear hi)
       (try clear ho0)
       (try clear ho1)
       refine hK.out _ _ (bc6_ BK279.out (bk2_ BK280.out)) (fun hHeld => ?_)
       clear hK K
       refine nm_ (some 27) ?_
       exact norm_ tq_65 (hCont (.slice Ao29 t287.length co29, .slice Ao30 t290.length co30, v300, v303, gb305) _ ⟨hHeld, tq_119, tq_118, tq_117, tq_116, tq_3, tq_4, tq_6, GW305.out, GE305.out, NB279_305.out, NB305_279.out, NB280_305.out, NB305_280.out, tq_10⟩)
     rintro ⟨v288, v291, v300, v303, gb305⟩ w32 ⟨hS_, h0_, h1_, h2_, h3_, h4_, h5_, h6_, h7_, h8_, h9_, h10_, h11_, h12_, h13_⟩
     have z_ := q_ (⟨h0_⟩ : Aside0 (Kd.R k170 170 w32 w.heap.size (fun k_ => some k_ ≠ (v300 : Value).ownBlock) v288 t287)) <| q_ (⟨h1_⟩ : Aside0 (Kd.R k59 59 w32 w.heap.size (fun k_ => some k_ ≠ (v303 : Value).ownBlock) v291 t290)) <| q_ (⟨h2_⟩ : Aside0 (Kd.R k170 170 w32 w.heap.size (fun k_ => some k_ ≠ (v288 : Value).ownBlock) v300 t299)) <| q_ (⟨h3_⟩ : Aside0 (Kd.R k59 59 w32 w.heap.size (fun k_ => some k_ ≠ (v291 : Value).ownBlock) v303 t302)) <| q_ (⟨h4_⟩ : Aside0 (w32.heap[gb279]? = some (.cells #[.int .i64 a0_0, .int .i64 a0_1, .int .i64 a0_2, .string a0_3, .slice A0_4 l0_4.length c0_4, .slice A0_5 l0_5.length c0_5] 44 (0, 0)))) <| q_ (⟨h5_⟩ : Aside0 (w32.heap[gb280]? = some (.cells #[.int .i64 a1_0, .string a1_1] 56 (0, 0)))) <| q_ (⟨h6_⟩ : Aside0 (w32.heap[gb305]? = some (.cells #[.int .i64 0, .int .i64 0, .int .i64 0, .string (⟨#[]⟩ : ByteArray), .slice none 0 0, .slice none 0 0] 49 (0, 0)))) <| q_ (⟨h7_⟩ : Aside0 (w.heap.size ≤ gb305)) <| q_ (⟨h8_⟩ : Aside0 (w.heap.size ≤ gb305)) <| q_ (⟨h9_⟩ : Aside0 (gb279 ≠ gb305)) <| q_ (⟨h10_⟩ : Aside0 (gb305 ≠ gb279)) <| q_ (⟨h11_⟩ : Aside0 (gb280 ≠ gb305)) <| q_ (⟨h12_⟩ : Aside0 (gb305 ≠ gb280)) <| (⟨h13_⟩ : Aside0 (Below w.heap.size w w32))
     clear BK279 BK280 HB h0_ h1_ h2_ h3_ h4_ h5_ h6_ h7_ h8_ h9_ h10_ h11_ h12_ h13_
     obtain ⟨HO289, HO292, HO301, HO304, BK279, BK280, BK305, GW305, GE305, NB279_305, NB305_279, NB280_305, NB305_280, HB⟩ := z_
     have hHeld : w32.cell? ⟨gb279, 0, none⟩ = some (.int .i64 a0_0) ∧ w32.cell? ⟨gb279, 1, none⟩ = some (.int .i64 a0_1) ∧ w32.cell? ⟨gb279, 2, none⟩ = some (.int .i64 a0_2) ∧ w32.cell? ⟨gb279, 3, none⟩ = some (.string a0_3) ∧ w32.cell? ⟨gb279, 4, none⟩ = some (.slice A0_4 l0_4.length c0_4) ∧ w32.cell? ⟨gb279, 5, none⟩ = some (.slice A0_5 l0_5.length c0_5) ∧ w32.cell? ⟨gb280, 0, none⟩ = some (.int .i64 a1_0) ∧ w32.cell? ⟨gb280, 1, none⟩ = some (.string a1_1) := hS_
     obtain ⟨Ao37, co37, eo37⟩ := Kd.R_slice HO301.out
     (first | subst eo37 | (injection eo37 with f1_ f2_ f3_; have f4_ := f1_.symm; have f5_ := f3_.symm; clear f1_ f2_ f3_; subst f4_; subst f5_))
     obtain ⟨Ao39, co39, eo39⟩ := Kd.R_slice HO304.out
     (first | subst eo39 | (injection eo39 with f1_ f2_ f3_; have f4_ := f1_.symm; have f5_ := f3_.symm; clear f1_ f2_ f3_; subst f4_; subst f5_))
     refine norm_ (a' := ?_) ?_ ?_
     rotate_left
     ·simp only [putAll, Act.put, List.setIfInBounds_toArray, List.set_cons_zero, List.set_cons_succ]
      rfl
     refine one_ (i := 6) (N := none) #[true, true, true, true, true, true, true] rfl rfl (by kernel_rfl) (by decide) (fun K hK => ?_)
     have hs33 : w32.cell? ⟨gb305, 0, none⟩ = some (.int .i64 0) := (blk_cell BK305.out 0).trans rfl
     have hfs33 := blk_frozen BK305.out 0
     have hns33_0 := NB279_305.out
     have hns33_1 := NB280_305.out
     have hms33_0 := NB305_279.out
     have hms33_1 := NB305_280.out
     have hs34 : w32.cell? ⟨gb305, 1, none⟩ = some (.int .i64 0) := (blk_cell BK305.out 1).trans rfl
     have hfs34 := blk_frozen BK305.out 1
     have hns34_0 := NB279_305.out
     have hns34_1 := NB280_305.out
     have hms34_0 := NB305_279.out
     have hms34_1 := NB305_280.out
     have hs35 : w32.cell? ⟨gb305, 2, none⟩ = some (.int .i64 0) := (blk_cell BK305.out 2).trans rfl
     have hfs35 := blk_frozen BK305.out 2
     have hns35_0 := NB279_305.out
     have hns35_1 := NB280_305.out
     have hms35_0 := NB305_279.out
     have hms35_1 := NB305_280.out
     have hs36 : w32.cell? ⟨gb305, 3, none⟩ = some (.string (⟨#[]⟩ : ByteArray)) := (blk_cell BK305.out 3).trans rfl
     have hfs36 := blk_frozen BK305.out 3
     have hns36_0 := NB279_305.out
     have hns36_1 := NB280_305.out
     have hms36_0 := NB305_279.out
     have hms36_1 := NB305_280.out
     have hs38 : w32.cell? ⟨gb305, 4, none⟩ = some (.slice none 0 0) := (blk_cell BK305.out 4).trans rfl
     have hfs38 := blk_frozen BK305.out 4
     have hns38_0 := NB279_305.out
     have hns38_1 := NB280_305.out
     have hms38_0 := NB305_279.out
     have hms38_1 := NB305_280.out
     have hs40 : w32.cell? ⟨gb305, 5, none⟩ = some (.slice none 0 0) := (blk_cell BK305.out 5).trans rfl
     have hfs40 := blk_frozen BK305.out 5
     have hns40_0 := NB279_305.out
     have hns40_1 := NB280_305.out
     have hms40_0 := NB305_279.out
     have hms40_1 := NB305_280.out
     refine skip_ (w1 := ?_) (by rfl) rfl ?_ ?_
     rotate_left
     ·go_simp
      rfl
     refine hK.out _ _ ⟨((cell_far (p := ⟨gb305, _, none⟩) NB279_305.out _).trans (((cell_far (p := ⟨gb305, _, none⟩) NB279_305.out _).trans (((cell_far (p := ⟨gb305, _, none⟩) NB279_305.out _).trans (((cell_far (p := ⟨gb305, _, none⟩) NB279_305.out _).trans (((cell_far (p := ⟨gb305, _, none⟩) NB279_305.out _).trans (((cell_far (p := ⟨gb305, _, none⟩) NB279_305.out _).trans (hHeld.1)))))))))))), ((cell_far (p := ⟨gb305, _, none⟩) NB279_305.out _).trans (((cell_far (p := ⟨gb305, _, none⟩) NB279_305.out _).trans (((cell_far (p := ⟨gb305, _, none⟩) NB279_305.out _).trans (((cell_far (p := ⟨gb305, _, none⟩) NB279_305.out _).trans (((cell_far (p := ⟨gb305, _, none⟩) NB279_305.out _).trans (((cell_far (p := ⟨gb305, _, none⟩) NB279_305.out _).trans (hHeld.2.1)))))))))))), ((cell_far (p := ⟨gb305, _, none⟩) NB279_305.out _).trans (((cell_far (p := ⟨gb305, _, none⟩) NB279_305.out _).trans (((cell_far (p := ⟨gb305, _, none⟩) NB279_305.out _).trans (((cell_far (p := ⟨gb305, _, none⟩) NB279_305.out _).trans (((cell_far (p := ⟨gb305, _, none⟩) NB279_305.out _).trans (((cell_far (p := ⟨gb305, _, none⟩) NB279_305.out _).trans (hHeld.2.2.1)))))))))))), ((cell_far (p := ⟨gb305, _, none⟩) NB279_305.out _).trans (((cell_far (p := ⟨gb305, _, none⟩) NB279_305.out _).trans (((cell_far (p := ⟨gb305, _, none⟩) NB279_305.out _).trans (((cell_far (p := ⟨gb305, _, none⟩) NB279_305.out _).trans (((cell_far (p := ⟨gb305, _, none⟩) NB279_305.out _).trans (((cell_far (p := ⟨gb305, _, none⟩) NB279_305.out _).trans (hHeld.2.2.2.1)))))))))))), ((cell_far (p := ⟨gb305, _, none⟩) NB279_305.out _).trans (((cell_far (p := ⟨gb305, _, none⟩) NB279_305.out _).trans (((cell_far (p := ⟨gb305, _, none⟩) NB279_305.out _).trans (((cell_far (p := ⟨gb305, _, none⟩) NB279_305.out _).trans (((cell_far (p := ⟨gb305, _, none⟩) NB279_305.out _).trans (((cell_far (p := ⟨gb305, _, none⟩) NB279_305.out _).trans (hHeld.2.2.2.2.1)))))))))))), ((cell_far (p := ⟨gb305, _, none⟩) NB279_305.out _).trans (((cell_far (p := ⟨gb305, _, none⟩) NB279_305.out _).trans (((cell_far (p := ⟨gb305, _, none⟩) NB279_305.out _).trans (((cell_far (p := ⟨gb305, _, none⟩) NB279_305.out _).trans (((cell_far (p := ⟨gb305, _, none⟩) NB279_305.out _).trans (((cell_far (p := ⟨gb305, _, none⟩) NB279_305.out _).trans (hHeld.2.2.2.2.2.1)))))))))))), ((cell_far (p := ⟨gb305, _, none⟩) NB280_305.out _).trans (((cell_far (p := ⟨gb305, _, none⟩) NB280_305.out _).trans (((cell_far (p := ⟨gb305, _, none⟩) NB280_305.out _).trans (((cell_far (p := ⟨gb305, _, none⟩) NB280_305.out _).trans (((cell_far (p := ⟨gb305, _, none⟩) NB280_305.out _).trans (((cell_far (p := ⟨gb305, _, none⟩) NB280_305.out _).trans (hHeld.2.2.2.2.2.2.1)))))))))))), ((cell_far (p := ⟨gb305, _, none⟩) NB280_305.out _).trans (((cell_far (p := ⟨gb305, _, none⟩) NB280_305.out _).trans (((cell_far (p := ⟨gb305, _, none⟩) NB280_305.out _).trans (((cell_far (p := ⟨gb305, _, none⟩) NB280_305.out _).trans (((cell_far (p := ⟨gb305, _, none⟩) NB280_305.out _).trans (((cell_far (p := ⟨gb305, _, none⟩) NB280_305.out _).trans (hHeld.2.2.2.2.2.2.2))))))))))))⟩ (fun hHeld => ?_)
     clear hK K
     refine done_ (by kernel_rfl) ?_
     have hnb41 := NB279_280.out
     have hnc41 := NB280_279.out
     have hnb42 := NB279_305.out
     have hnc42 := NB305_279.out
     have hcz43_0 := bc_ BK279.out 0
     have hcz43_1 := bc_ BK279.out 1
     have hcz43_2 := bc_ BK279.out 2
     have hcz43_3 := bc_ BK279.out 3
     have hcz43_4 := bc_ BK279.out 4
     have hcz43_5 := bc_ BK279.out 5
     have hfz43_0 := blk_frozen BK279.out 0
     have hfz43_1 := blk_frozen BK279.out 1
     have hfz43_2 := blk_frozen BK279.out 2
     have hfz43_3 := blk_frozen BK279.out 3
     have hfz43_4 := blk_frozen BK279.out 4
     have hfz43_5 := blk_frozen BK279.out 5
     try go_wp2_with (first | ((with_reducible refine gate_callee (f := 28) rfl ?_); refine goesL_ (some 29) rfl rfl Try.func28 (by kernel_rfl) rfl #[.agg #[.int .i64 a0_0, .int .i64 a0_1, .int .i64 a0_2, .string a0_3, .slice A0_4 l0_4.length c0_4, .slice A0_5 l0_5.length c0_5]] rfl tq_2 ?_; (with_reducible refine (laws_toInode.calls kj11 a0_0 a0_1 a0_2 a0_3 _ _ l0_4 _ _ l0_5 t306 t307 t308 t309 t310 t313 _ ?side1 ?side2 ?side3 ?side4 A20.out).mono ?_); (case side1 => exact Kd.C_below HR0_4.out tq_10); (case side2 => exact HC0_4.out); (case side3 => exact Kd.C_below HR0_5.out tq_10); (case side4 => exact HC0_5.out); rintro e w44 ⟨v311, v314, rfl, ho0, ho1, hb⟩; refine ⟨_, rfl, ?_⟩; have z_ := p_ (Kd.R_elder' tq_87 (Kd.R_base ho0) hb) <| p_ (Kd.R_elder' tq_86 (Kd.R_base ho1) hb) <| p_ (Kd.R_elder' tq_85 (Kd.R_base ho0) hb) <| p_ (Kd.R_elder' tq_84 (Kd.R_base ho1) hb) <| p_ (Kd.R_lower (Kd.R_new' (Kd.R_new' ho0 (Kd.R_lt tq_87)) (Kd.R_lt tq_85)) (below_size tq_10)) <| p_ (Kd.R_lower (Kd.R_new' (Kd.R_new' ho1 (Kd.R_lt tq_86)) (Kd.R_lt tq_84)) (below_size tq_10)) <| p_ (blk_below (g := gb279) (o := .cells #[.int .i64 a0_0, .int .i64 a0_1, .int .i64 a0_2, .string a0_3, .slice A0_4 l0_4.length c0_4, .slice A0_5 l0_5.length c0_5] 44 (0, 0)) (by (with_reducible repeat (first | refine blk_drewN ?_ _ | refine blk_drew ?_ | refine blk_alloc ?_ _)); refine blk_far ?_ NB279_305.out _; (with_reducible repeat (first | refine blk_drewN ?_ _ | refine blk_drew ?_ | refine blk_alloc ?_ _)); refine blk_far ?_ NB279_305.out _; (with_reducible repeat (first | refine blk_drewN ?_ _ | refine blk_drew ?_ | refine blk_alloc ?_ _)); refine blk_far ?_ NB279_305.out _; (with_reducible repeat (first | refine blk_drewN ?_ _ | refine blk_drew ?_ | refine blk_alloc ?_ _)); refine blk_far ?_ NB279_305.out _; (with_reducible repeat (first | refine blk_drewN ?_ _ | refine blk_drew ?_ | refine blk_alloc ?_ _)); refine blk_far ?_ NB279_305.out _; (with_reducible repeat (first | refine blk_drewN ?_ _ | refine blk_drew ?_ | refine blk_alloc ?_ _)); refine blk_far ?_ NB279_305.out _; (with_reducible repeat (first | refine blk_drewN ?_ _ | refine blk_drew ?_ | refine blk_alloc ?_ _)); exact BK279.out) hb) <| p_ (blk_below (g := gb280) (o := .cells #[.int .i64 a1_0, .string a1_1] 56 (0, 0)) (by (with_reducible repeat (first | refine blk_drewN ?_ _ | refine blk_drew ?_ | refine blk_alloc ?_ _)); refine blk_far ?_ NB280_305.out _; (with_reducible repeat (first | refine blk_drewN ?_ _ | refine blk_drew ?_ | refine blk_alloc ?_ _)); refine blk_far ?_ NB280_305.out _; (with_reducible repeat (first | refine blk_drewN ?_ _ | refine blk_drew ?_ | refine blk_alloc ?_ _)); refine blk_far ?_ NB280_305.out _; (with_reducible repeat (first | refine blk_drewN ?_ _ | refine blk_drew ?_ | refine blk_alloc ?_ _)); refine blk_far ?_ NB280_305.out _; (with_reducible repeat (first | refine blk_drewN ?_ _ | refine blk_drew ?_ | refine blk_alloc ?_ _)); refine blk_far ?_ NB280_305.out _; (with_reducible repeat (first | refine blk_drewN ?_ _ | refine blk_drew ?_ | refine blk_alloc ?_ _)); refine blk_far ?_ NB280_305.out _; (with_reducible repeat (first | refine blk_drewN ?_ _ | refine blk_drew ?_ | refine blk_alloc ?_ _)); exact BK280.out) hb) <| p_ (blk_below (g := gb305) (o := .cells #[.int .i64 t295, .int .i64 t296, .int .i64 t297, .string t298, .slice Ao37 t299.length co37, .slice Ao39 t302.length co39] 49 (0, 0)) (by (with_reducible repeat (first | refine blk_drewN ?_ _ | refine blk_drew ?_ | refine blk_alloc ?_ _)); refine blk_put (cs := #[.int .i64 t295, .int .i64 t296, .int .i64 t297, .string t298, .slice Ao37 t299.length co37, .slice none 0 0]) ?_ 5 _ rfl; (with_reducible repeat (first | refine blk_drewN ?_ _ | refine blk_drew ?_ | refine blk_alloc ?_ _)); refine blk_put (cs := #[.int .i64 t295, .int .i64 t296, .int .i64 t297, .string t298, .slice none 0 0, .slice none 0 0]) ?_ 4 _ rfl; (with_reducible repeat (first | refine blk_drewN ?_ _ | refine blk_drew ?_ | refine blk_alloc ?_ _)); refine blk_put (cs := #[.int .i64 t295, .int .i64 t296, .int .i64 t297, .string (⟨#[]⟩ : ByteArray), .slice none 0 0, .slice none 0 0]) ?_ 3 _ rfl; (with_reducible repeat (first | refine blk_drewN ?_ _ | refine blk_drew ?_ | refine blk_alloc ?_ _)); refine blk_put (cs := #[.int .i64 t295, .int .i64 t296, .int .i64 0, .string (⟨#[]⟩ : ByteArray), .slice none 0 0, .slice none 0 0]) ?_ 2 _ rfl; (with_reducible repeat (first | refine blk_drewN ?_ _ | refine blk_drew ?_ | refine blk_alloc ?_ _)); refine blk_put (cs := #[.int .i64 t295, .int .i64 0, .int .i64 0, .string (⟨#[]⟩ : ByteArray), .slice none 0 0, .slice none 0 0]) ?_ 1 _ rfl; (with_reducible repeat (first | refine blk_drewN ?_ _ | refine blk_drew ?_ | refine blk_alloc ?_ _)); refine blk_put (cs := #[.int .i64 0, .int .i64 0, .int .i64 0, .string (⟨#[]⟩ : ByteArray), .slice none 0 0, .slice none 0 0]) ?_ 0 _ rfl; (with_reducible repeat (first | refine blk_drewN ?_ _ | refine blk_drew ?_ | refine blk_alloc ?_ _)); exact BK305.out) hb) <| a_ (below_step tq_10 hb); clear HO289 HO292 HO301 HO304 BK279 BK280 BK305 HB; obtain ⟨HO289, HO292, HO301, HO304, HO312, HO315, BK279, BK280, BK305, HB⟩ := z_; (try clear hb); (try clear hb2); (try clear hk); (try clear hi); (try clear ho0); (try clear ho1)) | ((with_reducible refine gate_dst (N := 7) rfl ?_); refine box_event ?hg (N := 7) ?hd (cs := #[.int .i64 0, .int .i64 0, .int .i64 0, .string (⟨#[]⟩ : ByteArray), .slice none 0 0, .slice none 0 0]) (t := 49) ?hr ?_; (case hd => rfl); (case hg => rfl); (case hr => first | (go_simp; done) | (go_simp; rfl)); intro gb316 hg w45 hbox hb; have z_ := p_ (Kd.R_below tq_28 hb) <| p_ (Kd.R_below tq_27 hb) <| p_ (Kd.R_below tq_48 hb) <| p_ (Kd.R_below tq_47 hb) <| p_ (Kd.R_below tq_54 hb) <| p_ (Kd.R_below tq_53 hb) <| p_ (blk_below tq_3 hb) <| p_ (blk_below tq_4 hb) <| p_ (blk_below tq_6 hb) <| p_ (below_step tq_10 hb) <| p_ (hbox) <| p_ (gb_ hg tq_10) <| p_ (gb_ hg tq_10) <| p_ (ltne_ hg (blk_lt tq_3)) <| p_ (gtne_ hg (blk_lt tq_3)) <| p_ (ltne_ hg (blk_lt tq_4)) <| p_ (gtne_ hg (blk_lt tq_4)) <| p_ (ltne_ hg (blk_lt tq_6)) <| a_ (gtne_ hg (blk_lt tq_6)); clear HO289 HO292 HO301 HO304 HO312 HO315 BK279 BK280 BK305 HB; obtain ⟨HO289, HO292, HO301, HO304, HO312, HO315, BK279, BK280, BK305, HB, BK316, GW316, GE316, NB279_316, NB316_279, NB280_316, NB316_280, NB305_316, NB316_305⟩ := z_; clear hb hbox hg; have hnb46 := NB316_279.out; have hnc46 := NB279_316.out; have hnb47 := NB316_280.out; have hnc47 := NB280_316.out; have hnb48 := NB316_305.out; have hnc48 := NB305_316.out; have hcz49_0 := bc_ BK316.out 0; have hcz49_1 := bc_ BK316.out 1; have hcz49_2 := bc_ BK316.out 2; have hcz49_3 := bc_ BK316.out 3; have hcz49_4 := bc_ BK316.out 4; have hcz49_5 := bc_ BK316.out 5; have hfz49_0 := blk_frozen BK316.out 0; have hfz49_1 := blk_frozen BK316.out 1; have hfz49_2 := blk_frozen BK316.out 2; have hfz49_3 := blk_frozen BK316.out 3; have hfz49_4 := blk_frozen BK316.out 4; have hfz49_5 := blk_frozen BK316.out 5; obtain ⟨Ao50, co50, eo50⟩ := Kd.R_slice HO312.out; subst eo50; obtain ⟨Ao51, co51, eo51⟩ := Kd.R_slice HO315.out; subst eo51))
     have n0_ : Aside0 (Kd.R k170 170 ((((((w45.setCell ⟨gb316, 0, none⟩ (.int .i64 t306)).setCell ⟨gb316, 1, none⟩ (.int .i64 t307)).setCell ⟨gb316, 2, none⟩ (.int .i64 t308)).setCell ⟨gb316, 3, none⟩ (.string t309)).setCell ⟨gb316, 4, none⟩ (.slice Ao50 t310.length co50)).setCell ⟨gb316, 5, none⟩ (.slice Ao51 t313.length co51)) w.heap.size (fun k_ => some k_ ≠ (.slice Ao37 t299.length co37 : Value).ownBlock ∧ some k_ ≠ (.slice Ao50 t310.length co50 : Value).ownBlock) v288 t287) := ⟨(by (with_reducible repeat (first | apply Kd.R_alloc | apply Kd.R_drewN | apply Kd.R_drew)); exact Kd.R_mono (Kd.R_far (p := ⟨gb316, 5, none⟩) (Kd.R_far (p := ⟨gb316, 4, none⟩) (Kd.R_far (p := ⟨gb316, 3, none⟩) (Kd.R_far (p := ⟨gb316, 2, none⟩) (Kd.R_far (p := ⟨gb316, 1, none⟩) (Kd.R_far (p := ⟨gb316, 0, none⟩) (Kd.R_types HO289.out BK316.out (by decide)) (fun _ hk => hk.2) (.int .i64 t306)) (fun _ hk => hk.2) (.int .i64 t307)) (fun _ hk => hk.2) (.int .i64 t308)) (fun _ hk => hk.2) (.string t309)) (fun _ hk => hk.2) (.slice Ao50 t310.length co50)) (fun _ hk => hk.2) (.slice Ao51 t313.length co51)) (fun _ hk => ⟨hk.1.1, hk.1.2⟩))⟩
     have n1_ : Aside0 (Kd.R k59 59 ((((((w45.setCell ⟨gb316, 0, none⟩ (.int .i64 t306)).setCell ⟨gb316, 1, none⟩ (.int .i64 t307)).setCell ⟨gb316, 2, none⟩ (.int .i64 t308)).setCell ⟨gb316, 3, none⟩ (.string t309)).setCell ⟨gb316, 4, none⟩ (.slice Ao50 t310.length co50)).setCell ⟨gb316, 5, none⟩ (.slice Ao51 t313.length co51)) w.heap.size (fun k_ => some k_ ≠ (.slice Ao39 t302.length co39 : Value).ownBlock ∧ some k_ ≠ (.slice Ao51 t313.length co51 : Value).ownBlock) v291 t290) := ⟨(by (with_reducible repeat (first | apply Kd.R_alloc | apply Kd.R_drewN | apply Kd.R_drew)); exact Kd.R_mono (Kd.R_far (p := ⟨gb316, 5, none⟩) (Kd.R_far (p := ⟨gb316, 4, none⟩) (Kd.R_far (p := ⟨gb316, 3, none⟩) (Kd.R_far (p := ⟨gb316, 2, none⟩) (Kd.R_far (p := ⟨gb316, 1, none⟩) (Kd.R_far (p := ⟨gb316, 0, none⟩) (Kd.R_types HO292.out BK316.out (by decide)) (fun _ hk => hk.2) (.int .i64 t306)) (fun _ hk => hk.2) (.int .i64 t307)) (fun _ hk => hk.2) (.int .i64 t308)) (fun _ hk => hk.2) (.string t309)) (fun _ hk => hk.2) (.slice Ao50 t310.length co50)) (fun _ hk => hk.2) (.slice Ao51 t313.length co51)) (fun _ hk => ⟨hk.1.1, hk.1.2⟩))⟩
     have n2_ : Aside0 (Kd.R k170 170 ((((((w45.setCell ⟨gb316, 0, none⟩ (.int .i64 t306)).setCell ⟨gb316, 1, none⟩ (.int .i64 t307)).setCell ⟨gb316, 2, none⟩ (.int .i64 t308)).setCell ⟨gb316, 3, none⟩ (.string t309)).setCell ⟨gb316, 4, none⟩ (.slice Ao50 t310.length co50)).setCell ⟨gb316, 5, none⟩ (.slice Ao51 t313.length co51)) w.heap.size (fun k_ => some k_ ≠ (v288 : Value).ownBlock ∧ some k_ ≠ (.slice Ao50 t310.length co50 : Value).ownBlock) (.slice Ao37 t299.length co37) t299) := ⟨(by (with_reducible repeat (first | apply Kd.R_alloc | apply Kd.R_drewN | apply Kd.R_drew)); exact Kd.R_mono (Kd.R_far (p := ⟨gb316, 5, none⟩) (Kd.R_far (p := ⟨gb316, 4, none⟩) (Kd.R_far (p := ⟨gb316, 3, none⟩) (Kd.R_far (p := ⟨gb316, 2, none⟩) (Kd.R_far (p := ⟨gb316, 1, none⟩) (Kd.R_far (p := ⟨gb316, 0, none⟩) (Kd.R_types HO301.out BK316.out (by decide)) (fun _ hk => hk.2) (.int .i64 t306)) (fun _ hk => hk.2) (.int .i64 t307)) (fun _ hk => hk.2) (.int .i64 t308)) (fun _ hk => hk.2) (.string t309)) (fun _ hk => hk.2) (.slice Ao50 t310.length co50)) (fun _ hk => hk.2) (.slice Ao51 t313.length co51)) (fun _ hk => ⟨hk.1.1, hk.1.2⟩))⟩
     have n3_ : Aside0 (Kd.R k59 59 ((((((w45.setCell ⟨gb316, 0, none⟩ (.int .i64 t306)).setCell ⟨gb316, 1, none⟩ (.int .i64 t307)).setCell ⟨gb316, 2, none⟩ (.int .i64 t308)).setCell ⟨gb316, 3, none⟩ (.string t309)).setCell ⟨gb316, 4, none⟩ (.slice Ao50 t310.length co50)).setCell ⟨gb316, 5, none⟩ (.slice Ao51 t313.length co51)) w.heap.size (fun k_ => some k_ ≠ (v291 : Value).ownBlock ∧ some k_ ≠ (.slice Ao51 t313.length co51 : Value).ownBlock) (.slice Ao39 t302.length co39) t302) := ⟨(by (with_reducible repeat (first | apply Kd.R_alloc | apply Kd.R_drewN | apply Kd.R_drew)); exact Kd.R_mono (Kd.R_far (p := ⟨gb316, 5, none⟩) (Kd.R_far (p := ⟨gb316, 4, none⟩) (Kd.R_far (p := ⟨gb316, 3, none⟩) (Kd.R_far (p := ⟨gb316, 2, none⟩) (Kd.R_far (p := ⟨gb316, 1, none⟩) (Kd.R_far (p := ⟨gb316, 0, none⟩) (Kd.R_types HO304.out BK316.out (by decide)) (fun _ hk => hk.2) (.int .i64 t306)) (fun _ hk => hk.2) (.int .i64 t307)) (fun _ hk => hk.2) (.int .i64 t308)) (fun _ hk => hk.2) (.string t309)) (fun _ hk => hk.2) (.slice Ao50 t310.length co50)) (fun _ hk => hk.2) (.slice Ao51 t313.length co51)) (fun _ hk => ⟨hk.1.1, hk.1.2⟩))⟩
     have n4_ : Aside0 (Kd.R k170 170 ((((((w45.setCell ⟨gb316, 0, none⟩ (.int .i64 t306)).setCell ⟨gb316, 1, none⟩ (.int .i64 t307)).setCell ⟨gb316, 2, none⟩ (.int .i64 t308)).setCell ⟨gb316, 3, none⟩ (.string t309)).setCell ⟨gb316, 4, none⟩ (.slice Ao50 t310.length co50)).setCell ⟨gb316, 5, none⟩ (.slice Ao51 t313.length co51)) w.heap.size (fun k_ => some k_ ≠ (v288 : Value).ownBlock ∧ some k_ ≠ (.slice Ao37 t299.length co37 : Value).ownBlock) (.slice Ao50 t310.length co50) t310) := ⟨(by (with_reducible repeat (first | apply Kd.R_alloc | apply Kd.R_drewN | apply Kd.R_drew)); exact Kd.R_mono (Kd.R_far (p := ⟨gb316, 5, none⟩) (Kd.R_far (p := ⟨gb316, 4, none⟩) (Kd.R_far (p := ⟨gb316, 3, none⟩) (Kd.R_far (p := ⟨gb316, 2, none⟩) (Kd.R_far (p := ⟨gb316, 1, none⟩) (Kd.R_far (p := ⟨gb316, 0, none⟩) (Kd.R_types HO312.out BK316.out (by decide)) (fun _ hk => hk.2) (.int .i64 t306)) (fun _ hk => hk.2) (.int .i64 t307)) (fun _ hk => hk.2) (.int .i64 t308)) (fun _ hk => hk.2) (.string t309)) (fun _ hk => hk.2) (.slice Ao50 t310.length co50)) (fun _ hk => hk.2) (.slice Ao51 t313.length co51)) (fun _ hk => ⟨hk.1.1.2, hk.1.2⟩))⟩
     have n5_ : Aside0 (Kd.R k59 59 ((((((w45.setCell ⟨gb316, 0, none⟩ (.int .i64 t306)).setCell ⟨gb316, 1, none⟩ (.int .i64 t307)).setCell ⟨gb316, 2, none⟩ (.int .i64 t308)).setCell ⟨gb316, 3, none⟩ (.string t309)).setCell ⟨gb316, 4, none⟩ (.slice Ao50 t310.length co50)).setCell ⟨gb316, 5, none⟩ (.slice Ao51 t313.length co51)) w.heap.size (fun k_ => some k_ ≠ (v291 : Value).ownBlock ∧ some k_ ≠ (.slice Ao39 t302.length co39 : Value).ownBlock) (.slice Ao51 t313.length co51) t313) := ⟨(by (with_reducible repeat (first | apply Kd.R_alloc | apply Kd.R_drewN | apply Kd.R_drew)); exact Kd.R_mono (Kd.R_far (p := ⟨gb316, 5, none⟩) (Kd.R_far (p := ⟨gb316, 4, none⟩) (Kd.R_far (p := ⟨gb316, 3, none⟩) (Kd.R_far (p := ⟨gb316, 2, none⟩) (Kd.R_far (p := ⟨gb316, 1, none⟩) (Kd.R_far (p := ⟨gb316, 0, none⟩) (Kd.R_types HO315.out BK316.out (by decide)) (fun _ hk => hk.2) (.int .i64 t306)) (fun _ hk => hk.2) (.int .i64 t307)) (fun _ hk => hk.2) (.int .i64 t308)) (fun _ hk => hk.2) (.string t309)) (fun _ hk => hk.2) (.slice Ao50 t310.length co50)) (fun _ hk => hk.2) (.slice Ao51 t313.length co51)) (fun _ hk => ⟨hk.1.1.2, hk.1.2⟩))⟩
     have n6_ : Aside0 (((((((w45.setCell ⟨gb316, 0, none⟩ (.int .i64 t306)).setCell ⟨gb316, 1, none⟩ (.int .i64 t307)).setCell ⟨gb316, 2, none⟩ (.int .i64 t308)).setCell ⟨gb316, 3, none⟩ (.string t309)).setCell ⟨gb316, 4, none⟩ (.slice Ao50 t310.length co50)).setCell ⟨gb316, 5, none⟩ (.slice Ao51 t313.length co51)).heap[gb279]? = some (.cells #[.int .i64 a0_0, .int .i64 a0_1, .int .i64 a0_2, .string a0_3, .slice A0_4 l0_4.length c0_4, .slice A0_5 l0_5.length c0_5] 44 (0, 0))) := ⟨(by (with_reducible repeat (first | refine blk_drewN ?_ _ | refine blk_drew ?_ | refine blk_alloc ?_ _)); refine blk_far ?_ NB279_316.out _; (with_reducible repeat (first | refine blk_drewN ?_ _ | refine blk_drew ?_ | refine blk_alloc ?_ _)); refine blk_far ?_ NB279_316.out _; (with_reducible repeat (first | refine blk_drewN ?_ _ | refine blk_drew ?_ | refine blk_alloc ?_ _)); refine blk_far ?_ NB279_316.out _; (with_reducible repeat (first | refine blk_drewN ?_ _ | refine blk_drew ?_ | refine blk_alloc ?_ _)); refine blk_far ?_ NB279_316.out _; (with_reducible repeat (first | refine blk_drewN ?_ _ | refine blk_drew ?_ | refine blk_alloc ?_ _)); refine blk_far ?_ NB279_316.out _; (with_reducible repeat (first | refine blk_drewN ?_ _ | refine blk_drew ?_ | refine blk_alloc ?_ _)); refine blk_far ?_ NB279_316.out _; (with_reducible repeat (first | refine blk_drewN ?_ _ | refine blk_drew ?_ | refine blk_alloc ?_ _)); exact BK279.out)⟩
     have n7_ : Aside0 (((((((w45.setCell ⟨gb316, 0, none⟩ (.int .i64 t306)).setCell ⟨gb316, 1, none⟩ (.int .i64 t307)).setCell ⟨gb316, 2, none⟩ (.int .i64 t308)).setCell ⟨gb316, 3, none⟩ (.string t309)).setCell ⟨gb316, 4, none⟩ (.slice Ao50 t310.length co50)).setCell ⟨gb316, 5, none⟩ (.slice Ao51 t313.length co51)).heap[gb280]? = some (.cells #[.int .i64 a1_0, .string a1_1] 56 (0, 0))) := ⟨(by (with_reducible repeat (first | refine blk_drewN ?_ _ | refine blk_drew ?_ | refine blk_alloc ?_ _)); refine blk_far ?_ NB280_316.out _; (with_reducible repeat (first | refine blk_drewN ?_ _ | refine blk_drew ?_ | refine blk_alloc ?_ _)); refine blk_far ?_ NB280_316.out _; (with_reducible repeat (first | refine blk_drewN ?_ _ | refine blk_drew ?_ | refine blk_alloc ?_ _)); refine blk_far ?_ NB280_316.out _; (with_reducible repeat (first | refine blk_drewN ?_ _ | refine blk_drew ?_ | refine blk_alloc ?_ _)); refine blk_far ?_ NB280_316.out _; (with_reducible repeat (first | refine blk_drewN ?_ _ | refine blk_drew ?_ | refine blk_alloc ?_ _)); refine blk_far ?_ NB280_316.out _; (with_reducible repeat (first | refine blk_drewN ?_ _ | refine blk_drew ?_ | refine blk_alloc ?_ _)); refine blk_far ?_ NB280_316.out _; (with_reducible repeat (first | refine blk_drewN ?_ _ | refine blk_drew ?_ | refine blk_alloc ?_ _)); exact BK280.out)⟩
     have n8_ : Aside0 (((((((w45.setCell ⟨gb316, 0, none⟩ (.int .i64 t306)).setCell ⟨gb316, 1, none⟩ (.int .i64 t307)).setCell ⟨gb316, 2, none⟩ (.int .i64 t308)).setCell ⟨gb316, 3, none⟩ (.string t309)).setCell ⟨gb316, 4, none⟩ (.slice Ao50 t310.length co50)).setCell ⟨gb316, 5, none⟩ (.slice Ao51 t313.length co51)).heap[gb305]? = some (.cells #[.int .i64 t295, .int .i64 t296, .int .i64 t297, .string t298, .slice Ao37 t299.length co37, .slice Ao39 t302.length co39] 49 (0, 0))) := ⟨(by (with_reducible repeat (first | refine blk_drewN ?_ _ | refine blk_drew ?_ | refine blk_alloc ?_ _)); refine blk_far ?_ NB305_316.out _; (with_reducible repeat (first | refine blk_drewN ?_ _ | refine blk_drew ?_ | refine blk_alloc ?_ _)); refine blk_far ?_ NB305_316.out _; (with_reducible repeat (first | refine blk_drewN ?_ _ | refine blk_drew ?_ | refine blk_alloc ?_ _)); refine blk_far ?_ NB305_316.out _; (with_reducible repeat (first | refine blk_drewN ?_ _ | refine blk_drew ?_ | refine blk_alloc ?_ _)); refine blk_far ?_ NB305_316.out _; (with_reducible repeat (first | refine blk_drewN ?_ _ | refine blk_drew ?_ | refine blk_alloc ?_ _)); refine blk_far ?_ NB305_316.out _; (with_reducible repeat (first | refine blk_drewN ?_ _ | refine blk_drew ?_ | refine blk_alloc ?_ _)); refine blk_far ?_ NB305_316.out _; (with_reducible repeat (first | refine blk_drewN ?_ _ | refine blk_drew ?_ | refine blk_alloc ?_ _)); exact BK305.out)⟩
     have n9_ : Aside0 (((((((w45.setCell ⟨gb316, 0, none⟩ (.int .i64 t306)).setCell ⟨gb316, 1, none⟩ (.int .i64 t307)).setCell ⟨gb316, 2, none⟩ (.int .i64 t308)).setCell ⟨gb316, 3, none⟩ (.string t309)).setCell ⟨gb316, 4, none⟩ (.slice Ao50 t310.length co50)).setCell ⟨gb316, 5, none⟩ (.slice Ao51 t313.length co51)).heap[gb316]? = some (.cells #[.int .i64 t306, .int .i64 t307, .int .i64 t308, .string t309, .slice Ao50 t310.length co50, .slice Ao51 t313.length co51] 49 (0, 0))) := ⟨(by (with_reducible repeat (first | refine blk_drewN ?_ _ | refine blk_drew ?_ | refine blk_alloc ?_ _)); refine blk_put (cs := #[.int .i64 t306, .int .i64 t307, .int .i64 t308, .string t309, .slice Ao50 t310.length co50, .slice none 0 0]) ?_ 5 _ rfl; (with_reducible repeat (first | refine blk_drewN ?_ _ | refine blk_drew ?_ | refine blk_alloc ?_ _)); refine blk_put (cs := #[.int .i64 t306, .int .i64 t307, .int .i64 t308, .string t309, .slice none 0 0, .slice none 0 0]) ?_ 4 _ rfl; (with_reducible repeat (first | refine blk_drewN ?_ _ | refine blk_drew ?_ | refine blk_alloc ?_ _)); refine blk_put (cs := #[.int .i64 t306, .int .i64 t307, .int .i64 t308, .string (⟨#[]⟩ : ByteArray), .slice none 0 0, .slice none 0 0]) ?_ 3 _ rfl; (with_reducible repeat (first | refine blk_drewN ?_ _ | refine blk_drew ?_ | refine blk_alloc ?_ _)); refine blk_put (cs := #[.int .i64 t306, .int .i64 t307, .int .i64 0, .string (⟨#[]⟩ : ByteArray), .slice none 0 0, .slice none 0 0]) ?_ 2 _ rfl; (with_reducible repeat (first | refine blk_drewN ?_ _ | refine blk_drew ?_ | refine blk_alloc ?_ _)); refine blk_put (cs := #[.int .i64 t306, .int .i64 0, .int .i64 0, .string (⟨#[]⟩ : ByteArray), .slice none 0 0, .slice none 0 0]) ?_ 1 _ rfl; (with_reducible repeat (first | refine blk_drewN ?_ _ | refine blk_drew ?_ | refine blk_alloc ?_ _)); refine blk_put (cs := #[.int .i64 0, .int .i64 0, .int .i64 0, .string (⟨#[]⟩ : ByteArray), .slice none 0 0, .slice none 0 0]) ?_ 0 _ rfl; (with_reducible repeat (first | refine blk_drewN ?_ _ | refine blk_drew ?_ | refine blk_alloc ?_ _)); exact BK316.out)⟩
     have n10_ : Aside0 (Below w.heap.size w ((((((w45.setCell ⟨gb316, 0, none⟩ (.int .i64 t306)).setCell ⟨gb316, 1, none⟩ (.int .i64 t307)).setCell ⟨gb316, 2, none⟩ (.int .i64 t308)).setCell ⟨gb316, 3, none⟩ (.string t309)).setCell ⟨gb316, 4, none⟩ (.slice Ao50 t310.length co50)).setCell ⟨gb316, 5, none⟩ (.slice Ao51 t313.length co51))) := ⟨tq_14⟩
     (try clear HO289)
     (try clear HO292)
     (try clear HO301)
     (try clear HO304)
     (try clear HO312)
     (try clear HO315)
     (try clear BK279)
     (try clear BK280)
     (try clear BK305)
     (try clear BK316)
     (try clear HB)
     generalize ((((((w45.setCell ⟨gb316, 0, none⟩ (.int .i64 t306)).setCell ⟨gb316, 1, none⟩ (.int .i64 t307)).setCell ⟨gb316, 2, none⟩ (.int .i64 t308)).setCell ⟨gb316, 3, none⟩ (.string t309)).setCell ⟨gb316, 4, none⟩ (.slice Ao50 t310.length co50)).setCell ⟨gb316, 5, none⟩ (.slice Ao51 t313.length co51)) = w52 at n0_ n1_ n2_ n3_ n4_ n5_ n6_ n7_ n8_ n9_ n10_ ⊢
     have HO289 := n0_
     have HO292 := n1_
     have HO301 := n2_
     have HO304 := n3_
     have HO312 := n4_
     have HO315 := n5_
     have BK279 := n6_
     have BK280 := n7_
     have BK305 := n8_
     have BK316 := n9_
     have HB := n10_
     clear n0_ n1_ n2_ n3_ n4_ n5_ n6_ n7_ n8_ n9_ n10_
     have z_ := p_ (Kd.R_drew HO289.out) <| p_ (Kd.R_drew HO292.out) <| p_ (Kd.R_drew HO301.out) <| p_ (Kd.R_drew HO304.out) <| p_ (Kd.R_drew HO312.out) <| p_ (Kd.R_drew HO315.out) <| p_ (blk_drew BK279.out) <| p_ (blk_drew BK280.out) <| p_ (blk_drew BK305.out) <| p_ (blk_drew BK316.out) <| a_ (below_drew1 HB.out)
     clear HO289 HO292 HO301 HO304 HO312 HO315 BK279 BK280 BK305 BK316 HB
     obtain ⟨HO289, HO292, HO301, HO304, HO312, HO315, BK279, BK280, BK305, BK316, HB⟩ := z_
     refine start_ (n := 6) (S := fun w' => w'.cell? ⟨gb316, 0, none⟩ = some (.int .i64 t306) ∧ w'.cell? ⟨gb316, 1, none⟩ = some (.int .i64 t307) ∧ w'.cell? ⟨gb316, 2, none⟩ = some (.int .i64 t308) ∧ w'.cell? ⟨gb316, 3, none⟩ = some (.string t309) ∧ w'.cell? ⟨gb316, 4, none⟩ = some (.slice Ao50 t310.length co50) ∧ w'.cell? ⟨gb316, 5, none⟩ = some (.slice Ao51 t313.length co51) ∧ w'.cell? ⟨gb280, 0, none⟩ = some (.int .i64 a1_0) ∧ w'.cell? ⟨gb280, 1, none⟩ = some (.string a1_1)) (ds := []) #[false, false, false, false, false, false] (by kernel_rfl) rfl rfl (bc6_ BK316.out (bk2_ BK280.out)) (fun hHeld => ?_)
     generalize w52.drew = w53 at HO289 HO292 HO301 HO304 HO312 HO315 BK279 BK280 BK305 BK316 HB hHeld ⊢
     refine take_ (i := 0) (N := some 30) (v := ?_) (a' := ?_) #[true, false, false, false, false, false] rfl rfl (by kernel_rfl) (fun _ _ _ h => h) (Or.inl ⟨(by rfl), ?_⟩) hHeld ?_ ?_
     rotate_left
     ·rintro w' ⟨s0, s1, s2, s3, s4, s5, s6, s7⟩
      go_simp
      with_reducible rfl
     rotate_left
     ·simp only [Act.put, List.setIfInBounds_toArray, List.set_cons_zero, List.set_cons_succ, i64_w, i32_w]
      rfl
     refine take_ (i := 1) (N := some 31) (v := ?_) (a' := ?_) #[true, true, false, false, false, false] rfl rfl (by kernel_rfl) (fun _ _ _ h => h) (Or.inl ⟨(by rfl), ?_⟩) hHeld ?_ ?_
     rotate_left
     ·rintro w' ⟨s0, s1, s2, s3, s4, s5, s6, s7⟩
      go_simp
      with_reducible rfl
     rotate_left
     ·simp only [Act.put, List.setIfInBounds_toArray, List.set_cons_zero, List.set_cons_succ, i64_w, i32_w]
      rfl
     refine join_ (σ := Value × Value × Nat) 1 bq_33 (fun s_ => [(32, .agg #[.int .i64 t317, .string t318]), (33, .agg #[.int .i64 t319, .int .i64 t320, .int .i64 t321, .string t322, s_.1, s_.2.1]), (8, .pointer (some ⟨s_.2.2, 0, none⟩))]) (fun s_ w' => (w'.cell? ⟨gb316, 0, none⟩ = some (.int .i64 t306) ∧ w'.cell? ⟨gb316, 1, none⟩ = some (.int .i64 t307) ∧ w'.cell? ⟨gb316, 2, none⟩ = some (.int .i64 t308) ∧ w'.cell? ⟨gb316, 3, none⟩ = some (.string t309) ∧ w'.cell? ⟨gb316, 4, none⟩ = some (.slice Ao50 t310.length co50) ∧ w'.cell? ⟨gb316, 5, none⟩ = some (.slice Ao51 t313.length co51) ∧ w'.cell? ⟨gb280, 0, none⟩ = some (.int .i64 a1_0) ∧ w'.cell? ⟨gb280, 1, none⟩ = some (.string a1_1)) ∧ (Kd.R k170 170 w' w.heap.size (fun k_ => some k_ ≠ (.slice Ao37 t299.length co37 : Value).ownBlock ∧ some k_ ≠ (.slice Ao50 t310.length co50 : Value).ownBlock ∧ some k_ ≠ (s_.1 : Value).ownBlock) v288 t287) ∧ (Kd.R k59 59 w' w.heap.size (fun k_ => some k_ ≠ (.slice Ao39 t302.length co39 : Value).ownBlock ∧ some k_ ≠ (.slice Ao51 t313.length co51 : Value).ownBlock ∧ some k_ ≠ (s_.2.1 : Value).ownBlock) v291 t290) ∧ (Kd.R k170 170 w' w.heap.size (fun k_ => some k_ ≠ (v288 : Value).ownBlock ∧ some k_ ≠ (.slice Ao50 t310.length co50 : Value).ownBlock ∧ some k_ ≠ (s_.1 : Value).ownBlock) (.slice Ao37 t299.length co37) t299) ∧ (Kd.R k59 59 w' w.heap.size (fun k_ => some k_ ≠ (v291 : Value).ownBlock ∧ some k_ ≠ (.slice Ao51 t313.length co51 : Value).ownBlock ∧ some k_ ≠ (s_.2.1 : Value).ownBlock) (.slice Ao39 t302.length co39) t302) ∧ (Kd.R k170 170 w' w.heap.size (fun k_ => some k_ ≠ (v288 : Value).ownBlock ∧ some k_ ≠ (.slice Ao37 t299.length co37 : Value).ownBlock ∧ some k_ ≠ (s_.1 : Value).ownBlock) (.slice Ao50 t310.length co50) t310) ∧ (Kd.R k59 59 w' w.heap.size (fun k_ => some k_ ≠ (v291 : Value).ownBlock ∧ some k_ ≠ (.slice Ao39 t302.length co39 : Value).ownBlock ∧ some k_ ≠ (s_.2.1 : Value).ownBlock) (.slice Ao51 t313.length co51) t313) ∧ (Kd.R k170 170 w' w.heap.size (fun k_ => some k_ ≠ (v288 : Value).ownBlock ∧ some k_ ≠ (.slice Ao37 t299.length co37 : Value).ownBlock ∧ some k_ ≠ (.slice Ao50 t310.length co50 : Value).ownBlock) s_.1 t323) ∧ (Kd.R k59 59 w' w.heap.size (fun k_ => some k_ ≠ (v291 : Value).ownBlock ∧ some k_ ≠ (.slice Ao39 t302.length co39 : Value).ownBlock ∧ some k_ ≠ (.slice Ao51 t313.length co51 : Value).ownBlock) s_.2.1 t326) ∧ (w'.heap[gb279]? = some (.cells #[.int .i64 a0_0, .int .i64 a0_1, .int .i64 a0_2, .string a0_3, .slice A0_4 l0_4.length c0_4, .slice A0_5 l0_5.length c0_5] 44 (0, 0))) ∧ (w'.heap[gb280]? = some (.cells #[.int .i64 a1_0, .string a1_1] 56 (0, 0))) ∧ (w'.heap[gb305]? = some (.cells #[.int .i64 t295, .int .i64 t296, .int .i64 t297, .string t298, .slice Ao37 t299.length co37, .slice Ao39 t302.length co39] 49 (0, 0))) ∧ (w'.heap[gb316]? = some (.cells #[.int .i64 t306, .int .i64 t307, .int .i64 t308, .string t309, .slice Ao50 t310.length co50, .slice Ao51 t313.length co51] 49 (0, 0))) ∧ (w'.heap[s_.2.2]? = some (.cells #[.int .i64 0, .int .i64 0, .int .i64 0, .string (⟨#[]⟩ : ByteArray), .slice none 0 0, .slice none 0 0] 49 (0, 0))) ∧ (w.heap.size ≤ s_.2.2) ∧ (w.heap.size ≤ s_.2.2) ∧ (gb279 ≠ s_.2.2) ∧ (s_.2.2 ≠ gb279) ∧ (gb280 ≠ s_.2.2) ∧ (s_.2.2 ≠ gb280) ∧ (gb305 ≠ s_.2.2) ∧ (s_.2.2 ≠ gb305) ∧ (gb316 ≠ s_.2.2) ∧ (s_.2.2 ≠ gb316) ∧ (Below w.heap.size w w')) ?_ ?_
     rotate_left
     ·intro hCont
      refine two_ (i := 2) (j := 4) (Ni := some 32) (Nj := some 8) #[true, true, true, false, false, false] #[true, true, false, false, true, false] rfl rfl rfl rfl (by kernel_rfl) (by decide) (by decide) (fun K hK => ?_) (fun K hK => ?_)
      ·skip
       refine goes_ Try.func35 (by kernel_rfl) rfl #[.agg #[.int .i64 a1_0, .string a1_1]] (by rfl) rfl rfl tq_2 ?_
       with_reducible refine (laws_toEntry.calls a1_0 a1_1 t317 t318 _ A21.out).mono ?_
       rintro e w54 ⟨rfl, hb⟩
       refine ⟨_, rfl, ?_⟩
       have z_ := p_ (Kd.R_below tq_28 hb) <| p_ (Kd.R_below tq_27 hb) <| p_ (Kd.R_below tq_48 hb) <| p_ (Kd.R_below tq_47 hb) <| p_ (Kd.R_below tq_54 hb) <| p_ (Kd.R_below tq_53 hb) <| p_ (blk_below tq_3 hb) <| p_ (blk_below tq_4 hb) <| p_ (blk_below tq_6 hb) <| p_ (blk_below tq_8 hb) <| a_ (below_step tq_14 hb)
       clear HO289 HO292 HO301 HO304 HO312 HO315 BK279 BK280 BK305 BK316 HB
       obtain ⟨HO289, HO292, HO301, HO304, HO312, HO315, BK279, BK280, BK305, BK316, HB⟩ := z_
       (try clear hb)
       (try clear hb2)
       (try clear hk)
       (try clear hi)
       refine hK.out _ _ (bc6_ BK316.out (bk2_ BK280.out)) (fun hHeld => ?_)
       clear hK K
       refine nm_ (some 32) ?_
       refine two_ (i := 3) (j := 4) (Ni := some 33) (Nj := some 8) #[true, true, true, true, false, false] #[true, true, true, false, true, false] rfl rfl rfl rfl (by kernel_rfl) (by decide) (by decide) (fun K hK => ?_) (fun K hK => ?_)
       ·skip
        refine goes_ Try.func36 (by kernel_rfl) rfl #[.agg #[.int .i64 t306, .int .i64 t307, .int .i64 t308, .string t309, .slice Ao50 t310.length co50, .slice Ao51 t313.length co51], .agg #[.int .i64 t317, .string t318]] (by rfl) rfl rfl tq_2 ?_
        with_reducible refine (impl_WithEntry.calls t306 t307 t308 t309 _ _ t310 _ _ t313 t317 t318 t319 t320 t321 t322 t323 t326 _ ?side1 ?side2 ?side3 ?side4 A22.out).mono ?_
        (case side1 => exact tq_139)
        (case side2 => exact (Kd.R_reads' HO312.out).2.1)
        (case side3 => exact tq_138)
        (case side4 => exact (Kd.R_reads' HO315.out).2.1)
        rintro e w55 ⟨v324, v327, rfl, ho0, ho1, hb⟩
        refine ⟨_, rfl, ?_⟩
        have z_ := p_ (Kd.R_elder' tq_28 (Kd.R_base ho0) hb) <| p_ (Kd.R_elder' tq_27 (Kd.R_base ho1) hb) <| p_ (Kd.R_elder' tq_48 (Kd.R_base ho0) hb) <| p_ (Kd.R_elder' tq_47 (Kd.R_base ho1) hb) <| p_ (Kd.R_elder' tq_54 (Kd.R_base ho0) hb) <| p_ (Kd.R_elder' tq_53 (Kd.R_base ho1) hb) <| p_ (Kd.R_lower (Kd.R_new' (Kd.R_new' (Kd.R_new' ho0 (Kd.R_lt tq_28)) (Kd.R_lt tq_48)) (Kd.R_lt tq_54)) (below_size tq_14)) <| p_ (Kd.R_lower (Kd.R_new' (Kd.R_new' (Kd.R_new' ho1 (Kd.R_lt tq_27)) (Kd.R_lt tq_47)) (Kd.R_lt tq_53)) (below_size tq_14)) <| p_ (blk_below tq_3 hb) <| p_ (blk_below tq_4 hb) <| p_ (blk_below tq_6 hb) <| p_ (blk_below tq_8 hb) <| a_ (below_step tq_14 hb)
        clear HO289 HO292 HO301 HO304 HO312 HO315 BK279 BK280 BK305 BK316 HB
        obtain ⟨HO289, HO292, HO301, HO304, HO312, HO315, HO325, HO328, BK279, BK280, BK305, BK316, HB⟩ := z_
        (try clear hb)
        (try clear hb2)
        (try clear hk)
        (try clear hi)
        (try clear ho0)
        (try clear ho1)
        refine hK.out _ _ (bc6_ BK316.out (bk2_ BK280.out)) (fun hHeld => ?_)
        clear hK K
        refine nm_ (some 33) ?_
        refine one_ (i := 4) (N := some 8) bq_33 rfl rfl (by kernel_rfl) (by decide) (fun K hK => ?_)
        refine box_step ?hg (N := 8) ?hd (cs := #[.int .i64 0, .int .i64 0, .int .i64 0, .string (⟨#[]⟩ : ByteArray), .slice none 0 0, .slice none 0 0]) (t := 49) ?hr ?_; (case hd => rfl); (case hg => rfl); (case hr => first | (go_simp; done) | (go_simp; rfl))
        intro gb329 hg w56 hbox hb
        have z_ := p_ (Kd.R_below tq_28 hb) <| p_ (Kd.R_below tq_27 hb) <| p_ (Kd.R_below tq_48 hb) <| p_ (Kd.R_below tq_47 hb) <| p_ (Kd.R_below tq_54 hb) <| p_ (Kd.R_below tq_53 hb) <| p_ (Kd.R_below (by (with_reducible repeat (first | apply Kd.R_alloc | apply Kd.R_drewN | apply Kd.R_drew)); exact HO325.out) hb) <| p_ (Kd.R_below (by (with_reducible repeat (first | apply Kd.R_alloc | apply Kd.R_drewN | apply Kd.R_drew)); exact HO328.out) hb) <| p_ (blk_below tq_3 hb) <| p_ (blk_below tq_4 hb) <| p_ (blk_below tq_6 hb) <| p_ (blk_below tq_8 hb) <| p_ (below_step tq_14 hb) <| p_ (hbox) <| p_ (gb_ hg tq_14) <| p_ (gb_ hg tq_14) <| p_ (ltne_ hg (blk_lt tq_3)) <| p_ (gtne_ hg (blk_lt tq_3)) <| p_ (ltne_ hg (blk_lt tq_4)) <| p_ (gtne_ hg (blk_lt tq_4)) <| p_ (ltne_ hg (blk_lt tq_6)) <| p_ (gtne_ hg (blk_lt tq_6)) <| p_ (ltne_ hg (blk_lt tq_8)) <| a_ (gtne_ hg (blk_lt tq_8))
        clear HO289 HO292 HO301 HO304 HO312 HO315 HO325 HO328 BK279 BK280 BK305 BK316 HB
        obtain ⟨HO289, HO292, HO301, HO304, HO312, HO315, HO325, HO328, BK279, BK280, BK305, BK316, HB, BK329, GW329, GE329, NB279_329, NB329_279, NB280_329, NB329_280, NB305_329, NB329_305, NB316_329, NB329_316⟩ := z_
        clear hb hbox hg
        refine hK.out _ _ (bc6_ BK316.out (bk2_ BK280.out)) (fun hHeld => ?_)
        clear hK K
        refine nm_ (some 8) ?_
        exact norm_ tq_65 (hCont (v324, v327, gb329) _ ⟨hHeld, tq_148, tq_147, tq_146, tq_145, tq_144, tq_143, tq_141, tq_140, tq_3, tq_4, tq_6, tq_8, tq_12, GW329.out, GE329.out, NB279_329.out, NB329_279.out, NB280_329.out, NB329_280.out, NB305_329.out, NB329_305.out, NB316_329.out, NB329_316.out, tq_1⟩)
       ·skip
        refine box_step ?hg (N := 8) ?hd (cs := #[.int .i64 0, .int .i64 0, .int .i64 0, .string (⟨#[]⟩ : ByteArray), .slice none 0 0, .slice none 0 0]) (t := 49) ?hr ?_; (case hd => rfl); (case hg => rfl); (case hr => first | (go_simp; done) | (go_simp; rfl))
        intro gb329 hg w55 hbox hb
        have z_ := p_ (Kd.R_below tq_28 hb) <| p_ (Kd.R_below tq_27 hb) <| p_ (Kd.R_below tq_48 hb) <| p_ (Kd.R_below tq_47 hb) <| p_ (Kd.R_below tq_54 hb) <| p_ (Kd.R_below tq_53 hb) <| p_ (blk_below tq_3 hb) <| p_ (blk_below tq_4 hb) <| p_ (blk_below tq_6 hb) <| p_ (blk_below tq_8 hb) <| p_ (below_step tq_14 hb) <| p_ (hbox) <| p_ (gb_ hg tq_14) <| p_ (gb_ hg tq_14) <| p_ (ltne_ hg (blk_lt tq_3)) <| p_ (gtne_ hg (blk_lt tq_3)) <| p_ (ltne_ hg (blk_lt tq_4)) <| p_ (gtne_ hg (blk_lt tq_4)) <| p_ (ltne_ hg (blk_lt tq_6)) <| p_ (gtne_ hg (blk_lt tq_6)) <| p_ (ltne_ hg (blk_lt tq_8)) <| a_ (gtne_ hg (blk_lt tq_8))
        clear HO289 HO292 HO301 HO304 HO312 HO315 BK279 BK280 BK305 BK316 HB
        obtain ⟨HO289, HO292, HO301, HO304, HO312, HO315, BK279, BK280, BK305, BK316, HB, BK329, GW329, GE329, NB279_329, NB329_279, NB280_329, NB329_280, NB305_329, NB329_305, NB316_329, NB329_316⟩ := z_
        clear hb hbox hg
        refine hK.out _ _ (bc6_ BK316.out (bk2_ BK280.out)) (fun hHeld => ?_)
        clear hK K
        refine nm_ (some 8) ?_
        refine one_ (i := 3) (N := some 33) bq_33 rfl rfl (by kernel_rfl) (by decide) (fun K hK => ?_)
        refine goes_ Try.func36 (by kernel_rfl) rfl #[.agg #[.int .i64 t306, .int .i64 t307, .int .i64 t308, .string t309, .slice Ao50 t310.length co50, .slice Ao51 t313.length co51], .agg #[.int .i64 t317, .string t318]] (by rfl) rfl rfl tq_2 ?_
        with_reducible refine (impl_WithEntry.calls t306 t307 t308 t309 _ _ t310 _ _ t313 t317 t318 t319 t320 t321 t322 t323 t326 _ ?side1 ?side2 ?side3 ?side4 A22.out).mono ?_
        (case side1 => exact tq_139)
        (case side2 => exact (Kd.R_reads' HO312.out).2.1)
        (case side3 => exact tq_138)
        (case side4 => exact (Kd.R_reads' HO315.out).2.1)
        rintro e w56 ⟨v324, v327, rfl, ho0, ho1, hb⟩
        refine ⟨_, rfl, ?_⟩
        have z_ := p_ (Kd.R_elder' tq_28 (Kd.R_base ho0) hb) <| p_ (Kd.R_elder' tq_27 (Kd.R_base ho1) hb) <| p_ (Kd.R_elder' tq_48 (Kd.R_base ho0) hb) <| p_ (Kd.R_elder' tq_47 (Kd.R_base ho1) hb) <| p_ (Kd.R_elder' tq_54 (Kd.R_base ho0) hb) <| p_ (Kd.R_elder' tq_53 (Kd.R_base ho1) hb) <| p_ (Kd.R_lower (Kd.R_new' (Kd.R_new' (Kd.R_new' ho0 (Kd.R_lt tq_28)) (Kd.R_lt tq_48)) (Kd.R_lt tq_54)) (below_size tq_1)) <| p_ (Kd.R_lower (Kd.R_new' (Kd.R_new' (Kd.R_new' ho1 (Kd.R_lt tq_27)) (Kd.R_lt tq_47)) (Kd.R_lt tq_53)) (below_size tq_1)) <| p_ (blk_below tq_3 hb) <| p_ (blk_below tq_4 hb) <| p_ (blk_below tq_6 hb) <| p_ (blk_below tq_8 hb) <| p_ (blk_below tq_12 hb) <| a_ (below_step tq_1 hb)
        clear HO289 HO292 HO301 HO304 HO312 HO315 BK279 BK280 BK305 BK316 BK329 HB
        obtain ⟨HO289, HO292, HO301, HO304, HO312, HO315, HO325, HO328, BK279, BK280, BK305, BK316, BK329, HB⟩ := z_
        (try clear hb)
        (try clear hb2)
        (try clear hk)
        (try clear hi)
        (try clear ho0)
        (try clear ho1)
        refine hK.out _ _ (bc6_ BK316.out (bk2_ BK280.out)) (fun hHeld => ?_)
        clear hK K
        refine nm_ (some 33) ?_
        exact norm_ tq_65 (hCont (v324, v327, gb329) _ ⟨hHeld, tq_148, tq_147, tq_146, tq_145, tq_144, tq_143, tq_141, tq_140, tq_3, tq_4, tq_6, tq_8, tq_12, GW329.out, GE329.out, NB279_329.out, NB329_279.out, NB280_329.out, NB329_280.out, NB305_329.out, NB329_305.out, NB316_329.out, NB329_316.out, tq_1⟩)
      ·skip
       refine box_step ?hg (N := 8) ?hd (cs := #[.int .i64 0, .int .i64 0, .int .i64 0, .string (⟨#[]⟩ : ByteArray), .slice none 0 0, .slice none 0 0]) (t := 49) ?hr ?_; (case hd => rfl); (case hg => rfl); (case hr => first | (go_simp; done) | (go_simp; rfl))
       intro gb329 hg w54 hbox hb
       have z_ := p_ (Kd.R_below tq_28 hb) <| p_ (Kd.R_below tq_27 hb) <| p_ (Kd.R_below tq_48 hb) <| p_ (Kd.R_below tq_47 hb) <| p_ (Kd.R_below tq_54 hb) <| p_ (Kd.R_below tq_53 hb) <| p_ (blk_below tq_3 hb) <| p_ (blk_below tq_4 hb) <| p_ (blk_below tq_6 hb) <| p_ (blk_below tq_8 hb) <| p_ (below_step tq_14 hb) <| p_ (hbox) <| p_ (gb_ hg tq_14) <| p_ (gb_ hg tq_14) <| p_ (ltne_ hg (blk_lt tq_3)) <| p_ (gtne_ hg (blk_lt tq_3)) <| p_ (ltne_ hg (blk_lt tq_4)) <| p_ (gtne_ hg (blk_lt tq_4)) <| p_ (ltne_ hg (blk_lt tq_6)) <| p_ (gtne_ hg (blk_lt tq_6)) <| p_ (ltne_ hg (blk_lt tq_8)) <| a_ (gtne_ hg (blk_lt tq_8))
       clear HO289 HO292 HO301 HO304 HO312 HO315 BK279 BK280 BK305 BK316 HB
       obtain ⟨HO289, HO292, HO301, HO304, HO312, HO315, BK279, BK280, BK305, BK316, HB, BK329, GW329, GE329, NB279_329, NB329_279, NB280_329, NB329_280, NB305_329, NB329_305, NB316_329, NB329_316⟩ := z_
       clear hb hbox hg
       refine hK.out _ _ (bc6_ BK316.out (bk2_ BK280.out)) (fun hHeld => ?_)
       clear hK K
       refine nm_ (some 8) ?_
       refine one_ (i := 2) (N := some 32) #[true, true, true, false, true, false] rfl rfl (by kernel_rfl) (by decide) (fun K hK => ?_)
       refine goes_ Try.func35 (by kernel_rfl) rfl #[.agg #[.int .i64 a1_0, .string a1_1]] (by rfl) rfl rfl tq_2 ?_
       with_reducible refine (laws_toEntry.calls a1_0 a1_1 t317 t318 _ A21.out).mono ?_
       rintro e w55 ⟨rfl, hb⟩
       refine ⟨_, rfl, ?_⟩
       have z_ := p_ (Kd.R_below tq_28 hb) <| p_ (Kd.R_below tq_27 hb) <| p_ (Kd.R_below tq_48 hb) <| p_ (Kd.R_below tq_47 hb) <| p_ (Kd.R_below tq_54 hb) <| p_ (Kd.R_below tq_53 hb) <| p_ (blk_below tq_3 hb) <| p_ (blk_below tq_4 hb) <| p_ (blk_below tq_6 hb) <| p_ (blk_below tq_8 hb) <| p_ (blk_below tq_12 hb) <| a_ (below_step tq_1 hb)
       clear HO289 HO292 HO301 HO304 HO312 HO315 BK279 BK280 BK305 BK316 BK329 HB
       obtain ⟨HO289, HO292, HO301, HO304, HO312, HO315, BK279, BK280, BK305, BK316, BK329, HB⟩ := z_
       (try clear hb)
       (try clear hb2)
       (try clear hk)
       (try clear hi)
       refine hK.out _ _ (bc6_ BK316.out (bk2_ BK280.out)) (fun hHeld => ?_)
       clear hK K
       refine nm_ (some 32) ?_
       refine one_ (i := 3) (N := some 33) bq_33 rfl rfl (by kernel_rfl) (by decide) (fun K hK => ?_)
       refine goes_ Try.func36 (by kernel_rfl) rfl #[.agg #[.int .i64 t306, .int .i64 t307, .int .i64 t308, .string t309, .slice Ao50 t310.length co50, .slice Ao51 t313.length co51], .agg #[.int .i64 t317, .string t318]] (by rfl) rfl rfl tq_2 ?_
       with_reducible refine (impl_WithEntry.calls t306 t307 t308 t309 _ _ t310 _ _ t313 t317 t318 t319 t320 t321 t322 t323 t326 _ ?side1 ?side2 ?side3 ?side4 A22.out).mono ?_
       (case side1 => exact tq_139)
       (case side2 => exact (Kd.R_reads' HO312.out).2.1)
       (case side3 => exact tq_138)
       (case side4 => exact (Kd.R_reads' HO315.out).2.1)
       rintro e w56 ⟨v324, v327, rfl, ho0, ho1, hb⟩
       refine ⟨_, rfl, ?_⟩
       have z_ := p_ (Kd.R_elder' tq_28 (Kd.R_base ho0) hb) <| p_ (Kd.R_elder' tq_27 (Kd.R_base ho1) hb) <| p_ (Kd.R_elder' tq_48 (Kd.R_base ho0) hb) <| p_ (Kd.R_elder' tq_47 (Kd.R_base ho1) hb) <| p_ (Kd.R_elder' tq_54 (Kd.R_base ho0) hb) <| p_ (Kd.R_elder' tq_53 (Kd.R_base ho1) hb) <| p_ (Kd.R_lower (Kd.R_new' (Kd.R_new' (Kd.R_new' ho0 (Kd.R_lt tq_28)) (Kd.R_lt tq_48)) (Kd.R_lt tq_54)) (below_size tq_1)) <| p_ (Kd.R_lower (Kd.R_new' (Kd.R_new' (Kd.R_new' ho1 (Kd.R_lt tq_27)) (Kd.R_lt tq_47)) (Kd.R_lt tq_53)) (below_size tq_1)) <| p_ (blk_below tq_3 hb) <| p_ (blk_below tq_4 hb) <| p_ (blk_below tq_6 hb) <| p_ (blk_below tq_8 hb) <| p_ (blk_below tq_12 hb) <| a_ (below_step tq_1 hb)
       clear HO289 HO292 HO301 HO304 HO312 HO315 BK279 BK280 BK305 BK316 BK329 HB
       obtain ⟨HO289, HO292, HO301, HO304, HO312, HO315, HO325, HO328, BK279, BK280, BK305, BK316, BK329, HB⟩ := z_
       (try clear hb)
       (try clear hb2)
       (try clear hk)
       (try clear hi)
       (try clear ho0)
       (try clear ho1)
       refine hK.out _ _ (bc6_ BK316.out (bk2_ BK280.out)) (fun hHeld => ?_)
       clear hK K
       refine nm_ (some 33) ?_
       exact norm_ tq_65 (hCont (v324, v327, gb329) _ ⟨hHeld, tq_148, tq_147, tq_146, tq_145, tq_144, tq_143, tq_141, tq_140, tq_3, tq_4, tq_6, tq_8, tq_12, GW329.out, GE329.out, NB279_329.out, NB329_279.out, NB280_329.out, NB329_280.out, NB305_329.out, NB329_305.out, NB316_329.out, NB329_316.out, tq_1⟩)
     rintro ⟨v324, v327, gb329⟩ w57 ⟨hS_, h0_, h1_, h2_, h3_, h4_, h5_, h6_, h7_, h8_, h9_, h10_, h11_, h12_, h13_, h14_, h15_, h16_, h17_, h18_, h19_, h20_, h21_, h22_, h23_⟩
     have z_ := q_ (⟨h0_⟩ : Aside0 (Kd.R k170 170 w57 w.heap.size (fun k_ => some k_ ≠ (.slice Ao37 t299.length co37 : Value).ownBlock ∧ some k_ ≠ (.slice Ao50 t310.length co50 : Value).ownBlock ∧ some k_ ≠ (v324 : Value).ownBlock) v288 t287)) <| q_ (⟨h1_⟩ : Aside0 (Kd.R k59 59 w57 w.heap.size (fun k_ => some k_ ≠ (.slice Ao39 t302.length co39 : Value).ownBlock ∧ some k_ ≠ (.slice Ao51 t313.length co51 : Value).ownBlock ∧ some k_ ≠ (v327 : Value).ownBlock) v291 t290)) <| q_ (⟨h2_⟩ : Aside0 (Kd.R k170 170 w57 w.heap.size (fun k_ => some k_ ≠ (v288 : Value).ownBlock ∧ some k_ ≠ (.slice Ao50 t310.length co50 : Value).ownBlock ∧ some k_ ≠ (v324 : Value).ownBlock) (.slice Ao37 t299.length co37) t299)) <| q_ (⟨h3_⟩ : Aside0 (Kd.R k59 59 w57 w.heap.size (fun k_ => some k_ ≠ (v291 : Value).ownBlock ∧ some k_ ≠ (.slice Ao51 t313.length co51 : Value).ownBlock ∧ some k_ ≠ (v327 : Value).ownBlock) (.slice Ao39 t302.length co39) t302)) <| q_ (⟨h4_⟩ : Aside0 (Kd.R k170 170 w57 w.heap.size (fun k_ => some k_ ≠ (v288 : Value).ownBlock ∧ some k_ ≠ (.slice Ao37 t299.length co37 : Value).ownBlock ∧ some k_ ≠ (v324 : Value).ownBlock) (.slice Ao50 t310.length co50) t310)) <| q_ (⟨h5_⟩ : Aside0 (Kd.R k59 59 w57 w.heap.size (fun k_ => some k_ ≠ (v291 : Value).ownBlock ∧ some k_ ≠ (.slice Ao39 t302.length co39 : Value).ownBlock ∧ some k_ ≠ (v327 : Value).ownBlock) (.slice Ao51 t313.length co51) t313)) <| q_ (⟨h6_⟩ : Aside0 (Kd.R k170 170 w57 w.heap.size (fun k_ => some k_ ≠ (v288 : Value).ownBlock ∧ some k_ ≠ (.slice Ao37 t299.length co37 : Value).ownBlock ∧ some k_ ≠ (.slice Ao50 t310.length co50 : Value).ownBlock) v324 t323)) <| q_ (⟨h7_⟩ : Aside0 (Kd.R k59 59 w57 w.heap.size (fun k_ => some k_ ≠ (v291 : Value).ownBlock ∧ some k_ ≠ (.slice Ao39 t302.length co39 : Value).ownBlock ∧ some k_ ≠ (.slice Ao51 t313.length co51 : Value).ownBlock) v327 t326)) <| q_ (⟨h8_⟩ : Aside0 (w57.heap[gb279]? = some (.cells #[.int .i64 a0_0, .int .i64 a0_1, .int .i64 a0_2, .string a0_3, .slice A0_4 l0_4.length c0_4, .slice A0_5 l0_5.length c0_5] 44 (0, 0)))) <| q_ (⟨h9_⟩ : Aside0 (w57.heap[gb280]? = some (.cells #[.int .i64 a1_0, .string a1_1] 56 (0, 0)))) <| q_ (⟨h10_⟩ : Aside0 (w57.heap[gb305]? = some (.cells #[.int .i64 t295, .int .i64 t296, .int .i64 t297, .string t298, .slice Ao37 t299.length co37, .slice Ao39 t302.length co39] 49 (0, 0)))) <| q_ (⟨h11_⟩ : Aside0 (w57.heap[gb316]? = some (.cells #[.int .i64 t306, .int .i64 t307, .int .i64 t308, .string t309, .slice Ao50 t310.length co50, .slice Ao51 t313.length co51] 49 (0, 0)))) <| q_ (⟨h12_⟩ : Aside0 (w57.heap[gb329]? = some (.cells #[.int .i64 0, .int .i64 0, .int .i64 0, .string (⟨#[]⟩ : ByteArray), .slice none 0 0, .slice none 0 0] 49 (0, 0)))) <| q_ (⟨h13_⟩ : Aside0 (w.heap.size ≤ gb329)) <| q_ (⟨h14_⟩ : Aside0 (w.heap.size ≤ gb329)) <| q_ (⟨h15_⟩ : Aside0 (gb279 ≠ gb329)) <| q_ (⟨h16_⟩ : Aside0 (gb329 ≠ gb279)) <| q_ (⟨h17_⟩ : Aside0 (gb280 ≠ gb329)) <| q_ (⟨h18_⟩ : Aside0 (gb329 ≠ gb280)) <| q_ (⟨h19_⟩ : Aside0 (gb305 ≠ gb329)) <| q_ (⟨h20_⟩ : Aside0 (gb329 ≠ gb305)) <| q_ (⟨h21_⟩ : Aside0 (gb316 ≠ gb329)) <| q_ (⟨h22_⟩ : Aside0 (gb329 ≠ gb316)) <| (⟨h23_⟩ : Aside0 (Below w.heap.size w w57))
     clear HO289 HO292 HO301 HO304 HO312 HO315 BK279 BK280 BK305 BK316 HB h0_ h1_ h2_ h3_ h4_ h5_ h6_ h7_ h8_ h9_ h10_ h11_ h12_ h13_ h14_ h15_ h16_ h17_ h18_ h19_ h20_ h21_ h22_ h23_
     obtain ⟨HO289, HO292, HO301, HO304, HO312, HO315, HO325, HO328, BK279, BK280, BK305, BK316, BK329, GW329, GE329, NB279_329, NB329_279, NB280_329, NB329_280, NB305_329, NB329_305, NB316_329, NB329_316, HB⟩ := z_
     have hHeld : w57.cell? ⟨gb316, 0, none⟩ = some (.int .i64 t306) ∧ w57.cell? ⟨gb316, 1, none⟩ = some (.int .i64 t307) ∧ w57.cell? ⟨gb316, 2, none⟩ = some (.int .i64 t308) ∧ w57.cell? ⟨gb316, 3, none⟩ = some (.string t309) ∧ w57.cell? ⟨gb316, 4, none⟩ = some (.slice Ao50 t310.length co50) ∧ w57.cell? ⟨gb316, 5, none⟩ = some (.slice Ao51 t313.length co51) ∧ w57.cell? ⟨gb280, 0, none⟩ = some (.int .i64 a1_0) ∧ w57.cell? ⟨gb280, 1, none⟩ = some (.string a1_1) := hS_
     obtain ⟨Ao62, co62, eo62⟩ := Kd.R_slice HO325.out
     (first | subst eo62 | (injection eo62 with f1_ f2_ f3_; have f4_ := f1_.symm; have f5_ := f3_.symm; clear f1_ f2_ f3_; subst f4_; subst f5_))
     obtain ⟨Ao64, co64, eo64⟩ := Kd.R_slice HO328.out
     (first | subst eo64 | (injection eo64 with f1_ f2_ f3_; have f4_ := f1_.symm; have f5_ := f3_.symm; clear f1_ f2_ f3_; subst f4_; subst f5_))
     refine norm_ (a' := ?_) ?_ ?_
     rotate_left
     ·simp only [putAll, Act.put, List.setIfInBounds_toArray, List.set_cons_zero, List.set_cons_succ]
      rfl
     refine one_ (i := 5) (N := none) #[true, true, true, true, true, true] rfl rfl (by kernel_rfl) (by decide) (fun K hK => ?_)
     have hs58 : w57.cell? ⟨gb329, 0, none⟩ = some (.int .i64 0) := (blk_cell BK329.out 0).trans rfl
     have hfs58 := blk_frozen BK329.out 0
     have hns58_0 := NB279_329.out
     have hns58_1 := NB280_329.out
     have hns58_2 := NB305_329.out
     have hns58_3 := NB316_329.out
     have hms58_0 := NB329_279.out
     have hms58_1 := NB329_280.out
     have hms58_2 := NB329_305.out
     have hms58_3 := NB329_316.out
     have hs59 : w57.cell? ⟨gb329, 1, none⟩ = some (.int .i64 0) := (blk_cell BK329.out 1).trans rfl
     have hfs59 := blk_frozen BK329.out 1
     have hns59_0 := NB279_329.out
     have hns59_1 := NB280_329.out
     have hns59_2 := NB305_329.out
     have hns59_3 := NB316_329.out
     have hms59_0 := NB329_279.out
     have hms59_1 := NB329_280.out
     have hms59_2 := NB329_305.out
     have hms59_3 := NB329_316.out
     have hs60 : w57.cell? ⟨gb329, 2, none⟩ = some (.int .i64 0) := (blk_cell BK329.out 2).trans rfl
     have hfs60 := blk_frozen BK329.out 2
     have hns60_0 := NB279_329.out
     have hns60_1 := NB280_329.out
     have hns60_2 := NB305_329.out
     have hns60_3 := NB316_329.out
     have hms60_0 := NB329_279.out
     have hms60_1 := NB329_280.out
     have hms60_2 := NB329_305.out
     have hms60_3 := NB329_316.out
     have hs61 : w57.cell? ⟨gb329, 3, none⟩ = some (.string (⟨#[]⟩ : ByteArray)) := (blk_cell BK329.out 3).trans rfl
     have hfs61 := blk_frozen BK329.out 3
     have hns61_0 := NB279_329.out
     have hns61_1 := NB280_329.out
     have hns61_2 := NB305_329.out
     have hns61_3 := NB316_329.out
     have hms61_0 := NB329_279.out
     have hms61_1 := NB329_280.out
     have hms61_2 := NB329_305.out
     have hms61_3 := NB329_316.out
     have hs63 : w57.cell? ⟨gb329, 4, none⟩ = some (.slice none 0 0) := (blk_cell BK329.out 4).trans rfl
     have hfs63 := blk_frozen BK329.out 4
     have hns63_0 := NB279_329.out
     have hns63_1 := NB280_329.out
     have hns63_2 := NB305_329.out
     have hns63_3 := NB316_329.out
     have hms63_0 := NB329_279.out
     have hms63_1 := NB329_280.out
     have hms63_2 := NB329_305.out
     have hms63_3 := NB329_316.out
     have hs65 : w57.cell? ⟨gb329, 5, none⟩ = some (.slice none 0 0) := (blk_cell BK329.out 5).trans rfl
     have hfs65 := blk_frozen BK329.out 5
     have hns65_0 := NB279_329.out
     have hns65_1 := NB280_329.out
     have hns65_2 := NB305_329.out
     have hns65_3 := NB316_329.out
     have hms65_0 := NB329_279.out
     have hms65_1 := NB329_280.out
     have hms65_2 := NB329_305.out
     have hms65_3 := NB329_316.out
     refine skip_ (w1 := ?_) (by rfl) rfl ?_ ?_
     rotate_left
     ·go_simp
      rfl
     refine hK.out _ _ ⟨((cell_far (p := ⟨gb329, _, none⟩) NB316_329.out _).trans (((cell_far (p := ⟨gb329, _, none⟩) NB316_329.out _).trans (((cell_far (p := ⟨gb329, _, none⟩) NB316_329.out _).trans (((cell_far (p := ⟨gb329, _, none⟩) NB316_329.out _).trans (((cell_far (p := ⟨gb329, _, none⟩) NB316_329.out _).trans (((cell_far (p := ⟨gb329, _, none⟩) NB316_329.out _).trans (hHeld.1)))))))))))), ((cell_far (p := ⟨gb329, _, none⟩) NB316_329.out _).trans (((cell_far (p := ⟨gb329, _, none⟩) NB316_329.out _).trans (((cell_far (p := ⟨gb329, _, none⟩) NB316_329.out _).trans (((cell_far (p := ⟨gb329, _, none⟩) NB316_329.out _).trans (((cell_far (p := ⟨gb329, _, none⟩) NB316_329.out _).trans (((cell_far (p := ⟨gb329, _, none⟩) NB316_329.out _).trans (hHeld.2.1)))))))))))), ((cell_far (p := ⟨gb329, _, none⟩) NB316_329.out _).trans (((cell_far (p := ⟨gb329, _, none⟩) NB316_329.out _).trans (((cell_far (p := ⟨gb329, _, none⟩) NB316_329.out _).trans (((cell_far (p := ⟨gb329, _, none⟩) NB316_329.out _).trans (((cell_far (p := ⟨gb329, _, none⟩) NB316_329.out _).trans (((cell_far (p := ⟨gb329, _, none⟩) NB316_329.out _).trans (hHeld.2.2.1)))))))))))), ((cell_far (p := ⟨gb329, _, none⟩) NB316_329.out _).trans (((cell_far (p := ⟨gb329, _, none⟩) NB316_329.out _).trans (((cell_far (p := ⟨gb329, _, none⟩) NB316_329.out _).trans (((cell_far (p := ⟨gb329, _, none⟩) NB316_329.out _).trans (((cell_far (p := ⟨gb329, _, none⟩) NB316_329.out _).trans (((cell_far (p := ⟨gb329, _, none⟩) NB316_329.out _).trans (hHeld.2.2.2.1)))))))))))), ((cell_far (p := ⟨gb329, _, none⟩) NB316_329.out _).trans (((cell_far (p := ⟨gb329, _, none⟩) NB316_329.out _).trans (((cell_far (p := ⟨gb329, _, none⟩) NB316_329.out _).trans (((cell_far (p := ⟨gb329, _, none⟩) NB316_329.out _).trans (((cell_far (p := ⟨gb329, _, none⟩) NB316_329.out _).trans (((cell_far (p := ⟨gb329, _, none⟩) NB316_329.out _).trans (hHeld.2.2.2.2.1)))))))))))), ((cell_far (p := ⟨gb329, _, none⟩) NB316_329.out _).trans (((cell_far (p := ⟨gb329, _, none⟩) NB316_329.out _).trans (((cell_far (p := ⟨gb329, _, none⟩) NB316_329.out _).trans (((cell_far (p := ⟨gb329, _, none⟩) NB316_329.out _).trans (((cell_far (p := ⟨gb329, _, none⟩) NB316_329.out _).trans (((cell_far (p := ⟨gb329, _, none⟩) NB316_329.out _).trans (hHeld.2.2.2.2.2.1)))))))))))), ((cell_far (p := ⟨gb329, _, none⟩) NB280_329.out _).trans (((cell_far (p := ⟨gb329, _, none⟩) NB280_329.out _).trans (((cell_far (p := ⟨gb329, _, none⟩) NB280_329.out _).trans (((cell_far (p := ⟨gb329, _, none⟩) NB280_329.out _).trans (((cell_far (p := ⟨gb329, _, none⟩) NB280_329.out _).trans (((cell_far (p := ⟨gb329, _, none⟩) NB280_329.out _).trans (hHeld.2.2.2.2.2.2.1)))))))))))), ((cell_far (p := ⟨gb329, _, none⟩) NB280_329.out _).trans (((cell_far (p := ⟨gb329, _, none⟩) NB280_329.out _).trans (((cell_far (p := ⟨gb329, _, none⟩) NB280_329.out _).trans (((cell_far (p := ⟨gb329, _, none⟩) NB280_329.out _).trans (((cell_far (p := ⟨gb329, _, none⟩) NB280_329.out _).trans (((cell_far (p := ⟨gb329, _, none⟩) NB280_329.out _).trans (hHeld.2.2.2.2.2.2.2))))))))))))⟩ (fun hHeld => ?_)
     clear hK K
     refine done_ (by kernel_rfl) ?_
     have hnb66 := NB329_279.out
     have hnc66 := NB279_329.out
     have hnb67 := NB329_280.out
     have hnc67 := NB280_329.out
     have hnb68 := NB329_305.out
     have hnc68 := NB305_329.out
     have hnb69 := NB329_316.out
     have hnc69 := NB316_329.out
     have hcz70_0 := bc_ BK329.out 0
     have hcz70_1 := bc_ BK329.out 1
     have hcz70_2 := bc_ BK329.out 2
     have hcz70_3 := bc_ BK329.out 3
     have hcz70_4 := bc_ BK329.out 4
     have hcz70_5 := bc_ BK329.out 5
     have hfz70_0 := blk_frozen BK329.out 0
     have hfz70_1 := blk_frozen BK329.out 1
     have hfz70_2 := blk_frozen BK329.out 2
     have hfz70_3 := blk_frozen BK329.out 3
     have hfz70_4 := blk_frozen BK329.out 4
     have hfz70_5 := blk_frozen BK329.out 5
     have hnb71 := NB305_280.out
     have hnc71 := NB280_305.out
     have hcz72_0 := bc_ BK305.out 0
     have hcz72_1 := bc_ BK305.out 1
     have hcz72_2 := bc_ BK305.out 2
     have hcz72_3 := bc_ BK305.out 3
     have hcz72_4 := bc_ BK305.out 4
     have hcz72_5 := bc_ BK305.out 5
     have hfz72_0 := blk_frozen BK305.out 0
     have hfz72_1 := blk_frozen BK305.out 1
     have hfz72_2 := blk_frozen BK305.out 2
     have hfz72_3 := blk_frozen BK305.out 3
     have hfz72_4 := blk_frozen BK305.out 4
     have hfz72_5 := blk_frozen BK305.out 5
     go_upto_if 37 with (first | ((with_reducible refine gate_callee (f := 30) rfl ?_); refine goesL_ (some 36) rfl rfl Try.func30 (by kernel_rfl) rfl #[.agg #[.int .i64 t319, .int .i64 t320, .int .i64 t321, .string t322, .slice Ao62 t323.length co62, .slice Ao64 t326.length co64], .agg #[.int .i64 t295, .int .i64 t296, .int .i64 t297, .string t298, .slice Ao37 t299.length co37, .slice Ao39 t302.length co39]] rfl tq_2 ?_; (with_reducible refine (laws_eqInode.calls kj11 t319 t320 t321 t322 _ _ t323 _ _ t326 t295 t296 t297 t298 _ _ t299 _ _ t302 t330 _ ?side1 ?side2 ?side3 ?side4 ?side5 ?side6 ?side7 ?side8 A23.out).mono ?_); (case side1 => refine (Kd.R_reads' (e := 170) (base := w.heap.size) (ok := fun k_ => (some k_ ≠ (v288 : Value).ownBlock ∧ (some k_ ≠ (.slice Ao37 t299.length co37 : Value).ownBlock ∧ some k_ ≠ (.slice Ao50 t310.length co50 : Value).ownBlock))) (n := t323.length) (c := co62) ?_).2.2; exact tq_81); (case side2 => exact (Kd.R_reads' HO325.out).2.1); (case side3 => refine (Kd.R_reads' (e := 59) (base := w.heap.size) (ok := fun k_ => (some k_ ≠ (v291 : Value).ownBlock ∧ (some k_ ≠ (.slice Ao39 t302.length co39 : Value).ownBlock ∧ some k_ ≠ (.slice Ao51 t313.length co51 : Value).ownBlock))) (n := t326.length) (c := co64) ?_).2.2; exact tq_80); (case side4 => exact (Kd.R_reads' HO328.out).2.1); (case side5 => refine (Kd.R_reads' (e := 170) (base := w.heap.size) (ok := fun k_ => (some k_ ≠ (v288 : Value).ownBlock ∧ (some k_ ≠ (.slice Ao50 t310.length co50 : Value).ownBlock ∧ some k_ ≠ (.slice Ao62 t323.length co62 : Value).ownBlock))) (n := t299.length) (c := co37) ?_).2.2; exact tq_83); (case side6 => exact (Kd.R_reads' HO301.out).2.1); (case side7 => refine (Kd.R_reads' (e := 59) (base := w.heap.size) (ok := fun k_ => (some k_ ≠ (v291 : Value).ownBlock ∧ (some k_ ≠ (.slice Ao51 t313.length co51 : Value).ownBlock ∧ some k_ ≠ (.slice Ao64 t326.length co64 : Value).ownBlock))) (n := t302.length) (c := co39) ?_).2.2; exact tq_82); (case side8 => exact (Kd.R_reads' HO304.out).2.1); rintro e w73 ⟨rfl, hb⟩; refine ⟨_, rfl, ?_⟩; have z_ := p_ (Kd.R_below (by (with_reducible repeat (first | apply Kd.R_alloc | apply Kd.R_drewN | apply Kd.R_drew)); exact (Kd.R_mono (Kd.R_far (p := ⟨gb329, 5, none⟩) (Kd.R_far (p := ⟨gb329, 4, none⟩) (Kd.R_far (p := ⟨gb329, 3, none⟩) (Kd.R_far (p := ⟨gb329, 2, none⟩) (Kd.R_far (p := ⟨gb329, 1, none⟩) (Kd.R_far (p := ⟨gb329, 0, none⟩) (Kd.R_types HO289.out BK329.out (by decide)) (fun _ hk => hk.2) (.int .i64 t319)) (fun _ hk => hk.2) (.int .i64 t320)) (fun _ hk => hk.2) (.int .i64 t321)) (fun _ hk => hk.2) (.string t322)) (fun _ hk => hk.2) (.slice Ao62 t323.length co62)) (fun _ hk => hk.2) (.slice Ao64 t326.length co64)) (fun _ h_ => h_.1))) hb) <| p_ (Kd.R_below (by (with_reducible repeat (first | apply Kd.R_alloc | apply Kd.R_drewN | apply Kd.R_drew)); exact (Kd.R_mono (Kd.R_far (p := ⟨gb329, 5, none⟩) (Kd.R_far (p := ⟨gb329, 4, none⟩) (Kd.R_far (p := ⟨gb329, 3, none⟩) (Kd.R_far (p := ⟨gb329, 2, none⟩) (Kd.R_far (p := ⟨gb329, 1, none⟩) (Kd.R_far (p := ⟨gb329, 0, none⟩) (Kd.R_types HO292.out BK329.out (by decide)) (fun _ hk => hk.2) (.int .i64 t319)) (fun _ hk => hk.2) (.int .i64 t320)) (fun _ hk => hk.2) (.int .i64 t321)) (fun _ hk => hk.2) (.string t322)) (fun _ hk => hk.2) (.slice Ao62 t323.length co62)) (fun _ hk => hk.2) (.slice Ao64 t326.length co64)) (fun _ h_ => h_.1))) hb) <| p_ (Kd.R_below tq_83 hb) <| p_ (Kd.R_below tq_82 hb) <| p_ (Kd.R_below (by (with_reducible repeat (first | apply Kd.R_alloc | apply Kd.R_drewN | apply Kd.R_drew)); exact (Kd.R_mono (Kd.R_far (p := ⟨gb329, 5, none⟩) (Kd.R_far (p := ⟨gb329, 4, none⟩) (Kd.R_far (p := ⟨gb329, 3, none⟩) (Kd.R_far (p := ⟨gb329, 2, none⟩) (Kd.R_far (p := ⟨gb329, 1, none⟩) (Kd.R_far (p := ⟨gb329, 0, none⟩) (Kd.R_types HO312.out BK329.out (by decide)) (fun _ hk => hk.2) (.int .i64 t319)) (fun _ hk => hk.2) (.int .i64 t320)) (fun _ hk => hk.2) (.int .i64 t321)) (fun _ hk => hk.2) (.string t322)) (fun _ hk => hk.2) (.slice Ao62 t323.length co62)) (fun _ hk => hk.2) (.slice Ao64 t326.length co64)) (fun _ h_ => h_.1))) hb) <| p_ (Kd.R_below (by (with_reducible repeat (first | apply Kd.R_alloc | apply Kd.R_drewN | apply Kd.R_drew)); exact (Kd.R_mono (Kd.R_far (p := ⟨gb329, 5, none⟩) (Kd.R_far (p := ⟨gb329, 4, none⟩) (Kd.R_far (p := ⟨gb329, 3, none⟩) (Kd.R_far (p := ⟨gb329, 2, none⟩) (Kd.R_far (p := ⟨gb329, 1, none⟩) (Kd.R_far (p := ⟨gb329, 0, none⟩) (Kd.R_types HO315.out BK329.out (by decide)) (fun _ hk => hk.2) (.int .i64 t319)) (fun _ hk => hk.2) (.int .i64 t320)) (fun _ hk => hk.2) (.int .i64 t321)) (fun _ hk => hk.2) (.string t322)) (fun _ hk => hk.2) (.slice Ao62 t323.length co62)) (fun _ hk => hk.2) (.slice Ao64 t326.length co64)) (fun _ h_ => h_.1))) hb) <| p_ (Kd.R_below tq_81 hb) <| p_ (Kd.R_below tq_80 hb) <| p_ (blk_below (g := gb279) (o := .cells #[.int .i64 a0_0, .int .i64 a0_1, .int .i64 a0_2, .string a0_3, .slice A0_4 l0_4.length c0_4, .slice A0_5 l0_5.length c0_5] 44 (0, 0)) (by (with_reducible repeat (first | refine blk_drewN ?_ _ | refine blk_drew ?_ | refine blk_alloc ?_ _)); refine blk_far ?_ NB279_329.out _; (with_reducible repeat (first | refine blk_drewN ?_ _ | refine blk_drew ?_ | refine blk_alloc ?_ _)); refine blk_far ?_ NB279_329.out _; (with_reducible repeat (first | refine blk_drewN ?_ _ | refine blk_drew ?_ | refine blk_alloc ?_ _)); refine blk_far ?_ NB279_329.out _; (with_reducible repeat (first | refine blk_drewN ?_ _ | refine blk_drew ?_ | refine blk_alloc ?_ _)); refine blk_far ?_ NB279_329.out _; (with_reducible repeat (first | refine blk_drewN ?_ _ | refine blk_drew ?_ | refine blk_alloc ?_ _)); refine blk_far ?_ NB279_329.out _; (with_reducible repeat (first | refine blk_drewN ?_ _ | refine blk_drew ?_ | refine blk_alloc ?_ _)); refine blk_far ?_ NB279_329.out _; (with_reducible repeat (first | refine blk_drewN ?_ _ | refine blk_drew ?_ | refine blk_alloc ?_ _)); exact BK279.out) hb) <| p_ (blk_below (g := gb280) (o := .cells #[.int .i64 a1_0, .string a1_1] 56 (0, 0)) (by (with_reducible repeat (first | refine blk_drewN ?_ _ | refine blk_drew ?_ | refine blk_alloc ?_ _)); refine blk_far ?_ NB280_329.out _; (with_reducible repeat (first | refine blk_drewN ?_ _ | refine blk_drew ?_ | refine blk_alloc ?_ _)); refine blk_far ?_ NB280_329.out _; (with_reducible repeat (first | refine blk_drewN ?_ _ | refine blk_drew ?_ | refine blk_alloc ?_ _)); refine blk_far ?_ NB280_329.out _; (with_reducible repeat (first | refine blk_drewN ?_ _ | refine blk_drew ?_ | refine blk_alloc ?_ _)); refine blk_far ?_ NB280_329.out _; (with_reducible repeat (first | refine blk_drewN ?_ _ | refine blk_drew ?_ | refine blk_alloc ?_ _)); refine blk_far ?_ NB280_329.out _; (with_reducible repeat (first | refine blk_drewN ?_ _ | refine blk_drew ?_ | refine blk_alloc ?_ _)); refine blk_far ?_ NB280_329.out _; (with_reducible repeat (first | refine blk_drewN ?_ _ | refine blk_drew ?_ | refine blk_alloc ?_ _)); exact BK280.out) hb) <| p_ (blk_below (g := gb305) (o := .cells #[.int .i64 t295, .int .i64 t296, .int .i64 t297, .string t298, .slice Ao37 t299.length co37, .slice Ao39 t302.length co39] 49 (0, 0)) (by (with_reducible repeat (first | refine blk_drewN ?_ _ | refine blk_drew ?_ | refine blk_alloc ?_ _)); refine blk_far ?_ NB305_329.out _; (with_reducible repeat (first | refine blk_drewN ?_ _ | refine blk_drew ?_ | refine blk_alloc ?_ _)); refine blk_far ?_ NB305_329.out _; (with_reducible repeat (first | refine blk_drewN ?_ _ | refine blk_drew ?_ | refine blk_alloc ?_ _)); refine blk_far ?_ NB305_329.out _; (with_reducible repeat (first | refine blk_drewN ?_ _ | refine blk_drew ?_ | refine blk_alloc ?_ _)); refine blk_far ?_ NB305_329.out _; (with_reducible repeat (first | refine blk_drewN ?_ _ | refine blk_drew ?_ | refine blk_alloc ?_ _)); refine blk_far ?_ NB305_329.out _; (with_reducible repeat (first | refine blk_drewN ?_ _ | refine blk_drew ?_ | refine blk_alloc ?_ _)); refine blk_far ?_ NB305_329.out _; (with_reducible repeat (first | refine blk_drewN ?_ _ | refine blk_drew ?_ | refine blk_alloc ?_ _)); exact BK305.out) hb) <| p_ (blk_below (g := gb316) (o := .cells #[.int .i64 t306, .int .i64 t307, .int .i64 t308, .string t309, .slice Ao50 t310.length co50, .slice Ao51 t313.length co51] 49 (0, 0)) (by (with_reducible repeat (first | refine blk_drewN ?_ _ | refine blk_drew ?_ | refine blk_alloc ?_ _)); refine blk_far ?_ NB316_329.out _; (with_reducible repeat (first | refine blk_drewN ?_ _ | refine blk_drew ?_ | refine blk_alloc ?_ _)); refine blk_far ?_ NB316_329.out _; (with_reducible repeat (first | refine blk_drewN ?_ _ | refine blk_drew ?_ | refine blk_alloc ?_ _)); refine blk_far ?_ NB316_329.out _; (with_reducible repeat (first | refine blk_drewN ?_ _ | refine blk_drew ?_ | refine blk_alloc ?_ _)); refine blk_far ?_ NB316_329.out _; (with_reducible repeat (first | refine blk_drewN ?_ _ | refine blk_drew ?_ | refine blk_alloc ?_ _)); refine blk_far ?_ NB316_329.out _; (with_reducible repeat (first | refine blk_drewN ?_ _ | refine blk_drew ?_ | refine blk_alloc ?_ _)); refine blk_far ?_ NB316_329.out _; (with_reducible repeat (first | refine blk_drewN ?_ _ | refine blk_drew ?_ | refine blk_alloc ?_ _)); exact BK316.out) hb) <| p_ (blk_below (g := gb329) (o := .cells #[.int .i64 t319, .int .i64 t320, .int .i64 t321, .string t322, .slice Ao62 t323.length co62, .slice Ao64 t326.length co64] 49 (0, 0)) (by (with_reducible repeat (first | refine blk_drewN ?_ _ | refine blk_drew ?_ | refine blk_alloc ?_ _)); refine blk_put (cs := #[.int .i64 t319, .int .i64 t320, .int .i64 t321, .string t322, .slice Ao62 t323.length co62, .slice none 0 0]) ?_ 5 _ rfl; (with_reducible repeat (first | refine blk_drewN ?_ _ | refine blk_drew ?_ | refine blk_alloc ?_ _)); refine blk_put (cs := #[.int .i64 t319, .int .i64 t320, .int .i64 t321, .string t322, .slice none 0 0, .slice none 0 0]) ?_ 4 _ rfl; (with_reducible repeat (first | refine blk_drewN ?_ _ | refine blk_drew ?_ | refine blk_alloc ?_ _)); refine blk_put (cs := #[.int .i64 t319, .int .i64 t320, .int .i64 t321, .string (⟨#[]⟩ : ByteArray), .slice none 0 0, .slice none 0 0]) ?_ 3 _ rfl; (with_reducible repeat (first | refine blk_drewN ?_ _ | refine blk_drew ?_ | refine blk_alloc ?_ _)); refine blk_put (cs := #[.int .i64 t319, .int .i64 t320, .int .i64 0, .string (⟨#[]⟩ : ByteArray), .slice none 0 0, .slice none 0 0]) ?_ 2 _ rfl; (with_reducible repeat (first | refine blk_drewN ?_ _ | refine blk_drew ?_ | refine blk_alloc ?_ _)); refine blk_put (cs := #[.int .i64 t319, .int .i64 0, .int .i64 0, .string (⟨#[]⟩ : ByteArray), .slice none 0 0, .slice none 0 0]) ?_ 1 _ rfl; (with_reducible repeat (first | refine blk_drewN ?_ _ | refine blk_drew ?_ | refine blk_alloc ?_ _)); refine blk_put (cs := #[.int .i64 0, .int .i64 0, .int .i64 0, .string (⟨#[]⟩ : ByteArray), .slice none 0 0, .slice none 0 0]) ?_ 0 _ rfl; (with_reducible repeat (first | refine blk_drewN ?_ _ | refine blk_drew ?_ | refine blk_alloc ?_ _)); exact BK329.out) hb) <| a_ (below_step tq_1 hb); clear HO289 HO292 HO301 HO304 HO312 HO315 HO325 HO328 BK279 BK280 BK305 BK316 BK329 HB; obtain ⟨HO289, HO292, HO301, HO304, HO312, HO315, HO325, HO328, BK279, BK280, BK305, BK316, BK329, HB⟩ := z_; (try clear hb); (try clear hb2); (try clear hk); (try clear hi)))
     (try simp only [Act.put, List.setIfInBounds_toArray, List.set_cons_zero, List.set_cons_succ])
     go_cut [] (fun wc => ∃ (kq : Nat), Aside0 (laws_FnExactWithEntry.j2 kq a0_0 a0_1 a0_2 a0_3 l0_4 l0_5 a1_0 a1_1 t295 t296 t297 t298 t299 t302 t306 t307 t308 t309 t310 t313 t319 t320 t321 t322 t323 t326 = some r) ∧ Aside0 (kq ≤ kj11) ∧ Aside0 (Kd.R k170 170 wc w.heap.size (fun k_ => some k_ ≠ ((.slice Ao50 t310.length co50) : Value).ownBlock ∧ some k_ ≠ ((.slice Ao62 t323.length co62) : Value).ownBlock) (.slice Ao37 t299.length co37) t299) ∧ Aside0 (Kd.R k59 59 wc w.heap.size (fun k_ => some k_ ≠ ((.slice Ao51 t313.length co51) : Value).ownBlock ∧ some k_ ≠ ((.slice Ao64 t326.length co64) : Value).ownBlock) (.slice Ao39 t302.length co39) t302) ∧ Aside0 (Kd.R k170 170 wc w.heap.size (fun k_ => some k_ ≠ ((.slice Ao37 t299.length co37) : Value).ownBlock ∧ some k_ ≠ ((.slice Ao62 t323.length co62) : Value).ownBlock) (.slice Ao50 t310.length co50) t310) ∧ Aside0 (Kd.R k59 59 wc w.heap.size (fun k_ => some k_ ≠ ((.slice Ao39 t302.length co39) : Value).ownBlock ∧ some k_ ≠ ((.slice Ao64 t326.length co64) : Value).ownBlock) (.slice Ao51 t313.length co51) t313) ∧ Aside0 (Kd.R k170 170 wc w.heap.size (fun k_ => some k_ ≠ ((.slice Ao37 t299.length co37) : Value).ownBlock ∧ some k_ ≠ ((.slice Ao50 t310.length co50) : Value).ownBlock) (.slice Ao62 t323.length co62) t323) ∧ Aside0 (Kd.R k59 59 wc w.heap.size (fun k_ => some k_ ≠ ((.slice Ao39 t302.length co39) : Value).ownBlock ∧ some k_ ≠ ((.slice Ao51 t313.length co51) : Value).ownBlock) (.slice Ao64 t326.length co64) t326) ∧ Aside0 (wc.heap[gb279]? = some (.cells #[.int .i64 a0_0, .int .i64 a0_1, .int .i64 a0_2, .string a0_3, (.slice A0_4 l0_4.length c0_4), (.slice A0_5 l0_5.length c0_5)] 44 (0, 0))) ∧ Aside0 (wc.heap[gb280]? = some (.cells #[.int .i64 a1_0, .string a1_1] 56 (0, 0))) ∧ Aside0 (wc.heap[gb305]? = some (.cells #[.int .i64 t295, .int .i64 t296, .int .i64 t297, .string t298, (.slice Ao37 t299.length co37), (.slice Ao39 t302.length co39)] 49 (0, 0))) ∧ Aside0 (wc.heap[gb316]? = some (.cells #[.int .i64 t306, .int .i64 t307, .int .i64 t308, .string t309, (.slice Ao50 t310.length co50), (.slice Ao51 t313.length co51)] 49 (0, 0))) ∧ Aside0 (wc.heap[gb329]? = some (.cells #[.int .i64 t319, .int .i64 t320, .int .i64 t321, .string t322, (.slice Ao62 t323.length co62), (.slice Ao64 t326.length co64)] 49 (0, 0))) ∧ Aside0 (Below w.heap.size w wc))
     case first =>
      have H := HC24.out
      clear HC24
      by_cases c74 : t330 = true
      ·subst c74
       have H1 : (laws_FnExactWithEntry.j2 kj11 a0_0 a0_1 a0_2 a0_3 l0_4 l0_5 a1_0 a1_1 t295 t296 t297 t298 t299 t302 t306 t307 t308 t309 t310 t313 t319 t320 t321 t322 t323 t326) = some r := by rw [if_pos rfl] at H; exact H
       clear H
       have H := H1
       clear H1
       have H' := Aside0.mk H
       clear H
       go_wp2
       go_meet
       case rel => exact ⟨_, H', ⟨(by have := HJ3.out; have := HJ11.out; first | omega | exact Nat.le_refl _)⟩, ⟨(by (with_reducible repeat (first | apply Kd.R_alloc | apply Kd.R_drewN | apply Kd.R_drew)); exact Kd.R_mono HO301.out (fun _ hk => ⟨hk.2.1, hk.2.2⟩))⟩, ⟨(by (with_reducible repeat (first | apply Kd.R_alloc | apply Kd.R_drewN | apply Kd.R_drew)); exact Kd.R_mono HO304.out (fun _ hk => ⟨hk.2.1, hk.2.2⟩))⟩, ⟨(by (with_reducible repeat (first | apply Kd.R_alloc | apply Kd.R_drewN | apply Kd.R_drew)); exact Kd.R_mono HO312.out (fun _ hk => ⟨hk.2.1, hk.2.2⟩))⟩, ⟨(by (with_reducible repeat (first | apply Kd.R_alloc | apply Kd.R_drewN | apply Kd.R_drew)); exact Kd.R_mono HO315.out (fun _ hk => ⟨hk.2.1, hk.2.2⟩))⟩, ⟨(by (with_reducible repeat (first | apply Kd.R_alloc | apply Kd.R_drewN | apply Kd.R_drew)); exact Kd.R_mono HO325.out (fun _ hk => ⟨hk.2.1, hk.2.2⟩))⟩, ⟨(by (with_reducible repeat (first | apply Kd.R_alloc | apply Kd.R_drewN | apply Kd.R_drew)); exact Kd.R_mono HO328.out (fun _ hk => ⟨hk.2.1, hk.2.2⟩))⟩, ⟨tq_3⟩, ⟨tq_4⟩, ⟨tq_6⟩, ⟨tq_8⟩, ⟨tq_12⟩, ⟨tq_1⟩⟩
      ·replace c74 := Bool.eq_false_iff.mpr c74
       subst c74
       have H1 : (some false) = some r := by rw [if_neg (show ¬ (false = true) by decide)] at H; exact H
       clear H
       have H := H1
       clear H1
       obtain rfl := Option.some.inj H
       go_wp2
       go_ret
       exact ⟨tq_7, tq_1⟩
     case rest =>
      clear HC24
      try clear p2
      try clear c3
      try clear c6
      try clear c7
      try clear c30
      try clear c35
      try clear c36
      try clear c66
      try clear c67
      try clear c68
      try clear c69
      try clear c71
      try clear c74
      try clear hcz70_0 hcz70_1 hcz70_2 hcz70_3 hcz70_4 hcz70_5
      try clear hcz72_0 hcz72_1 hcz72_2 hcz72_3 hcz72_4 hcz72_5
      try clear hfz70_0 hfz70_1 hfz70_2 hfz70_3 hfz70_4 hfz70_5
      try clear hfz72_0 hfz72_1 hfz72_2 hfz72_3 hfz72_4 hfz72_5
      obtain ⟨kq, HA, HJ23, HO_306004, HO_306005, HO_317004, HO_317005, HO_330004, HO_330005, BK279, BK280, BK305, BK316, BK329, HB⟩ := hcut
      cases kq with
      | zero => exact absurd HA.out (by simp [laws_FnExactWithEntry.j2])
      | succ kj23 =>
       have H := HA.out
       clear HA
       simp only [laws_FnExactWithEntry.j2] at H
       replace H := Option.bind_eq_some_iff.mp H
       obtain ⟨⟨t331, t332, t333, t334, t335, t338⟩, A750, H⟩ := H
       replace H : ((laws_eqInode.f kj23 t306 t307 t308 t309 t310 t313 t331 t332 t333 t334 t335 t338).bind fun t341 => (if t341 = true then (laws_FnExactWithEntry.j3 kj23 a0_0 a0_1 a0_2 a0_3 l0_4 l0_5 a1_0 a1_1 t295 t296 t297 t298 t299 t302 t306 t307 t308 t309 t310 t313 t319 t320 t321 t322 t323 t326) else (some false))) = some r := H
       have A75 := Aside0.mk A750
       clear A750
       replace H := Option.bind_eq_some_iff.mp H
       obtain ⟨t341, A760, H⟩ := H
       replace H : (if t341 = true then (laws_FnExactWithEntry.j3 kj23 a0_0 a0_1 a0_2 a0_3 l0_4 l0_5 a1_0 a1_1 t295 t296 t297 t298 t299 t302 t306 t307 t308 t309 t310 t313 t319 t320 t321 t322 t323 t326) else (some false)) = some r := H
       have A76 := Aside0.mk A760
       clear A760
       have HC77 := Aside0.mk H
       clear H
       try go_wp2
       have z_ := p_ (Kd.R_drew HO_306004.out) <| p_ (Kd.R_drew HO_306005.out) <| p_ (Kd.R_drew HO_317004.out) <| p_ (Kd.R_drew HO_317005.out) <| p_ (Kd.R_drew HO_330004.out) <| p_ (Kd.R_drew HO_330005.out) <| p_ (blk_drew BK279.out) <| p_ (blk_drew BK280.out) <| p_ (blk_drew BK305.out) <| p_ (blk_drew BK316.out) <| p_ (blk_drew BK329.out) <| a_ (below_drew1 HB.out)
       clear HO_306004 HO_306005 HO_317004 HO_317005 HO_330004 HO_330005 BK279 BK280 BK305 BK316 BK329 HB
       obtain ⟨HO_306004, HO_306005, HO_317004, HO_317005, HO_330004, HO_330005, BK279, BK280, BK305, BK316, BK329, HB⟩ := z_
       refine start_ (n := 5) (S := fun w' => w'.cell? ⟨gb316, 0, none⟩ = some (.int .i64 t306) ∧ w'.cell? ⟨gb316, 1, none⟩ = some (.int .i64 t307) ∧ w'.cell? ⟨gb316, 2, none⟩ = some (.int .i64 t308) ∧ w'.cell? ⟨gb316, 3, none⟩ = some (.string t309) ∧ w'.cell? ⟨gb316, 4, none⟩ = some (.slice Ao50 t310.length co50) ∧ w'.cell? ⟨gb316, 5, none⟩ = some (.slice Ao51 t313.length co51) ∧ w'.cell? ⟨gb279, 0, none⟩ = some (.int .i64 a0_0) ∧ w'.cell? ⟨gb279, 1, none⟩ = some (.int .i64 a0_1) ∧ w'.cell? ⟨gb279, 2, none⟩ = some (.int .i64 a0_2) ∧ w'.cell? ⟨gb279, 3, none⟩ = some (.string a0_3) ∧ w'.cell? ⟨gb279, 4, none⟩ = some (.slice A0_4 l0_4.length c0_4) ∧ w'.cell? ⟨gb279, 5, none⟩ = some (.slice A0_5 l0_5.length c0_5)) (ds := []) #[false, false, false, false, false] (by kernel_rfl) rfl rfl (bc6_ BK316.out (bk6_ BK279.out)) (fun hHeld => ?_)
       generalize wc.drew = w78 at HO_306004 HO_306005 HO_317004 HO_317005 HO_330004 HO_330005 BK279 BK280 BK305 BK316 BK329 HB hHeld ⊢
       refine take_ (i := 0) (N := some 38) (v := ?_) (a' := ?_) #[true, false, false, false, false] rfl rfl (by kernel_rfl) (fun _ _ _ h => h) (Or.inl ⟨(by rfl), ?_⟩) hHeld ?_ ?_
       rotate_left
       ·rintro w' ⟨s0, s1, s2, s3, s4, s5, s6, s7, s8, s9, s10, s11⟩
        go_simp
        with_reducible rfl
       rotate_left
       ·simp only [Act.put, List.setIfInBounds_toArray, List.set_cons_zero, List.set_cons_succ, i64_w, i32_w]
        rfl
       refine take_ (i := 1) (N := some 39) (v := ?_) (a' := ?_) #[true, true, false, false, false] rfl rfl (by kernel_rfl) (fun _ _ _ h => h) (Or.inl ⟨(by rfl), ?_⟩) hHeld ?_ ?_
       rotate_left
       ·rintro w' ⟨s0, s1, s2, s3, s4, s5, s6, s7, s8, s9, s10, s11⟩
        go_simp
        with_reducible rfl
       rotate_left
       ·simp only [Act.put, List.setIfInBounds_toArray, List.set_cons_zero, List.set_cons_succ, i64_w, i32_w]
        rfl
       refine one_ (i := 2) (N := some 40) #[true, true, true, false, false] rfl rfl (by kernel_rfl) (by decide) (fun K hK => ?_)
       refine goes_ Try.func28 (by kernel_rfl) rfl #[.agg #[.int .i64 a0_0, .int .i64 a0_1, .int .i64 a0_2, .string a0_3, .slice A0_4 l0_4.length c0_4, .slice A0_5 l0_5.length c0_5]] (by rfl) rfl rfl tq_2 ?_
       with_reducible refine (laws_toInode.calls kj23 a0_0 a0_1 a0_2 a0_3 _ _ l0_4 _ _ l0_5 t331 t332 t333 t334 t335 t338 _ ?side1 ?side2 ?side3 ?side4 A75.out).mono ?_
       (case side1 => exact tq_15)
       (case side2 => exact HC0_4.out)
       (case side3 => exact tq_24)
       (case side4 => exact HC0_5.out)
       rintro e w79 ⟨v336, v339, rfl, ho0, ho1, hb⟩
       refine ⟨_, rfl, ?_⟩
       have z_ := p_ (Kd.R_elder' tq_22 (Kd.R_base ho0) hb) <| p_ (Kd.R_elder' tq_21 (Kd.R_base ho1) hb) <| p_ (Kd.R_elder' tq_20 (Kd.R_base ho0) hb) <| p_ (Kd.R_elder' tq_19 (Kd.R_base ho1) hb) <| p_ (Kd.R_elder' tq_18 (Kd.R_base ho0) hb) <| p_ (Kd.R_elder' tq_17 (Kd.R_base ho1) hb) <| p_ (Kd.R_lower (Kd.R_new' (Kd.R_new' (Kd.R_new' ho0 (Kd.R_lt tq_22)) (Kd.R_lt tq_20)) (Kd.R_lt tq_18)) (below_size tq_1)) <| p_ (Kd.R_lower (Kd.R_new' (Kd.R_new' (Kd.R_new' ho1 (Kd.R_lt tq_21)) (Kd.R_lt tq_19)) (Kd.R_lt tq_17)) (below_size tq_1)) <| p_ (blk_below tq_3 hb) <| p_ (blk_below tq_4 hb) <| p_ (blk_below tq_6 hb) <| p_ (blk_below tq_8 hb) <| p_ (blk_below tq_12 hb) <| a_ (below_step tq_1 hb)
       clear HO_306004 HO_306005 HO_317004 HO_317005 HO_330004 HO_330005 BK279 BK280 BK305 BK316 BK329 HB
       obtain ⟨HO_306004, HO_306005, HO_317004, HO_317005, HO_330004, HO_330005, HO337, HO340, BK279, BK280, BK305, BK316, BK329, HB⟩ := z_
       (try clear hb)
       (try clear hb2)
       (try clear hk)
       (try clear hi)
       (try clear ho0)
       (try clear ho1)
       obtain ⟨Ao80, co80, eo80⟩ := Kd.R_slice HO337.out
       (first | subst eo80 | (injection eo80 with f1_ f2_ f3_; have f4_ := f1_.symm; have f5_ := f3_.symm; clear f1_ f2_ f3_; subst f4_; subst f5_))
       obtain ⟨Ao81, co81, eo81⟩ := Kd.R_slice HO340.out
       (first | subst eo81 | (injection eo81 with f1_ f2_ f3_; have f4_ := f1_.symm; have f5_ := f3_.symm; clear f1_ f2_ f3_; subst f4_; subst f5_))
       refine hK.out _ _ (bc6_ BK316.out (bk6_ BK279.out)) (fun hHeld => ?_)
       clear hK K
       refine nm_ (some 40) ?_
       refine one_ (i := 3) (N := some 41) #[true, true, true, true, false] rfl rfl (by kernel_rfl) (by decide) (fun K hK => ?_)
       refine goes_ Try.func30 (by kernel_rfl) rfl #[.agg #[.int .i64 t306, .int .i64 t307, .int .i64 t308, .string t309, .slice Ao50 t310.length co50, .slice Ao51 t313.length co51], .agg #[.int .i64 t331, .int .i64 t332, .int .i64 t333, .string t334, .slice Ao80 t335.length co80, .slice Ao81 t338.length co81]] (by rfl) rfl rfl tq_2 ?_
       with_reducible refine (laws_eqInode.calls kj23 t306 t307 t308 t309 _ _ t310 _ _ t313 t331 t332 t333 t334 _ _ t335 _ _ t338 t341 _ ?side1 ?side2 ?side3 ?side4 ?side5 ?side6 ?side7 ?side8 A76.out).mono ?_
       (case side1 => repeat (first | exact (Kd.R_reads' HO_317004.out).2.2 | (with_reducible refine Kd.C_alloc ?_ _) | (with_reducible refine Kd.C_drewN ?_ _) | (with_reducible refine Kd.C_drew ?_)))
       (case side2 => exact (Kd.R_reads' HO_317004.out).2.1)
       (case side3 => repeat (first | exact (Kd.R_reads' HO_317005.out).2.2 | (with_reducible refine Kd.C_alloc ?_ _) | (with_reducible refine Kd.C_drewN ?_ _) | (with_reducible refine Kd.C_drew ?_)))
       (case side4 => exact (Kd.R_reads' HO_317005.out).2.1)
       (case side5 => repeat (first | exact (Kd.R_reads' HO337.out).2.2 | (with_reducible refine Kd.C_alloc ?_ _) | (with_reducible refine Kd.C_drewN ?_ _) | (with_reducible refine Kd.C_drew ?_)))
       (case side6 => exact (Kd.R_reads' HO337.out).2.1)
       (case side7 => repeat (first | exact (Kd.R_reads' HO340.out).2.2 | (with_reducible refine Kd.C_alloc ?_ _) | (with_reducible refine Kd.C_drewN ?_ _) | (with_reducible refine Kd.C_drew ?_)))
       (case side8 => exact (Kd.R_reads' HO340.out).2.1)
       rintro e w82 ⟨rfl, hb⟩
       refine ⟨_, rfl, ?_⟩
       have z_ := p_ (Kd.R_below tq_22 hb) <| p_ (Kd.R_below tq_21 hb) <| p_ (Kd.R_below tq_20 hb) <| p_ (Kd.R_below tq_19 hb) <| p_ (Kd.R_below tq_18 hb) <| p_ (Kd.R_below tq_17 hb) <| p_ (Kd.R_below (by (with_reducible repeat (first | apply Kd.R_alloc | apply Kd.R_drewN | apply Kd.R_drew)); exact HO337.out) hb) <| p_ (Kd.R_below (by (with_reducible repeat (first | apply Kd.R_alloc | apply Kd.R_drewN | apply Kd.R_drew)); exact HO340.out) hb) <| p_ (blk_below tq_3 hb) <| p_ (blk_below tq_4 hb) <| p_ (blk_below tq_6 hb) <| p_ (blk_below tq_8 hb) <| p_ (blk_below tq_12 hb) <| a_ (below_step tq_1 hb)
       clear HO_306004 HO_306005 HO_317004 HO_317005 HO_330004 HO_330005 HO337 HO340 BK279 BK280 BK305 BK316 BK329 HB
       obtain ⟨HO_306004, HO_306005, HO_317004, HO_317005, HO_330004, HO_330005, HO337, HO340, BK279, BK280, BK305, BK316, BK329, HB⟩ := z_
       (try clear hb)
       (try clear hb2)
       (try clear hk)
       (try clear hi)
       refine hK.out _ _ (bc6_ BK316.out (bk6_ BK279.out)) (fun hHeld => ?_)
       clear hK K
       refine nm_ (some 41) ?_
       refine yq_ (i := 4) (N := some 42) #[true, true, true, true, true] (by kernel_rfl) ?_
       refine done_ (by kernel_rfl) ?_
       go_upto_if 42 with (fail)
       go_cut [] (fun wc => ∃ (kq : Nat), Aside0 (laws_FnExactWithEntry.j3 kq a0_0 a0_1 a0_2 a0_3 l0_4 l0_5 a1_0 a1_1 t295 t296 t297 t298 t299 t302 t306 t307 t308 t309 t310 t313 t319 t320 t321 t322 t323 t326 = some r) ∧ Aside0 (kq ≤ kj23) ∧ Aside0 (Kd.R k170 170 wc w.heap.size (fun k_ => some k_ ≠ ((.slice Ao50 t310.length co50) : Value).ownBlock ∧ some k_ ≠ ((.slice Ao62 t323.length co62) : Value).ownBlock) (.slice Ao37 t299.length co37) t299) ∧ Aside0 (Kd.R k59 59 wc w.heap.size (fun k_ => some k_ ≠ ((.slice Ao51 t313.length co51) : Value).ownBlock ∧ some k_ ≠ ((.slice Ao64 t326.length co64) : Value).ownBlock) (.slice Ao39 t302.length co39) t302) ∧ Aside0 (Kd.R k170 170 wc w.heap.size (fun k_ => some k_ ≠ ((.slice Ao37 t299.length co37) : Value).ownBlock ∧ some k_ ≠ ((.slice Ao62 t323.length co62) : Value).ownBlock) (.slice Ao50 t310.length co50) t310) ∧ Aside0 (Kd.R k59 59 wc w.heap.size (fun k_ => some k_ ≠ ((.slice Ao39 t302.length co39) : Value).ownBlock ∧ some k_ ≠ ((.slice Ao64 t326.length co64) : Value).ownBlock) (.slice Ao51 t313.length co51) t313) ∧ Aside0 (Kd.R k170 170 wc w.heap.size (fun k_ => some k_ ≠ ((.slice Ao37 t299.length co37) : Value).ownBlock ∧ some k_ ≠ ((.slice Ao50 t310.length co50) : Value).ownBlock) (.slice Ao62 t323.length co62) t323) ∧ Aside0 (Kd.R k59 59 wc w.heap.size (fun k_ => some k_ ≠ ((.slice Ao39 t302.length co39) : Value).ownBlock ∧ some k_ ≠ ((.slice Ao51 t313.length co51) : Value).ownBlock) (.slice Ao64 t326.length co64) t326) ∧ Aside0 (wc.heap[gb279]? = some (.cells #[.int .i64 a0_0, .int .i64 a0_1, .int .i64 a0_2, .string a0_3, (.slice A0_4 l0_4.length c0_4), (.slice A0_5 l0_5.length c0_5)] 44 (0, 0))) ∧ Aside0 (wc.heap[gb280]? = some (.cells #[.int .i64 a1_0, .string a1_1] 56 (0, 0))) ∧ Aside0 (wc.heap[gb305]? = some (.cells #[.int .i64 t295, .int .i64 t296, .int .i64 t297, .string t298, (.slice Ao37 t299.length co37), (.slice Ao39 t302.length co39)] 49 (0, 0))) ∧ Aside0 (wc.heap[gb316]? = some (.cells #[.int .i64 t306, .int .i64 t307, .int .i64 t308, .string t309, (.slice Ao50 t310.length co50), (.slice Ao51 t313.length co51)] 49 (0, 0))) ∧ Aside0 (wc.heap[gb329]? = some (.cells #[.int .i64 t319, .int .i64 t320, .int .i64 t321, .string t322, (.slice Ao62 t323.length co62), (.slice Ao64 t326.length co64)] 49 (0, 0))) ∧ Aside0 (Below w.heap.size w wc))
       case first =>
        have H := HC77.out
        clear HC77
        by_cases c83 : t341 = true
        ·subst c83
         have H1 : (laws_FnExactWithEntry.j3 kj23 a0_0 a0_1 a0_2 a0_3 l0_4 l0_5 a1_0 a1_1 t295 t296 t297 t298 t299 t302 t306 t307 t308 t309 t310 t313 t319 t320 t321 t322 t323 t326) = some r := by rw [if_pos rfl] at H; exact H
         clear H
         have H := H1
         clear H1
         have H' := Aside0.mk H
         clear H
         go_wp2
         go_meet
         case rel => exact ⟨_, H', ⟨(by have := HJ3.out; have := HJ11.out; have := HJ23.out; first | omega | exact Nat.le_refl _)⟩, ⟨(by (with_reducible repeat (first | apply Kd.R_alloc | apply Kd.R_drewN | apply Kd.R_drew)); exact Kd.R_mono HO_306004.out (fun _ hk => ⟨hk.1.1, hk.1.2⟩))⟩, ⟨(by (with_reducible repeat (first | apply Kd.R_alloc | apply Kd.R_drewN | apply Kd.R_drew)); exact Kd.R_mono HO_306005.out (fun _ hk => ⟨hk.1.1, hk.1.2⟩))⟩, ⟨(by (with_reducible repeat (first | apply Kd.R_alloc | apply Kd.R_drewN | apply Kd.R_drew)); exact Kd.R_mono HO_317004.out (fun _ hk => ⟨hk.1.1, hk.1.2⟩))⟩, ⟨(by (with_reducible repeat (first | apply Kd.R_alloc | apply Kd.R_drewN | apply Kd.R_drew)); exact Kd.R_mono HO_317005.out (fun _ hk => ⟨hk.1.1, hk.1.2⟩))⟩, ⟨(by (with_reducible repeat (first | apply Kd.R_alloc | apply Kd.R_drewN | apply Kd.R_drew)); exact Kd.R_mono HO_330004.out (fun _ hk => ⟨hk.1.1, hk.1.2⟩))⟩, ⟨(by (with_reducible repeat (first | apply Kd.R_alloc | apply Kd.R_drewN | apply Kd.R_drew)); exact Kd.R_mono HO_330005.out (fun _ hk => ⟨hk.1.1, hk.1.2⟩))⟩, ⟨tq_3⟩, ⟨tq_4⟩, ⟨tq_6⟩, ⟨tq_8⟩, ⟨tq_12⟩, ⟨tq_1⟩⟩
        ·replace c83 := Bool.eq_false_iff.mpr c83
         subst c83
         have H1 : (some false) = some r := by rw [if_neg (show ¬ (false = true) by decide)] at H; exact H
         clear H
         have H := H1
         clear H1
         obtain rfl := Option.some.inj H
         go_wp2
         go_ret
         exact ⟨tq_7, tq_1⟩
       case rest =>
        clear HC77
        try clear c2
        try clear p2
        try clear c3
        try clear c6
        try clear c7
        try clear c8
        try clear c28
        try clear c30
        try clear c35
        try clear c36
        try clear c66
        try clear c67
        try clear c68
        try clear c69
        try clear c71
        try clear c74
        try clear c83
        try clear hcz70_0 hcz70_1 hcz70_2 hcz70_3 hcz70_4 hcz70_5
        try clear hcz72_0 hcz72_1 hcz72_2 hcz72_3 hcz72_4 hcz72_5
        try clear hfz70_0 hfz70_1 hfz70_2 hfz70_3 hfz70_4 hfz70_5
        try clear hfz72_0 hfz72_1 hfz72_2 hfz72_3 hfz72_4 hfz72_5
        try clear p2
        obtain ⟨kq, HA, HJ76, HO_306004, HO_306005, HO_317004, HO_317005, HO_330004, HO_330005, BK279, BK280, BK305, BK316, BK329, HB⟩ := hcut
        cases kq with
        | zero => exact absurd HA.out (by simp [laws_FnExactWithEntry.j3])
        | succ kj76 =>
         have H := HA.out
         clear HA
         simp only [laws_FnExactWithEntry.j3] at H
         replace H := Option.bind_eq_some_iff.mp H
         obtain ⟨⟨t342, t343, t344⟩, A840, H⟩ := H
         replace H : (if t342 < 0 then (laws_FnExactWithEntry.j4 kj76 true a0_0 a0_1 a0_2 a0_3 l0_4 l0_5 a1_0 a1_1 t295 t296 t297 t298 t299 t302 t319 t320 t321 t322 t323 t326) else ((laws_eqInode.f kj76 t319 t320 t321 t322 t323 t326 t295 t296 t297 t298 t299 t302).bind fun t345 => (laws_FnExactWithEntry.j4 kj76 (!t345) a0_0 a0_1 a0_2 a0_3 l0_4 l0_5 a1_0 a1_1 t295 t296 t297 t298 t299 t302 t319 t320 t321 t322 t323 t326))) = some r := H
         have A84 := Aside0.mk A840
         clear A840
         have HC85 := Aside0.mk H
         clear H
         have hnb86 := NB316_279.out
         have hnc86 := NB279_316.out
         have hnb87 := NB316_280.out
         have hnc87 := NB280_316.out
         have hnb88 := NB316_305.out
         have hnc88 := NB305_316.out
         have hnb89 := NB316_329.out
         have hnc89 := NB329_316.out
         have hcz90_0 := bc_ BK316.out 0
         have hcz90_1 := bc_ BK316.out 1
         have hcz90_2 := bc_ BK316.out 2
         have hcz90_3 := bc_ BK316.out 3
         have hcz90_4 := bc_ BK316.out 4
         have hcz90_5 := bc_ BK316.out 5
         have hfz90_0 := blk_frozen BK316.out 0
         have hfz90_1 := blk_frozen BK316.out 1
         have hfz90_2 := blk_frozen BK316.out 2
         have hfz90_3 := blk_frozen BK316.out 3
         have hfz90_4 := blk_frozen BK316.out 4
         have hfz90_5 := blk_frozen BK316.out 5
         go_upto_region 17 with (first | ((with_reducible refine gate_callee (f := 31) rfl ?_); refine goesL_ (some 45) rfl rfl Try.func31 (by kernel_rfl) rfl #[.agg #[.int .i64 t306, .int .i64 t307, .int .i64 t308, .string t309, .slice Ao50 t310.length co50, .slice Ao51 t313.length co51], .int .i64 1] rfl tq_2 ?_; (with_reducible refine (laws_markInode.calls kj76 t306 t307 t308 t309 (fun k_ => some k_ = (.slice Ao50 t310.length co50 : Value).ownBlock) (.slice Ao50 t310.length co50) t310 (fun k_ => some k_ = (.slice Ao51 t313.length co51 : Value).ownBlock) (.slice Ao51 t313.length co51) t313 1 t342 t343 t344 w _ ?side1 ?side2 ?side3 A84.out).mono ?_); (case side1 => exact tq_149); (case side2 => exact Kd.R_tight rfl HO_317004.out); (case side3 => exact Kd.R_tight rfl HO_317005.out); rintro e w91 ⟨rfl, hy0, hy1, hb, hkp⟩; refine ⟨_, rfl, ?_⟩; have z_ := p_ (Kd.R_mono (ok' := fun k_ => some k_ ≠ (.slice Ao50 t310.length co50 : Value).ownBlock ∧ some k_ ≠ (.slice Ao62 t323.length co62 : Value).ownBlock) (Kd.R_keptB ((Kd.R_apart' HO_306004.out (Kd.R_typed HO_317005.out) (by decide))) hkp (fun k_ hk_ hs_ => Or.elim hs_ (fun e_ => (hk_.1.1) e_) (fun e_ => (hk_.2) e_))) (fun k_ hk_ => ⟨hk_.1.1.1, hk_.1.1.2⟩)) <| p_ (Kd.R_mono (ok' := fun k_ => some k_ ≠ (.slice Ao51 t313.length co51 : Value).ownBlock ∧ some k_ ≠ (.slice Ao64 t326.length co64 : Value).ownBlock) (Kd.R_keptB ((Kd.R_apart' HO_306005.out (Kd.R_typed HO_317004.out) (by decide))) hkp (fun k_ hk_ hs_ => Or.elim hs_ (fun e_ => (hk_.2) e_) (fun e_ => (hk_.1.1) e_))) (fun k_ hk_ => ⟨hk_.1.1.1, hk_.1.1.2⟩)) <| p_ (Kd.R_reok rfl hy0 (fun k_ e_ => HO_317004.out.1 k_ e_)) <| p_ (Kd.R_reok rfl hy1 (fun k_ e_ => HO_317005.out.1 k_ e_)) <| p_ (Kd.R_mono (ok' := fun k_ => some k_ ≠ (.slice Ao37 t299.length co37 : Value).ownBlock ∧ some k_ ≠ (.slice Ao50 t310.length co50 : Value).ownBlock) (Kd.R_keptB ((Kd.R_apart' HO_330004.out (Kd.R_typed HO_317005.out) (by decide))) hkp (fun k_ hk_ hs_ => Or.elim hs_ (fun e_ => (hk_.1.2) e_) (fun e_ => (hk_.2) e_))) (fun k_ hk_ => ⟨hk_.1.1.1, hk_.1.1.2⟩)) <| p_ (Kd.R_mono (ok' := fun k_ => some k_ ≠ (.slice Ao39 t302.length co39 : Value).ownBlock ∧ some k_ ≠ (.slice Ao51 t313.length co51 : Value).ownBlock) (Kd.R_keptB ((Kd.R_apart' HO_330005.out (Kd.R_typed HO_317004.out) (by decide))) hkp (fun k_ hk_ hs_ => Or.elim hs_ (fun e_ => (hk_.2) e_) (fun e_ => (hk_.1.2) e_))) (fun k_ hk_ => ⟨hk_.1.1.1, hk_.1.1.2⟩)) <| p_ (blk_kept tq_3 hkp (fun hs_ => Or.elim hs_ (fun e_ => (fun e_ => (Kd.R_ne HO_317004.out BK279.out (by decide)) e_) e_) (fun e_ => (fun e_ => (Kd.R_ne HO_317005.out BK279.out (by decide)) e_) e_))) <| p_ (blk_kept tq_4 hkp (fun hs_ => Or.elim hs_ (fun e_ => (fun e_ => (Kd.R_ne HO_317004.out BK280.out (by decide)) e_) e_) (fun e_ => (fun e_ => (Kd.R_ne HO_317005.out BK280.out (by decide)) e_) e_))) <| p_ (blk_kept tq_6 hkp (fun hs_ => Or.elim hs_ (fun e_ => (fun e_ => (Kd.R_ne HO_317004.out BK305.out (by decide)) e_) e_) (fun e_ => (fun e_ => (Kd.R_ne HO_317005.out BK305.out (by decide)) e_) e_))) <| p_ (blk_kept tq_8 hkp (fun hs_ => Or.elim hs_ (fun e_ => (fun e_ => (Kd.R_ne HO_317004.out BK316.out (by decide)) e_) e_) (fun e_ => (fun e_ => (Kd.R_ne HO_317005.out BK316.out (by decide)) e_) e_))) <| p_ (blk_kept tq_12 hkp (fun hs_ => Or.elim hs_ (fun e_ => (fun e_ => (Kd.R_ne HO_317004.out BK329.out (by decide)) e_) e_) (fun e_ => (fun e_ => (Kd.R_ne HO_317005.out BK329.out (by decide)) e_) e_))) <| a_ (hb); clear HO_306004 HO_306005 HO_317004 HO_317005 HO_330004 HO_330005 BK279 BK280 BK305 BK316 BK329 HB; obtain ⟨HO_306004, HO_306005, HO_317004, HO_317005, HO_330004, HO_330005, BK279, BK280, BK305, BK316, BK329, HB⟩ := z_; (try clear hb); (try clear hkp); (try clear hy0); (try clear hy1)))
         (try simp only [Act.put, List.setIfInBounds_toArray, List.set_cons_zero, List.set_cons_succ])
         go_cut [53] (fun v53 wc => ∃ (kq : Nat) (x53_84 : Bool), v53 = .bool x53_84 ∧ Aside0 (laws_FnExactWithEntry.j4 kq x53_84 a0_0 a0_1 a0_2 a0_3 l0_4 l0_5 a1_0 a1_1 t295 t296 t297 t298 t299 t302 t319 t320 t321 t322 t323 t326 = some r) ∧ Aside0 (kq ≤ kj76) ∧ Aside0 (Kd.R k170 170 wc w.heap.size (fun k_ => some k_ ≠ ((.slice Ao50 t310.length co50) : Value).ownBlock ∧ some k_ ≠ ((.slice Ao62 t323.length co62) : Value).ownBlock) (.slice Ao37 t299.length co37) t299) ∧ Aside0 (Kd.R k59 59 wc w.heap.size (fun k_ => some k_ ≠ ((.slice Ao51 t313.length co51) : Value).ownBlock ∧ some k_ ≠ ((.slice Ao64 t326.length co64) : Value).ownBlock) (.slice Ao39 t302.length co39) t302) ∧ Aside0 (Kd.R k170 170 wc w.heap.size (fun k_ => some k_ ≠ ((.slice Ao37 t299.length co37) : Value).ownBlock ∧ some k_ ≠ ((.slice Ao62 t323.length co62) : Value).ownBlock) (.slice Ao50 t310.length co50) t343) ∧ Aside0 (Kd.R k59 59 wc w.heap.size (fun k_ => some k_ ≠ ((.slice Ao39 t302.length co39) : Value).ownBlock ∧ some k_ ≠ ((.slice Ao64 t326.length co64) : Value).ownBlock) (.slice Ao51 t313.length co51) t344) ∧ Aside0 (Kd.R k170 170 wc w.heap.size (fun k_ => some k_ ≠ ((.slice Ao37 t299.length co37) : Value).ownBlock ∧ some k_ ≠ ((.slice Ao50 t310.length co50) : Value).ownBlock) (.slice Ao62 t323.length co62) t323) ∧ Aside0 (Kd.R k59 59 wc w.heap.size (fun k_ => some k_ ≠ ((.slice Ao39 t302.length co39) : Value).ownBlock ∧ some k_ ≠ ((.slice Ao51 t313.length co51) : Value).ownBlock) (.slice Ao64 t326.length co64) t326) ∧ Aside0 (wc.heap[gb279]? = some (.cells #[.int .i64 a0_0, .int .i64 a0_1, .int .i64 a0_2, .string a0_3, (.slice A0_4 l0_4.length c0_4), (.slice A0_5 l0_5.length c0_5)] 44 (0, 0))) ∧ Aside0 (wc.heap[gb280]? = some (.cells #[.int .i64 a1_0, .string a1_1] 56 (0, 0))) ∧ Aside0 (wc.heap[gb305]? = some (.cells #[.int .i64 t295, .int .i64 t296, .int .i64 t297, .string t298, (.slice Ao37 t299.length co37), (.slice Ao39 t302.length co39)] 49 (0, 0))) ∧ Aside0 (wc.heap[gb316]? = some (.cells #[.int .i64 t306, .int .i64 t307, .int .i64 t308, .string t309, (.slice Ao50 t310.length co50), (.slice Ao51 t313.length co51)] 49 (0, 0))) ∧ Aside0 (wc.heap[gb329]? = some (.cells #[.int .i64 t319, .int .i64 t320, .int .i64 t321, .string t322, (.slice Ao62 t323.length co62), (.slice Ao64 t326.length co64)] 49 (0, 0))) ∧ Aside0 (Below w.heap.size w wc))
         case first =>
          have H := HC85.out
          clear HC85
          by_cases c92 : t342 < 0
          ·rw [if_pos c92] at H
           have c92b0 : decide (t342 < 0) = true := decide_eq_true c92
           clear c92
           (first | rw [c92b0] | (simp only [i64_w, i32_w]; rw [c92b0]) | skip)
           have H' := Aside0.mk H
           clear H
           go_wp2
           go_meet
           case rel => exact ⟨_, (true), tq_33, H', ⟨(by have := HJ3.out; have := HJ11.out; have := HJ23.out; have := HJ76.out; first | omega | exact Nat.le_refl _)⟩, ⟨tq_22⟩, ⟨tq_21⟩, ⟨tq_20⟩, ⟨tq_19⟩, ⟨tq_18⟩, ⟨tq_17⟩, ⟨tq_3⟩, ⟨tq_4⟩, ⟨tq_6⟩, ⟨tq_8⟩, ⟨tq_12⟩, ⟨tq_1⟩⟩
          ·rw [if_neg c92] at H
           have c92b0 : decide (t342 < 0) = false := decide_eq_false c92
           clear c92
           (first | rw [c92b0] | (simp only [i64_w, i32_w]; rw [c92b0]) | skip)
           replace H := Option.bind_eq_some_iff.mp H
           obtain ⟨t345, A930, H⟩ := H
           replace H : (laws_FnExactWithEntry.j4 kj76 (!t345) a0_0 a0_1 a0_2 a0_3 l0_4 l0_5 a1_0 a1_1 t295 t296 t297 t298 t299 t302 t319 t320 t321 t322 t323 t326) = some r := H
           have A93 := Aside0.mk A930
           clear A930
           have H' := Aside0.mk H
           clear H
           have hnb94 := NB329_279.out
           have hnc94 := NB279_329.out
           have hnb95 := NB329_280.out
           have hnc95 := NB280_329.out
           have hnb96 := NB329_305.out
           have hnc96 := NB305_329.out
           have hnb97 := NB329_316.out
           have hnc97 := NB316_329.out
           have hcz98_0 := bc_ BK329.out 0
           have hcz98_1 := bc_ BK329.out 1
           have hcz98_2 := bc_ BK329.out 2
           have hcz98_3 := bc_ BK329.out 3
           have hcz98_4 := bc_ BK329.out 4
           have hcz98_5 := bc_ BK329.out 5
           have hfz98_0 := blk_frozen BK329.out 0
           have hfz98_1 := blk_frozen BK329.out 1
           have hfz98_2 := blk_frozen BK329.out 2
           have hfz98_3 := blk_frozen BK329.out 3
           have hfz98_4 := blk_frozen BK329.out 4
           have hfz98_5 := blk_frozen BK329.out 5
           have hnb99 := NB305_279.out
           have hnc99 := NB279_305.out
           have hnb100 := NB305_280.out
           have hnc100 := NB280_305.out
           have hnb101 := NB305_316.out
           have hnc101 := NB316_305.out
           have hcz102_0 := bc_ BK305.out 0
           have hcz102_1 := bc_ BK305.out 1
           have hcz102_2 := bc_ BK305.out 2
           have hcz102_3 := bc_ BK305.out 3
           have hcz102_4 := bc_ BK305.out 4
           have hcz102_5 := bc_ BK305.out 5
           have hfz102_0 := blk_frozen BK305.out 0
           have hfz102_1 := blk_frozen BK305.out 1
           have hfz102_2 := blk_frozen BK305.out 2
           have hfz102_3 := blk_frozen BK305.out 3
           have hfz102_4 := blk_frozen BK305.out 4
           have hfz102_5 := blk_frozen BK305.out 5
           go_wp2_with (first | (go_at_call 30; (with_reducible refine (laws_eqInode.calls kj76 t319 t320 t321 t322 _ _ t323 _ _ t326 t295 t296 t297 t298 _ _ t299 _ _ t302 t345 _ ?side1 ?side2 ?side3 ?side4 ?side5 ?side6 ?side7 ?side8 A93.out).mono ?_); (case side1 => exact tq_75); (case side2 => exact (Kd.R_reads' HO_330004.out).2.1); (case side3 => exact tq_74); (case side4 => exact (Kd.R_reads' HO_330005.out).2.1); (case side5 => repeat (first | exact (Kd.R_reads' HO_306004.out).2.2 | (with_reducible refine Kd.C_alloc ?_ _) | (with_reducible refine Kd.C_drewN ?_ _) | (with_reducible refine Kd.C_drew ?_))); (case side6 => exact (Kd.R_reads' HO_306004.out).2.1); (case side7 => repeat (first | exact (Kd.R_reads' HO_306005.out).2.2 | (with_reducible refine Kd.C_alloc ?_ _) | (with_reducible refine Kd.C_drewN ?_ _) | (with_reducible refine Kd.C_drew ?_))); (case side8 => exact (Kd.R_reads' HO_306005.out).2.1); rintro e w103 ⟨rfl, hb⟩; have z_ := p_ (Kd.R_below tq_22 hb) <| p_ (Kd.R_below tq_21 hb) <| p_ (Kd.R_below tq_20 hb) <| p_ (Kd.R_below tq_19 hb) <| p_ (Kd.R_below tq_18 hb) <| p_ (Kd.R_below tq_17 hb) <| p_ (blk_below tq_3 hb) <| p_ (blk_below tq_4 hb) <| p_ (blk_below tq_6 hb) <| p_ (blk_below tq_8 hb) <| p_ (blk_below tq_12 hb) <| a_ (below_step tq_1 hb); clear HO_306004 HO_306005 HO_317004 HO_317005 HO_330004 HO_330005 BK279 BK280 BK305 BK316 BK329 HB; obtain ⟨HO_306004, HO_306005, HO_317004, HO_317005, HO_330004, HO_330005, BK279, BK280, BK305, BK316, BK329, HB⟩ := z_; (try clear hb); (try clear hb2); (try clear hk); (try clear hi)))
           go_meet
           case rel => exact ⟨_, (!t345), tq_33, H', ⟨(by have := HJ3.out; have := HJ11.out; have := HJ23.out; have := HJ76.out; first | omega | exact Nat.le_refl _)⟩, ⟨tq_22⟩, ⟨tq_21⟩, ⟨tq_20⟩, ⟨tq_19⟩, ⟨tq_18⟩, ⟨tq_17⟩, ⟨tq_3⟩, ⟨tq_4⟩, ⟨tq_6⟩, ⟨tq_8⟩, ⟨tq_12⟩, ⟨tq_1⟩⟩
         case rest =>
          clear HC85
          try clear c1
          try clear c2
          try clear p2
          try clear c3
          try clear c6
          try clear c7
          try clear c8
          try clear c9
          try clear c10
          try clear c28
          try clear c30
          try clear c31
          try clear c35
          try clear c36
          try clear c66
          try clear c67
          try clear c68
          try clear c69
          try clear c71
          try clear c74
          try clear c83
          try clear c86
          try clear c87
          try clear c88
          try clear c89
          try clear c92
          try clear c92b0
          try clear c94
          try clear c95
          try clear c96
          try clear c97
          try clear c99
          try clear c100
          try clear c101
          try clear hcz102_0 hcz102_1 hcz102_2 hcz102_3 hcz102_4 hcz102_5
          try clear hcz70_0 hcz70_1 hcz70_2 hcz70_3 hcz70_4 hcz70_5
          try clear hcz72_0 hcz72_1 hcz72_2 hcz72_3 hcz72_4 hcz72_5
          try clear hcz90_0 hcz90_1 hcz90_2 hcz90_3 hcz90_4 hcz90_5
          try clear hcz98_0 hcz98_1 hcz98_2 hcz98_3 hcz98_4 hcz98_5
          try clear hfz102_0 hfz102_1 hfz102_2 hfz102_3 hfz102_4 hfz102_5
          try clear hfz70_0 hfz70_1 hfz70_2 hfz70_3 hfz70_4 hfz70_5
          try clear hfz72_0 hfz72_1 hfz72_2 hfz72_3 hfz72_4 hfz72_5
          try clear hfz90_0 hfz90_1 hfz90_2 hfz90_3 hfz90_4 hfz90_5
          try clear hfz98_0 hfz98_1 hfz98_2 hfz98_3 hfz98_4 hfz98_5
          try clear p2
          obtain ⟨kq, x53_84, rfl, HA, HJ84, HO_306004, HO_306005, HO_317004, HO_317005, HO_330004, HO_330005, BK279, BK280, BK305, BK316, BK329, HB⟩ := hcut
          have hl317004_84 := (Kd.R_reads' HO_317004.out).1
          rw [hl317004_84] at HO_317004
          (try simp only [hl317004_84])
          (try simp only [hl317004_84] at BK279)
          (try simp only [hl317004_84] at BK280)
          (try simp only [hl317004_84] at BK305)
          (try simp only [hl317004_84] at BK316)
          (try simp only [hl317004_84] at BK329)
          (try simp only [hl317004_84] at HO_306004)
          (try simp only [hl317004_84] at HO_306005)
          (try simp only [hl317004_84] at HO_317005)
          (try simp only [hl317004_84] at HO_330004)
          (try simp only [hl317004_84] at HO_330005)
          have hl317005_84 := (Kd.R_reads' HO_317005.out).1
          rw [hl317005_84] at HO_317005
          (try simp only [hl317005_84])
          (try simp only [hl317005_84] at BK279)
          (try simp only [hl317005_84] at BK280)
          (try simp only [hl317005_84] at BK305)
          (try simp only [hl317005_84] at BK316)
          (try simp only [hl317005_84] at BK329)
          (try simp only [hl317005_84] at HO_306004)
          (try simp only [hl317005_84] at HO_306005)
          (try simp only [hl317005_84] at HO_317004)
          (try simp only [hl317005_84] at HO_330004)
          (try simp only [hl317005_84] at HO_330005)
          cases kq with
          | zero => exact absurd HA.out (by simp [laws_FnExactWithEntry.j4])
          | succ kj84 =>
           have H := HA.out
           clear HA
           simp only [laws_FnExactWithEntry.j4] at H
           have HC104 := Aside0.mk H
           clear H
           go_upto_if 53 with (fail)
           go_cut [] (fun wc => ∃ (kq : Nat), Aside0 (laws_FnExactWithEntry.j5 kq a0_0 a0_1 a0_2 a0_3 l0_4 l0_5 a1_0 a1_1 t295 t296 t297 t298 t299 t302 t319 t320 t321 t322 t323 t326 = some r) ∧ Aside0 (kq ≤ kj84) ∧ Aside0 (Kd.R k170 170 wc w.heap.size (fun k_ => some k_ ≠ ((.slice Ao50 t343.length co50) : Value).ownBlock ∧ some k_ ≠ ((.slice Ao62 t323.length co62) : Value).ownBlock) (.slice Ao37 t299.length co37) t299) ∧ Aside0 (Kd.R k59 59 wc w.heap.size (fun k_ => some k_ ≠ ((.slice Ao51 t344.length co51) : Value).ownBlock ∧ some k_ ≠ ((.slice Ao64 t326.length co64) : Value).ownBlock) (.slice Ao39 t302.length co39) t302) ∧ Aside0 (Kd.R k170 170 wc w.heap.size (fun k_ => some k_ ≠ ((.slice Ao37 t299.length co37) : Value).ownBlock ∧ some k_ ≠ ((.slice Ao62 t323.length co62) : Value).ownBlock) (.slice Ao50 t343.length co50) t343) ∧ Aside0 (Kd.R k59 59 wc w.heap.size (fun k_ => some k_ ≠ ((.slice Ao39 t302.length co39) : Value).ownBlock ∧ some k_ ≠ ((.slice Ao64 t326.length co64) : Value).ownBlock) (.slice Ao51 t344.length co51) t344) ∧ Aside0 (Kd.R k170 170 wc w.heap.size (fun k_ => some k_ ≠ ((.slice Ao37 t299.length co37) : Value).ownBlock ∧ some k_ ≠ ((.slice Ao50 t343.length co50) : Value).ownBlock) (.slice Ao62 t323.length co62) t323) ∧ Aside0 (Kd.R k59 59 wc w.heap.size (fun k_ => some k_ ≠ ((.slice Ao39 t302.length co39) : Value).ownBlock ∧ some k_ ≠ ((.slice Ao51 t344.length co51) : Value).ownBlock) (.slice Ao64 t326.length co64) t326) ∧ Aside0 (wc.heap[gb279]? = some (.cells #[.int .i64 a0_0, .int .i64 a0_1, .int .i64 a0_2, .string a0_3, (.slice A0_4 l0_4.length c0_4), (.slice A0_5 l0_5.length c0_5)] 44 (0, 0))) ∧ Aside0 (wc.heap[gb280]? = some (.cells #[.int .i64 a1_0, .string a1_1] 56 (0, 0))) ∧ Aside0 (wc.heap[gb305]? = some (.cells #[.int .i64 t295, .int .i64 t296, .int .i64 t297, .string t298, (.slice Ao37 t299.length co37), (.slice Ao39 t302.length co39)] 49 (0, 0))) ∧ Aside0 (wc.heap[gb316]? = some (.cells #[.int .i64 t306, .int .i64 t307, .int .i64 t308, .string t309, (.slice Ao50 t343.length co50), (.slice Ao51 t344.length co51)] 49 (0, 0))) ∧ Aside0 (wc.heap[gb329]? = some (.cells #[.int .i64 t319, .int .i64 t320, .int .i64 t321, .string t322, (.slice Ao62 t323.length co62), (.slice Ao64 t326.length co64)] 49 (0, 0))) ∧ Aside0 (Below w.heap.size w wc))
           case first =>
            have H := HC104.out
            clear HC104
            by_cases c105 : x53_84 = true
            ·subst c105
             have H1 : (some false) = some r := by rw [if_pos rfl] at H; exact H
             clear H
             have H := H1
             clear H1
             obtain rfl := Option.some.inj H
             go_wp2
             go_ret
             exact ⟨tq_7, tq_1⟩
            ·replace c105 := Bool.eq_false_iff.mpr c105
             subst c105
             have H1 : (laws_FnExactWithEntry.j5 kj84 a0_0 a0_1 a0_2 a0_3 l0_4 l0_5 a1_0 a1_1 t295 t296 t297 t298 t299 t302 t319 t320 t321 t322 t323 t326) = some r := by rw [if_neg (show ¬ (false = true) by decide)] at H; exact H
             clear H
             have H := H1
             clear H1
             have H' := Aside0.mk H
             clear H
             go_wp2
             go_meet
             case rel => exact ⟨_, H', ⟨(by have := HJ3.out; have := HJ11.out; have := HJ23.out; have := HJ76.out; have := HJ84.out; first | omega | exact Nat.le_refl _)⟩, ⟨tq_175⟩, ⟨tq_174⟩, ⟨tq_173⟩, ⟨tq_172⟩, ⟨tq_171⟩, ⟨tq_170⟩, ⟨tq_169⟩, ⟨tq_168⟩, ⟨tq_167⟩, ⟨tq_166⟩, ⟨tq_165⟩, ⟨tq_1⟩⟩
           case rest =>
            clear HC104
            try clear c1
            try clear c2
            try clear p2
            try clear c3
            try clear c6
            try clear c7
            try clear c8
            try clear c9
            try clear c10
            try clear c28
            try clear c30
            try clear c31
            try clear c35
            try clear c36
            try clear c66
            try clear c67
            try clear c68
            try clear c69
            try clear c71
            try clear c74
            try clear c83
            try clear c86
            try clear c87
            try clear c88
            try clear c89
            try clear c92
            try clear c92b0
            try clear c94
            try clear c95
            try clear c96
            try clear c97
            try clear c99
            try clear c100
            try clear c101
            try clear c105
            try clear hcz102_0 hcz102_1 hcz102_2 hcz102_3 hcz102_4 hcz102_5
            try clear hcz70_0 hcz70_1 hcz70_2 hcz70_3 hcz70_4 hcz70_5
            try clear hcz72_0 hcz72_1 hcz72_2 hcz72_3 hcz72_4 hcz72_5
            try clear hcz90_0 hcz90_1 hcz90_2 hcz90_3 hcz90_4 hcz90_5
            try clear hcz98_0 hcz98_1 hcz98_2 hcz98_3 hcz98_4 hcz98_5
            try clear hfz102_0 hfz102_1 hfz102_2 hfz102_3 hfz102_4 hfz102_5
            try clear hfz70_0 hfz70_1 hfz70_2 hfz70_3 hfz70_4 hfz70_5
            try clear hfz72_0 hfz72_1 hfz72_2 hfz72_3 hfz72_4 hfz72_5
            try clear hfz90_0 hfz90_1 hfz90_2 hfz90_3 hfz90_4 hfz90_5
            try clear hfz98_0 hfz98_1 hfz98_2 hfz98_3 hfz98_4 hfz98_5
            try clear p2
            obtain ⟨kq, HA, HJ103, HO_306004, HO_306005, HO_317004, HO_317005, HO_330004, HO_330005, BK279, BK280, BK305, BK316, BK329, HB⟩ := hcut
            cases kq with
            | zero => exact absurd HA.out (by simp [laws_FnExactWithEntry.j5])
            | succ kj103 =>
             have H := HA.out
             clear HA
             simp only [laws_FnExactWithEntry.j5] at H
             replace H := Option.bind_eq_some_iff.mp H
             obtain ⟨⟨t346, t347, t348⟩, A1060, H⟩ := H
             replace H : ((laws_heldInode.f kj103 t319 t320 t321 t322 t347 t348 1).bind fun t349 => (if t349 < 0 then (some false) else (laws_FnExactWithEntry.j6 kj103 t346 t349 a0_0 a0_1 a0_2 a0_3 l0_4 l0_5 a1_0 a1_1 t295 t296 t297 t298 t299 t302 t319 t320 t321 t322 t347 t348))) = some r := H
             have A106 := Aside0.mk A1060
             clear A1060
             replace H := Option.bind_eq_some_iff.mp H
             obtain ⟨t349, A1070, H⟩ := H
             replace H : (if t349 < 0 then (some false) else (laws_FnExactWithEntry.j6 kj103 t346 t349 a0_0 a0_1 a0_2 a0_3 l0_4 l0_5 a1_0 a1_1 t295 t296 t297 t298 t299 t302 t319 t320 t321 t322 t347 t348)) = some r := H
             have A107 := Aside0.mk A1070
             clear A1070
             have HC108 := Aside0.mk H
             clear H
             have hnb109 := NB329_279.out
             have hnc109 := NB279_329.out
             have hnb110 := NB329_280.out
             have hnc110 := NB280_329.out
             have hnb111 := NB329_305.out
             have hnc111 := NB305_329.out
             have hnb112 := NB329_316.out
             have hnc112 := NB316_329.out
             have hcz113_0 := bc_ BK329.out 0
             have hcz113_1 := bc_ BK329.out 1
             have hcz113_2 := bc_ BK329.out 2
             have hcz113_3 := bc_ BK329.out 3
             have hcz113_4 := bc_ BK329.out 4
             have hcz113_5 := bc_ BK329.out 5
             have hfz113_0 := blk_frozen BK329.out 0
             have hfz113_1 := blk_frozen BK329.out 1
             have hfz113_2 := blk_frozen BK329.out 2
             have hfz113_3 := blk_frozen BK329.out 3
             have hfz113_4 := blk_frozen BK329.out 4
             have hfz113_5 := blk_frozen BK329.out 5
             go_upto_if 61 with (first | ((with_reducible refine gate_callee (f := 31) rfl ?_); refine goesL_ (some 56) rfl rfl Try.func31 (by kernel_rfl) rfl #[.agg #[.int .i64 t319, .int .i64 t320, .int .i64 t321, .string t322, .slice Ao62 t323.length co62, .slice Ao64 t326.length co64], .int .i64 1] rfl tq_2 ?_; (with_reducible refine (laws_markInode.calls kj103 t319 t320 t321 t322 (fun k_ => some k_ = (.slice Ao62 t323.length co62 : Value).ownBlock) (.slice Ao62 t323.length co62) t323 (fun k_ => some k_ = (.slice Ao64 t326.length co64 : Value).ownBlock) (.slice Ao64 t326.length co64) t326 1 t346 t347 t348 w _ ?side1 ?side2 ?side3 A106.out).mono ?_); (case side1 => exact tq_149); (case side2 => exact Kd.R_tight rfl HO_330004.out); (case side3 => exact Kd.R_tight rfl HO_330005.out); rintro e w114 ⟨rfl, hy0, hy1, hb, hkp⟩; refine ⟨_, rfl, ?_⟩; have z_ := p_ (Kd.R_mono (ok' := fun k_ => some k_ ≠ (.slice Ao50 t343.length co50 : Value).ownBlock ∧ some k_ ≠ (.slice Ao62 t323.length co62 : Value).ownBlock) (Kd.R_keptB ((Kd.R_apart' HO_306004.out (Kd.R_typed HO_330005.out) (by decide))) hkp (fun k_ hk_ hs_ => Or.elim hs_ (fun e_ => (hk_.1.2) e_) (fun e_ => (hk_.2) e_))) (fun k_ hk_ => ⟨hk_.1.1.1, hk_.1.1.2⟩)) <| p_ (Kd.R_mono (ok' := fun k_ => some k_ ≠ (.slice Ao51 t344.length co51 : Value).ownBlock ∧ some k_ ≠ (.slice Ao64 t326.length co64 : Value).ownBlock) (Kd.R_keptB ((Kd.R_apart' HO_306005.out (Kd.R_typed HO_330004.out) (by decide))) hkp (fun k_ hk_ hs_ => Or.elim hs_ (fun e_ => (hk_.2) e_) (fun e_ => (hk_.1.2) e_))) (fun k_ hk_ => ⟨hk_.1.1.1, hk_.1.1.2⟩)) <| p_ (Kd.R_mono (ok' := fun k_ => some k_ ≠ (.slice Ao37 t299.length co37 : Value).ownBlock ∧ some k_ ≠ (.slice Ao62 t323.length co62 : Value).ownBlock) (Kd.R_keptB ((Kd.R_apart' HO_317004.out (Kd.R_typed HO_330005.out) (by decide))) hkp (fun k_ hk_ hs_ => Or.elim hs_ (fun e_ => (hk_.1.2) e_) (fun e_ => (hk_.2) e_))) (fun k_ hk_ => ⟨hk_.1.1.1, hk_.1.1.2⟩)) <| p_ (Kd.R_mono (ok' := fun k_ => some k_ ≠ (.slice Ao39 t302.length co39 : Value).ownBlock ∧ some k_ ≠ (.slice Ao64 t326.length co64 : Value).ownBlock) (Kd.R_keptB ((Kd.R_apart' HO_317005.out (Kd.R_typed HO_330004.out) (by decide))) hkp (fun k_ hk_ hs_ => Or.elim hs_ (fun e_ => (hk_.2) e_) (fun e_ => (hk_.1.2) e_))) (fun k_ hk_ => ⟨hk_.1.1.1, hk_.1.1.2⟩)) <| p_ (Kd.R_reok rfl hy0 (fun k_ e_ => HO_330004.out.1 k_ e_)) <| p_ (Kd.R_reok rfl hy1 (fun k_ e_ => HO_330005.out.1 k_ e_)) <| p_ (blk_kept tq_3 hkp (fun hs_ => Or.elim hs_ (fun e_ => (fun e_ => (Kd.R_ne HO_330004.out BK279.out (by decide)) e_) e_) (fun e_ => (fun e_ => (Kd.R_ne HO_330005.out BK279.out (by decide)) e_) e_))) <| p_ (blk_kept tq_4 hkp (fun hs_ => Or.elim hs_ (fun e_ => (fun e_ => (Kd.R_ne HO_330004.out BK280.out (by decide)) e_) e_) (fun e_ => (fun e_ => (Kd.R_ne HO_330005.out BK280.out (by decide)) e_) e_))) <| p_ (blk_kept tq_6 hkp (fun hs_ => Or.elim hs_ (fun e_ => (fun e_ => (Kd.R_ne HO_330004.out BK305.out (by decide)) e_) e_) (fun e_ => (fun e_ => (Kd.R_ne HO_330005.out BK305.out (by decide)) e_) e_))) <| p_ (blk_kept tq_8 hkp (fun hs_ => Or.elim hs_ (fun e_ => (fun e_ => (Kd.R_ne HO_330004.out BK316.out (by decide)) e_) e_) (fun e_ => (fun e_ => (Kd.R_ne HO_330005.out BK316.out (by decide)) e_) e_))) <| p_ (blk_kept tq_12 hkp (fun hs_ => Or.elim hs_ (fun e_ => (fun e_ => (Kd.R_ne HO_330004.out BK329.out (by decide)) e_) e_) (fun e_ => (fun e_ => (Kd.R_ne HO_330005.out BK329.out (by decide)) e_) e_))) <| a_ (hb); clear HO_306004 HO_306005 HO_317004 HO_317005 HO_330004 HO_330005 BK279 BK280 BK305 BK316 BK329 HB; obtain ⟨HO_306004, HO_306005, HO_317004, HO_317005, HO_330004, HO_330005, BK279, BK280, BK305, BK316, BK329, HB⟩ := z_; (try clear hb); (try clear hkp); (try clear hy0); (try clear hy1); have hcz115_0 := bc_ BK329.out 0; have hcz115_1 := bc_ BK329.out 1; have hcz115_2 := bc_ BK329.out 2; have hcz115_3 := bc_ BK329.out 3; have hcz115_4 := bc_ BK329.out 4; have hcz115_5 := bc_ BK329.out 5; have hfz115_0 := blk_frozen BK329.out 0; have hfz115_1 := blk_frozen BK329.out 1; have hfz115_2 := blk_frozen BK329.out 2; have hfz115_3 := blk_frozen BK329.out 3; have hfz115_4 := blk_frozen BK329.out 4; have hfz115_5 := blk_frozen BK329.out 5) | ((with_reducible refine gate_callee (f := 32) rfl ?_); refine goesL_ (some 59) rfl rfl Try.func32 (by kernel_rfl) rfl #[.agg #[.int .i64 t319, .int .i64 t320, .int .i64 t321, .string t322, .slice Ao62 t347.length co62, .slice Ao64 t348.length co64], .int .i64 1] rfl (by (try simp only [List.map_toArray, List.map_cons, List.map_nil]); first | done | (rw [show t347.length = t323.length from (Kd.R_reads' HO_330004.out).1.symm, show t348.length = t326.length from (Kd.R_reads' HO_330005.out).1.symm] <;> rfl) | rfl | (simp only [List.length_drop, List.length_take]; rfl)) ?_; (with_reducible refine (laws_heldInode.calls kj103 t319 t320 t321 t322 _ _ t347 _ _ t348 1 t349 _ ?side1 ?side2 ?side3 ?side4 A107.out).mono ?_); (case side1 => exact tq_75); (case side2 => rw [show t347.length = t323.length from (Kd.R_reads' HO_330004.out).1.symm]; exact (Kd.R_reads' HO_330004.out).2.1); (case side3 => exact tq_74); (case side4 => rw [show t348.length = t326.length from (Kd.R_reads' HO_330005.out).1.symm]; exact (Kd.R_reads' HO_330005.out).2.1); rintro e w116 ⟨rfl, hb⟩; refine ⟨_, rfl, ?_⟩; have z_ := p_ (Kd.R_below tq_22 hb) <| p_ (Kd.R_below tq_21 hb) <| p_ (Kd.R_below tq_20 hb) <| p_ (Kd.R_below tq_19 hb) <| p_ (Kd.R_below tq_18 hb) <| p_ (Kd.R_below tq_17 hb) <| p_ (blk_below tq_3 hb) <| p_ (blk_below tq_4 hb) <| p_ (blk_below tq_6 hb) <| p_ (blk_below tq_8 hb) <| p_ (blk_below tq_12 hb) <| a_ (below_step tq_1 hb); clear HO_306004 HO_306005 HO_317004 HO_317005 HO_330004 HO_330005 BK279 BK280 BK305 BK316 BK329 HB; obtain ⟨HO_306004, HO_306005, HO_317004, HO_317005, HO_330004, HO_330005, BK279, BK280, BK305, BK316, BK329, HB⟩ := z_; (try clear hb); (try clear hb2); (try clear hk); (try clear hi)))
             (try simp only [Act.put, List.setIfInBounds_toArray, List.set_cons_zero, List.set_cons_succ])
             go_cut [] (fun wc => ∃ (kq : Nat), Aside0 (laws_FnExactWithEntry.j6 kq t346 t349 a0_0 a0_1 a0_2 a0_3 l0_4 l0_5 a1_0 a1_1 t295 t296 t297 t298 t299 t302 t319 t320 t321 t322 t347 t348 = some r) ∧ Aside0 (kq ≤ kj103) ∧ Aside0 (Kd.R k170 170 wc w.heap.size (fun k_ => some k_ ≠ ((.slice Ao50 t343.length co50) : Value).ownBlock ∧ some k_ ≠ ((.slice Ao62 t323.length co62) : Value).ownBlock) (.slice Ao37 t299.length co37) t299) ∧ Aside0 (Kd.R k59 59 wc w.heap.size (fun k_ => some k_ ≠ ((.slice Ao51 t344.length co51) : Value).ownBlock ∧ some k_ ≠ ((.slice Ao64 t326.length co64) : Value).ownBlock) (.slice Ao39 t302.length co39) t302) ∧ Aside0 (Kd.R k170 170 wc w.heap.size (fun k_ => some k_ ≠ ((.slice Ao37 t299.length co37) : Value).ownBlock ∧ some k_ ≠ ((.slice Ao62 t323.length co62) : Value).ownBlock) (.slice Ao50 t343.length co50) t343) ∧ Aside0 (Kd.R k59 59 wc w.heap.size (fun k_ => some k_ ≠ ((.slice Ao39 t302.length co39) : Value).ownBlock ∧ some k_ ≠ ((.slice Ao64 t326.length co64) : Value).ownBlock) (.slice Ao51 t344.length co51) t344) ∧ Aside0 (Kd.R k170 170 wc w.heap.size (fun k_ => some k_ ≠ ((.slice Ao37 t299.length co37) : Value).ownBlock ∧ some k_ ≠ ((.slice Ao50 t343.length co50) : Value).ownBlock) (.slice Ao62 t323.length co62) t347) ∧ Aside0 (Kd.R k59 59 wc w.heap.size (fun k_ => some k_ ≠ ((.slice Ao39 t302.length co39) : Value).ownBlock ∧ some k_ ≠ ((.slice Ao51 t344.length co51) : Value).ownBlock) (.slice Ao64 t326.length co64) t348) ∧ Aside0 (wc.heap[gb279]? = some (.cells #[.int .i64 a0_0, .int .i64 a0_1, .int .i64 a0_2, .string a0_3, (.slice A0_4 l0_4.length c0_4), (.slice A0_5 l0_5.length c0_5)] 44 (0, 0))) ∧ Aside0 (wc.heap[gb280]? = some (.cells #[.int .i64 a1_0, .string a1_1] 56 (0, 0))) ∧ Aside0 (wc.heap[gb305]? = some (.cells #[.int .i64 t295, .int .i64 t296, .int .i64 t297, .string t298, (.slice Ao37 t299.length co37), (.slice Ao39 t302.length co39)] 49 (0, 0))) ∧ Aside0 (wc.heap[gb316]? = some (.cells #[.int .i64 t306, .int .i64 t307, .int .i64 t308, .string t309, (.slice Ao50 t343.length co50), (.slice Ao51 t344.length co51)] 49 (0, 0))) ∧ Aside0 (wc.heap[gb329]? = some (.cells #[.int .i64 t319, .int .i64 t320, .int .i64 t321, .string t322, (.slice Ao62 t323.length co62), (.slice Ao64 t326.length co64)] 49 (0, 0))) ∧ Aside0 (Below w.heap.size w wc))
             case first =>
              have H := HC108.out
              clear HC108
              by_cases c117 : t349 < 0
              ·rw [if_pos c117] at H
               have c117b0 : decide (t349 < 0) = true := decide_eq_true c117
               clear c117
               (first | rw [c117b0] | (simp only [i64_w, i32_w]; rw [c117b0]) | skip)
               obtain rfl := Option.some.inj H
               go_wp2
               go_ret
               exact ⟨tq_7, tq_1⟩
              ·rw [if_neg c117] at H
               have c117b0 : decide (t349 < 0) = false := decide_eq_false c117
               clear c117
               (first | rw [c117b0] | (simp only [i64_w, i32_w]; rw [c117b0]) | skip)
               have H' := Aside0.mk H
               clear H
               go_wp2
               go_meet
               case rel => exact ⟨_, H', ⟨(by have := HJ3.out; have := HJ11.out; have := HJ23.out; have := HJ76.out; have := HJ84.out; have := HJ103.out; first | omega | exact Nat.le_refl _)⟩, ⟨tq_175⟩, ⟨tq_174⟩, ⟨tq_173⟩, ⟨tq_172⟩, ⟨tq_171⟩, ⟨tq_170⟩, ⟨tq_169⟩, ⟨tq_168⟩, ⟨tq_167⟩, ⟨tq_166⟩, ⟨tq_165⟩, ⟨tq_1⟩⟩
             case rest =>
              clear HC108
              try clear c1
              try clear c2
              try clear p2
              try clear c3
              try clear c6
              try clear c7
              try clear c8
              try clear c9
              try clear c10
              try clear c11
              try clear c28
              try clear c30
              try clear c31
              try clear c32
              try clear c35
              try clear c36
              try clear c66
              try clear c67
              try clear c68
              try clear c69
              try clear c71
              try clear c74
              try clear c83
              try clear c86
              try clear c87
              try clear c88
              try clear c89
              try clear c92
              try clear c92b0
              try clear c94
              try clear c95
              try clear c96
              try clear c97
              try clear c99
              try clear c100
              try clear c101
              try clear c105
              try clear c109
              try clear c110
              try clear c111
              try clear c112
              try clear c117
              try clear c117b0
              try clear hcz102_0 hcz102_1 hcz102_2 hcz102_3 hcz102_4 hcz102_5
              try clear hcz113_0 hcz113_1 hcz113_2 hcz113_3 hcz113_4 hcz113_5
              try clear hcz115_0 hcz115_1 hcz115_2 hcz115_3 hcz115_4 hcz115_5
              try clear hcz70_0 hcz70_1 hcz70_2 hcz70_3 hcz70_4 hcz70_5
              try clear hcz72_0 hcz72_1 hcz72_2 hcz72_3 hcz72_4 hcz72_5
              try clear hcz90_0 hcz90_1 hcz90_2 hcz90_3 hcz90_4 hcz90_5
              try clear hcz98_0 hcz98_1 hcz98_2 hcz98_3 hcz98_4 hcz98_5
              try clear hfz102_0 hfz102_1 hfz102_2 hfz102_3 hfz102_4 hfz102_5
              try clear hfz113_0 hfz113_1 hfz113_2 hfz113_3 hfz113_4 hfz113_5
              try clear hfz115_0 hfz115_1 hfz115_2 hfz115_3 hfz115_4 hfz115_5
              try clear hfz70_0 hfz70_1 hfz70_2 hfz70_3 hfz70_4 hfz70_5
              try clear hfz72_0 hfz72_1 hfz72_2 hfz72_3 hfz72_4 hfz72_5
              try clear hfz90_0 hfz90_1 hfz90_2 hfz90_3 hfz90_4 hfz90_5
              try clear hfz98_0 hfz98_1 hfz98_2 hfz98_3 hfz98_4 hfz98_5
              try clear p2
              obtain ⟨kq, HA, HJ107, HO_306004, HO_306005, HO_317004, HO_317005, HO_330004, HO_330005, BK279, BK280, BK305, BK316, BK329, HB⟩ := hcut
              have hl330004_107 := (Kd.R_reads' HO_330004.out).1
              rw [hl330004_107] at HO_330004
              (try simp only [hl330004_107])
              (try simp only [hl330004_107] at BK279)
              (try simp only [hl330004_107] at BK280)
              (try simp only [hl330004_107] at BK305)
              (try simp only [hl330004_107] at BK316)
              (try simp only [hl330004_107] at BK329)
              (try simp only [hl330004_107] at HO_306004)
              (try simp only [hl330004_107] at HO_306005)
              (try simp only [hl330004_107] at HO_317004)
              (try simp only [hl330004_107] at HO_317005)
              (try simp only [hl330004_107] at HO_330005)
              have hl330005_107 := (Kd.R_reads' HO_330005.out).1
              rw [hl330005_107] at HO_330005
              (try simp only [hl330005_107])
              (try simp only [hl330005_107] at BK279)
              (try simp only [hl330005_107] at BK280)
              (try simp only [hl330005_107] at BK305)
              (try simp only [hl330005_107] at BK316)
              (try simp only [hl330005_107] at BK329)
              (try simp only [hl330005_107] at HO_306004)
              (try simp only [hl330005_107] at HO_306005)
              (try simp only [hl330005_107] at HO_317004)
              (try simp only [hl330005_107] at HO_317005)
              (try simp only [hl330005_107] at HO_330004)
              cases kq with
              | zero => exact absurd HA.out (by simp [laws_FnExactWithEntry.j6])
              | succ kj107 =>
               have H := HA.out
               clear HA
               simp only [laws_FnExactWithEntry.j6] at H
               have HC118 := Aside0.mk H
               clear H
               go_upto_if 64 with (fail)
               go_cut [] (fun wc => ∃ (kq : Nat), Aside0 (laws_FnExactWithEntry.j7 kq t346 a0_0 a0_1 a0_2 a0_3 l0_4 l0_5 a1_0 a1_1 t295 t296 t297 t298 t299 t302 t319 t320 t321 t322 t347 t348 = some r) ∧ Aside0 (kq ≤ kj107) ∧ Aside0 (Kd.R k170 170 wc w.heap.size (fun k_ => some k_ ≠ ((.slice Ao50 t343.length co50) : Value).ownBlock ∧ some k_ ≠ ((.slice Ao62 t347.length co62) : Value).ownBlock) (.slice Ao37 t299.length co37) t299) ∧ Aside0 (Kd.R k59 59 wc w.heap.size (fun k_ => some k_ ≠ ((.slice Ao51 t344.length co51) : Value).ownBlock ∧ some k_ ≠ ((.slice Ao64 t348.length co64) : Value).ownBlock) (.slice Ao39 t302.length co39) t302) ∧ Aside0 (Kd.R k170 170 wc w.heap.size (fun k_ => some k_ ≠ ((.slice Ao37 t299.length co37) : Value).ownBlock ∧ some k_ ≠ ((.slice Ao62 t347.length co62) : Value).ownBlock) (.slice Ao50 t343.length co50) t343) ∧ Aside0 (Kd.R k59 59 wc w.heap.size (fun k_ => some k_ ≠ ((.slice Ao39 t302.length co39) : Value).ownBlock ∧ some k_ ≠ ((.slice Ao64 t348.length co64) : Value).ownBlock) (.slice Ao51 t344.length co51) t344) ∧ Aside0 (Kd.R k170 170 wc w.heap.size (fun k_ => some k_ ≠ ((.slice Ao37 t299.length co37) : Value).ownBlock ∧ some k_ ≠ ((.slice Ao50 t343.length co50) : Value).ownBlock) (.slice Ao62 t347.length co62) t347) ∧ Aside0 (Kd.R k59 59 wc w.heap.size (fun k_ => some k_ ≠ ((.slice Ao39 t302.length co39) : Value).ownBlock ∧ some k_ ≠ ((.slice Ao51 t344.length co51) : Value).ownBlock) (.slice Ao64 t348.length co64) t348) ∧ Aside0 (wc.heap[gb279]? = some (.cells #[.int .i64 a0_0, .int .i64 a0_1, .int .i64 a0_2, .string a0_3, (.slice A0_4 l0_4.length c0_4), (.slice A0_5 l0_5.length c0_5)] 44 (0, 0))) ∧ Aside0 (wc.heap[gb280]? = some (.cells #[.int .i64 a1_0, .string a1_1] 56 (0, 0))) ∧ Aside0 (wc.heap[gb305]? = some (.cells #[.int .i64 t295, .int .i64 t296, .int .i64 t297, .string t298, (.slice Ao37 t299.length co37), (.slice Ao39 t302.length co39)] 49 (0, 0))) ∧ Aside0 (wc.heap[gb316]? = some (.cells #[.int .i64 t306, .int .i64 t307, .int .i64 t308, .string t309, (.slice Ao50 t343.length co50), (.slice Ao51 t344.length co51)] 49 (0, 0))) ∧ Aside0 (wc.heap[gb329]? = some (.cells #[.int .i64 t319, .int .i64 t320, .int .i64 t321, .string t322, (.slice Ao62 t347.length co62), (.slice Ao64 t348.length co64)] 49 (0, 0))) ∧ Aside0 (Below w.heap.size w wc))
               case first =>
                have H := HC118.out
                clear HC118
                by_cases c119 : t349 = t346
                ·rw [if_pos c119] at H
                 have c119b0 : (t349 == t346) = true := beq_iff_eq.mpr c119
                 have c119b1 : (t349 != t346) = false := bne_eq_false_iff_eq.mpr c119
                 clear c119
                 (first | rw [c119b0] | (simp only [i64_w, i32_w]; rw [c119b0]) | skip)
                 have H' := Aside0.mk H
                 clear H
                 go_wp2
                 go_meet
                 case rel => exact ⟨_, H', ⟨(by have := HJ3.out; have := HJ11.out; have := HJ23.out; have := HJ76.out; have := HJ84.out; have := HJ103.out; have := HJ107.out; first | omega | exact Nat.le_refl _)⟩, ⟨(by (try simp only [hl317004_84]); (try simp only [hl317005_84]); (try simp only [hl330004_107]); (try simp only [hl330005_107]); (with_reducible repeat (first | apply Kd.R_alloc | apply Kd.R_drewN | apply Kd.R_drew)); exact HO_306004.out)⟩, ⟨(by (try simp only [hl317004_84]); (try simp only [hl317005_84]); (try simp only [hl330004_107]); (try simp only [hl330005_107]); (with_reducible repeat (first | apply Kd.R_alloc | apply Kd.R_drewN | apply Kd.R_drew)); exact HO_306005.out)⟩, ⟨(by (try simp only [hl317004_84]); (try simp only [hl317005_84]); (try simp only [hl330004_107]); (try simp only [hl330005_107]); (with_reducible repeat (first | apply Kd.R_alloc | apply Kd.R_drewN | apply Kd.R_drew)); exact HO_317004.out)⟩, ⟨(by (try simp only [hl317004_84]); (try simp only [hl317005_84]); (try simp only [hl330004_107]); (try simp only [hl330005_107]); (with_reducible repeat (first | apply Kd.R_alloc | apply Kd.R_drewN | apply Kd.R_drew)); exact HO_317005.out)⟩, ⟨(by (try simp only [hl317004_84]); (try simp only [hl317005_84]); (try simp only [hl330004_107]); (try simp only [hl330005_107]); (with_reducible repeat (first | apply Kd.R_alloc | apply Kd.R_drewN | apply Kd.R_drew)); exact HO_330004.out)⟩, ⟨(by (try simp only [hl317004_84]); (try simp only [hl317005_84]); (try simp only [hl330004_107]); (try simp only [hl330005_107]); (with_reducible repeat (first | apply Kd.R_alloc | apply Kd.R_drewN | apply Kd.R_drew)); exact HO_330005.out)⟩, ⟨tq_156⟩, ⟨tq_155⟩, ⟨tq_154⟩, ⟨tq_153⟩, ⟨tq_152⟩, ⟨tq_1⟩⟩
                ·rw [if_neg c119] at H
                 have c119b0 : (t349 == t346) = false := beq_eq_false_iff_ne.mpr c119
                 have c119b1 : (t349 != t346) = true := bne_iff_ne.mpr c119
                 (first | rw [c119b0] | (simp only [i64_w, i32_w]; rw [c119b0]) | skip)
                 obtain rfl := Option.some.inj H
                 go_wp2
                 go_ret
                 exact ⟨tq_7, tq_1⟩
               case rest =>
                clear HC118
                try clear c1
                try clear c2
                try clear p2
                try clear c3
                try clear c6
                try clear c7
                try clear c8
                try clear c9
                try clear c10
                try clear c11
                try clear c28
                try clear c30
                try clear c31
                try clear c32
                try clear c35
                try clear c36
                try clear c66
                try clear c67
                try clear c68
                try clear c69
                try clear c71
                try clear c74
                try clear c83
                try clear c86
                try clear c87
                try clear c88
                try clear c89
                try clear c92
                try clear c92b0
                try clear c94
                try clear c95
                try clear c96
                try clear c97
                try clear c99
                try clear c100
                try clear c101
                try clear c105
                try clear c109
                try clear c110
                try clear c111
                try clear c112
                try clear c117
                try clear c117b0
                try clear c119
                try clear c119b0
                try clear c119b1
                try clear hcz102_0 hcz102_1 hcz102_2 hcz102_3 hcz102_4 hcz102_5
                try clear hcz113_0 hcz113_1 hcz113_2 hcz113_3 hcz113_4 hcz113_5
                try clear hcz115_0 hcz115_1 hcz115_2 hcz115_3 hcz115_4 hcz115_5
                try clear hcz70_0 hcz70_1 hcz70_2 hcz70_3 hcz70_4 hcz70_5
                try clear hcz72_0 hcz72_1 hcz72_2 hcz72_3 hcz72_4 hcz72_5
                try clear hcz90_0 hcz90_1 hcz90_2 hcz90_3 hcz90_4 hcz90_5
                try clear hcz98_0 hcz98_1 hcz98_2 hcz98_3 hcz98_4 hcz98_5
                try clear hfz102_0 hfz102_1 hfz102_2 hfz102_3 hfz102_4 hfz102_5
                try clear hfz113_0 hfz113_1 hfz113_2 hfz113_3 hfz113_4 hfz113_5
                try clear hfz115_0 hfz115_1 hfz115_2 hfz115_3 hfz115_4 hfz115_5
                try clear hfz70_0 hfz70_1 hfz70_2 hfz70_3 hfz70_4 hfz70_5
                try clear hfz72_0 hfz72_1 hfz72_2 hfz72_3 hfz72_4 hfz72_5
                try clear hfz90_0 hfz90_1 hfz90_2 hfz90_3 hfz90_4 hfz90_5
                try clear hfz98_0 hfz98_1 hfz98_2 hfz98_3 hfz98_4 hfz98_5
                try clear p2
                obtain ⟨kq, HA, HJ117, HO_306004, HO_306005, HO_317004, HO_317005, HO_330004, HO_330005, BK279, BK280, BK305, BK316, BK329, HB⟩ := hcut
                cases kq with
                | zero => exact absurd HA.out (by simp [laws_FnExactWithEntry.j7])
                | succ kj117 =>
                 have H := HA.out
                 clear HA
                 simp only [laws_FnExactWithEntry.j7] at H
                 replace H := Option.bind_eq_some_iff.mp H
                 obtain ⟨⟨t350, t351, t352, t353, t354, t357⟩, A1200, H⟩ := H
                 replace H : ((laws_toEntry.f a1_0 a1_1).bind fun bt360 => ((impl_WithEntry.f t350 t351 t352 t353 t354 t357 bt360.1 bt360.2).bind fun bt362 => ((laws_eqInode.f kj117 bt362.1 bt362.2.1 bt362.2.2.1 bt362.2.2.2.1 bt362.2.2.2.2.1 bt362.2.2.2.2.2 t295 t296 t297 t298 t299 t302).bind fun t373 => (if t373 = true then (laws_FnExactWithEntry.j8 kj117 t346 t319 t320 t321 t322 t347 t348) else (some false))))) = some r := H
                 have A120 := Aside0.mk A1200
                 clear A1200
                 replace H := Option.bind_eq_some_iff.mp H
                 obtain ⟨⟨t360, t361⟩, A1210, H⟩ := H
                 replace H : ((impl_WithEntry.f t350 t351 t352 t353 t354 t357 t360 t361).bind fun bt362 => ((laws_eqInode.f kj117 bt362.1 bt362.2.1 bt362.2.2.1 bt362.2.2.2.1 bt362.2.2.2.2.1 bt362.2.2.2.2.2 t295 t296 t297 t298 t299 t302).bind fun t373 => (if t373 = true then (laws_FnExactWithEntry.j8 kj117 t346 t319 t320 t321 t322 t347 t348) else (some false)))) = some r := H
                 have A121 := Aside0.mk A1210
                 clear A1210
                 replace H := Option.bind_eq_some_iff.mp H
                 obtain ⟨⟨t362, t363, t364, t365, t366, t369⟩, A1220, H⟩ := H
                 replace H : ((laws_eqInode.f kj117 t362 t363 t364 t365 t366 t369 t295 t296 t297 t298 t299 t302).bind fun t373 => (if t373 = true then (laws_FnExactWithEntry.j8 kj117 t346 t319 t320 t321 t322 t347 t348) else (some false))) = some r := H
                 have A122 := Aside0.mk A1220
                 clear A1220
                 replace H := Option.bind_eq_some_iff.mp H
                 obtain ⟨t373, A1230, H⟩ := H
                 replace H : (if t373 = true then (laws_FnExactWithEntry.j8 kj117 t346 t319 t320 t321 t322 t347 t348) else (some false)) = some r := H
                 have A123 := Aside0.mk A1230
                 clear A1230
                 have HC124 := Aside0.mk H
                 clear H
                 try go_wp2
                 have z_ := p_ (Kd.R_drew HO_306004.out) <| p_ (Kd.R_drew HO_306005.out) <| p_ (Kd.R_drew HO_317004.out) <| p_ (Kd.R_drew HO_317005.out) <| p_ (Kd.R_drew HO_330004.out) <| p_ (Kd.R_drew HO_330005.out) <| p_ (blk_drew BK279.out) <| p_ (blk_drew BK280.out) <| p_ (blk_drew BK305.out) <| p_ (blk_drew BK316.out) <| p_ (blk_drew BK329.out) <| a_ (below_drew1 HB.out)
                 clear HO_306004 HO_306005 HO_317004 HO_317005 HO_330004 HO_330005 BK279 BK280 BK305 BK316 BK329 HB
                 obtain ⟨HO_306004, HO_306005, HO_317004, HO_317005, HO_330004, HO_330005, BK279, BK280, BK305, BK316, BK329, HB⟩ := z_
                 refine start_ (n := 7) (S := fun w' => w'.cell? ⟨gb279, 0, none⟩ = some (.int .i64 a0_0) ∧ w'.cell? ⟨gb279, 1, none⟩ = some (.int .i64 a0_1) ∧ w'.cell? ⟨gb279, 2, none⟩ = some (.int .i64 a0_2) ∧ w'.cell? ⟨gb279, 3, none⟩ = some (.string a0_3) ∧ w'.cell? ⟨gb279, 4, none⟩ = some (.slice A0_4 l0_4.length c0_4) ∧ w'.cell? ⟨gb279, 5, none⟩ = some (.slice A0_5 l0_5.length c0_5) ∧ w'.cell? ⟨gb280, 0, none⟩ = some (.int .i64 a1_0) ∧ w'.cell? ⟨gb280, 1, none⟩ = some (.string a1_1)) (ds := []) #[false, false, false, false, false, false, false] (by kernel_rfl) rfl rfl (bc6_ BK279.out (bk2_ BK280.out)) (fun hHeld => ?_)
                 generalize wc.drew = w125 at HO_306004 HO_306005 HO_317004 HO_317005 HO_330004 HO_330005 BK279 BK280 BK305 BK316 BK329 HB hHeld ⊢
                 refine take_ (i := 0) (N := some 65) (v := ?_) (a' := ?_) #[true, false, false, false, false, false, false] rfl rfl (by kernel_rfl) (fun _ _ _ h => h) (Or.inl ⟨(by rfl), ?_⟩) hHeld ?_ ?_
                 rotate_left
                 ·rintro w' ⟨s0, s1, s2, s3, s4, s5, s6, s7⟩
                  go_simp
                  with_reducible rfl
                 rotate_left
                 ·simp only [Act.put, List.setIfInBounds_toArray, List.set_cons_zero, List.set_cons_succ, i64_w, i32_w]
                  rfl
                 refine take_ (i := 2) (N := some 67) (v := ?_) (a' := ?_) #[true, false, true, false, false, false, false] rfl rfl (by kernel_rfl) (fun _ _ _ h => h) (Or.inl ⟨(by rfl), ?_⟩) hHeld ?_ ?_
                 rotate_left
                 ·rintro w' ⟨s0, s1, s2, s3, s4, s5, s6, s7⟩
                  go_simp
                  with_reducible rfl
                 rotate_left
                 ·simp only [Act.put, List.setIfInBounds_toArray, List.set_cons_zero, List.set_cons_succ, i64_w, i32_w]
                  rfl
                 refine join_ (σ := Value × Value × Value × Value × Nat) 1 bq_0 (fun s_ => [(66, .agg #[.int .i64 t350, .int .i64 t351, .int .i64 t352, .string t353, s_.1, s_.2.1]), (68, .agg #[.int .i64 t360, .string t361]), (69, .agg #[.int .i64 t362, .int .i64 t363, .int .i64 t364, .string t365, s_.2.2.1, s_.2.2.2.1]), (12, .pointer (some ⟨s_.2.2.2.2, 0, none⟩))]) (fun s_ w' => (w'.cell? ⟨gb279, 0, none⟩ = some (.int .i64 a0_0) ∧ w'.cell? ⟨gb279, 1, none⟩ = some (.int .i64 a0_1) ∧ w'.cell? ⟨gb279, 2, none⟩ = some (.int .i64 a0_2) ∧ w'.cell? ⟨gb279, 3, none⟩ = some (.string a0_3) ∧ w'.cell? ⟨gb279, 4, none⟩ = some (.slice A0_4 l0_4.length c0_4) ∧ w'.cell? ⟨gb279, 5, none⟩ = some (.slice A0_5 l0_5.length c0_5) ∧ w'.cell? ⟨gb280, 0, none⟩ = some (.int .i64 a1_0) ∧ w'.cell? ⟨gb280, 1, none⟩ = some (.string a1_1)) ∧ (Kd.R k170 170 w' w.heap.size (fun k_ => some k_ ≠ (s_.2.2.1 : Value).ownBlock ∧ some k_ ≠ (.slice Ao37 t299.length co37 : Value).ownBlock ∧ some k_ ≠ (.slice Ao50 t343.length co50 : Value).ownBlock ∧ some k_ ≠ (.slice Ao62 t347.length co62 : Value).ownBlock) s_.1 t354) ∧ (Kd.R k59 59 w' w.heap.size (fun k_ => some k_ ≠ (s_.2.2.2.1 : Value).ownBlock ∧ some k_ ≠ (.slice Ao39 t302.length co39 : Value).ownBlock ∧ some k_ ≠ (.slice Ao51 t344.length co51 : Value).ownBlock ∧ some k_ ≠ (.slice Ao64 t348.length co64 : Value).ownBlock) s_.2.1 t357) ∧ (Kd.R k170 170 w' w.heap.size (fun k_ => some k_ ≠ (s_.1 : Value).ownBlock ∧ some k_ ≠ (.slice Ao37 t299.length co37 : Value).ownBlock ∧ some k_ ≠ (.slice Ao50 t343.length co50 : Value).ownBlock ∧ some k_ ≠ (.slice Ao62 t347.length co62 : Value).ownBlock) s_.2.2.1 t366) ∧ (Kd.R k59 59 w' w.heap.size (fun k_ => some k_ ≠ (s_.2.1 : Value).ownBlock ∧ some k_ ≠ (.slice Ao39 t302.length co39 : Value).ownBlock ∧ some k_ ≠ (.slice Ao51 t344.length co51 : Value).ownBlock ∧ some k_ ≠ (.slice Ao64 t348.length co64 : Value).ownBlock) s_.2.2.2.1 t369) ∧ (Kd.R k170 170 w' w.heap.size (fun k_ => some k_ ≠ (s_.1 : Value).ownBlock ∧ some k_ ≠ (s_.2.2.1 : Value).ownBlock ∧ some k_ ≠ (.slice Ao50 t343.length co50 : Value).ownBlock ∧ some k_ ≠ (.slice Ao62 t347.length co62 : Value).ownBlock) (.slice Ao37 t299.length co37) t299) ∧ (Kd.R k59 59 w' w.heap.size (fun k_ => some k_ ≠ (s_.2.1 : Value).ownBlock ∧ some k_ ≠ (s_.2.2.2.1 : Value).ownBlock ∧ some k_ ≠ (.slice Ao51 t344.length co51 : Value).ownBlock ∧ some k_ ≠ (.slice Ao64 t348.length co64 : Value).ownBlock) (.slice Ao39 t302.length co39) t302) ∧ (Kd.R k170 170 w' w.heap.size (fun k_ => some k_ ≠ (s_.1 : Value).ownBlock ∧ some k_ ≠ (s_.2.2.1 : Value).ownBlock ∧ some k_ ≠ (.slice Ao37 t299.length co37 : Value).ownBlock ∧ some k_ ≠ (.slice Ao62 t347.length co62 : Value).ownBlock) (.slice Ao50 t343.length co50) t343) ∧ (Kd.R k59 59 w' w.heap.size (fun k_ => some k_ ≠ (s_.2.1 : Value).ownBlock ∧ some k_ ≠ (s_.2.2.2.1 : Value).ownBlock ∧ some k_ ≠ (.slice Ao39 t302.length co39 : Value).ownBlock ∧ some k_ ≠ (.slice Ao64 t348.length co64 : Value).ownBlock) (.slice Ao51 t344.length co51) t344) ∧ (Kd.R k170 170 w' w.heap.size (fun k_ => some k_ ≠ (s_.1 : Value).ownBlock ∧ some k_ ≠ (s_.2.2.1 : Value).ownBlock ∧ some k_ ≠ (.slice Ao37 t299.length co37 : Value).ownBlock ∧ some k_ ≠ (.slice Ao50 t343.length co50 : Value).ownBlock) (.slice Ao62 t347.length co62) t347) ∧ (Kd.R k59 59 w' w.heap.size (fun k_ => some k_ ≠ (s_.2.1 : Value).ownBlock ∧ some k_ ≠ (s_.2.2.2.1 : Value).ownBlock ∧ some k_ ≠ (.slice Ao39 t302.length co39 : Value).ownBlock ∧ some k_ ≠ (.slice Ao51 t344.length co51 : Value).ownBlock) (.slice Ao64 t348.length co64) t348) ∧ (w'.heap[gb279]? = some (.cells #[.int .i64 a0_0, .int .i64 a0_1, .int .i64 a0_2, .string a0_3, .slice A0_4 l0_4.length c0_4, .slice A0_5 l0_5.length c0_5] 44 (0, 0))) ∧ (w'.heap[gb280]? = some (.cells #[.int .i64 a1_0, .string a1_1] 56 (0, 0))) ∧ (w'.heap[gb305]? = some (.cells #[.int .i64 t295, .int .i64 t296, .int .i64 t297, .string t298, .slice Ao37 t299.length co37, .slice Ao39 t302.length co39] 49 (0, 0))) ∧ (w'.heap[gb316]? = some (.cells #[.int .i64 t306, .int .i64 t307, .int .i64 t308, .string t309, .slice Ao50 t343.length co50, .slice Ao51 t344.length co51] 49 (0, 0))) ∧ (w'.heap[gb329]? = some (.cells #[.int .i64 t319, .int .i64 t320, .int .i64 t321, .string t322, .slice Ao62 t347.length co62, .slice Ao64 t348.length co64] 49 (0, 0))) ∧ (w'.heap[s_.2.2.2.2]? = some (.cells #[.int .i64 0, .int .i64 0, .int .i64 0, .string (⟨#[]⟩ : ByteArray), .slice none 0 0, .slice none 0 0] 49 (0, 0))) ∧ (w.heap.size ≤ s_.2.2.2.2) ∧ (w.heap.size ≤ s_.2.2.2.2) ∧ (gb279 ≠ s_.2.2.2.2) ∧ (s_.2.2.2.2 ≠ gb279) ∧ (gb280 ≠ s_.2.2.2.2) ∧ (s_.2.2.2.2 ≠ gb280) ∧ (gb305 ≠ s_.2.2.2.2) ∧ (s_.2.2.2.2 ≠ gb305) ∧ (gb316 ≠ s_.2.2.2.2) ∧ (s_.2.2.2.2 ≠ gb316) ∧ (gb329 ≠ s_.2.2.2.2) ∧ (s_.2.2.2.2 ≠ gb329) ∧ (Below w.heap.size w w')) ?_ ?_
                 rotate_left
                 ·intro hCont
                  refine two_ (i := 1) (j := 5) (Ni := some 66) (Nj := some 12) #[true, true, true, false, false, false, false] #[true, false, true, false, false, true, false] rfl rfl rfl rfl (by kernel_rfl) (by decide) (by decide) (fun K hK => ?_) (fun K hK => ?_)
                  ·skip
                   refine goes_ Try.func28 (by kernel_rfl) rfl #[.agg #[.int .i64 a0_0, .int .i64 a0_1, .int .i64 a0_2, .string a0_3, .slice A0_4 l0_4.length c0_4, .slice A0_5 l0_5.length c0_5]] (by rfl) rfl rfl tq_2 ?_
                   with_reducible refine (laws_toInode.calls kj117 a0_0 a0_1 a0_2 a0_3 _ _ l0_4 _ _ l0_5 t350 t351 t352 t353 t354 t357 _ ?side1 ?side2 ?side3 ?side4 A120.out).mono ?_
                   (case side1 => exact tq_15)
                   (case side2 => exact HC0_4.out)
                   (case side3 => exact tq_24)
                   (case side4 => exact HC0_5.out)
                   rintro e w126 ⟨v355, v358, rfl, ho0, ho1, hb⟩
                   refine ⟨_, rfl, ?_⟩
                   have z_ := p_ (Kd.R_elder' tq_22 (Kd.R_base ho0) hb) <| p_ (Kd.R_elder' tq_21 (Kd.R_base ho1) hb) <| p_ (Kd.R_elder' tq_20 (Kd.R_base ho0) hb) <| p_ (Kd.R_elder' tq_19 (Kd.R_base ho1) hb) <| p_ (Kd.R_elder' tq_18 (Kd.R_base ho0) hb) <| p_ (Kd.R_elder' tq_17 (Kd.R_base ho1) hb) <| p_ (Kd.R_lower (Kd.R_new' (Kd.R_new' (Kd.R_new' ho0 (Kd.R_lt tq_22)) (Kd.R_lt tq_20)) (Kd.R_lt tq_18)) (below_size tq_1)) <| p_ (Kd.R_lower (Kd.R_new' (Kd.R_new' (Kd.R_new' ho1 (Kd.R_lt tq_21)) (Kd.R_lt tq_19)) (Kd.R_lt tq_17)) (below_size tq_1)) <| p_ (blk_below tq_3 hb) <| p_ (blk_below tq_4 hb) <| p_ (blk_below tq_6 hb) <| p_ (blk_below tq_8 hb) <| p_ (blk_below tq_12 hb) <| a_ (below_step tq_1 hb)
                   clear HO_306004 HO_306005 HO_317004 HO_317005 HO_330004 HO_330005 BK279 BK280 BK305 BK316 BK329 HB
                   obtain ⟨HO_306004, HO_306005, HO_317004, HO_317005, HO_330004, HO_330005, HO356, HO359, BK279, BK280, BK305, BK316, BK329, HB⟩ := z_
                   (try clear hb)
                   (try clear hb2)
                   (try clear hk)
                   (try clear hi)
                   (try clear ho0)
                   (try clear ho1)
                   refine hK.out _ _ (bc6_ BK279.out (bk2_ BK280.out)) (fun hHeld => ?_)
                   clear hK K
                   refine nm_ (some 66) ?_
                   refine two_ (i := 3) (j := 5) (Ni := some 68) (Nj := some 12) #[true, true, true, true, false, false, false] bq_32 rfl rfl rfl rfl (by kernel_rfl) (by decide) (by decide) (fun K hK => ?_) (fun K hK => ?_)
                   ·skip
                    refine goes_ Try.func35 (by kernel_rfl) rfl #[.agg #[.int .i64 a1_0, .string a1_1]] (by rfl) rfl rfl tq_2 ?_
                    with_reducible refine (laws_toEntry.calls a1_0 a1_1 t360 t361 _ A121.out).mono ?_
                    rintro e w127 ⟨rfl, hb⟩
                    refine ⟨_, rfl, ?_⟩
                    have z_ := p_ (Kd.R_below tq_22 hb) <| p_ (Kd.R_below tq_21 hb) <| p_ (Kd.R_below tq_20 hb) <| p_ (Kd.R_below tq_19 hb) <| p_ (Kd.R_below tq_18 hb) <| p_ (Kd.R_below tq_17 hb) <| p_ (Kd.R_below tq_42 hb) <| p_ (Kd.R_below tq_41 hb) <| p_ (blk_below tq_3 hb) <| p_ (blk_below tq_4 hb) <| p_ (blk_below tq_6 hb) <| p_ (blk_below tq_8 hb) <| p_ (blk_below tq_12 hb) <| a_ (below_step tq_1 hb)
                    clear HO_306004 HO_306005 HO_317004 HO_317005 HO_330004 HO_330005 HO356 HO359 BK279 BK280 BK305 BK316 BK329 HB
                    obtain ⟨HO_306004, HO_306005, HO_317004, HO_317005, HO_330004, HO_330005, HO356, HO359, BK279, BK280, BK305, BK316, BK329, HB⟩ := z_
                    (try clear hb)
                    (try clear hb2)
                    (try clear hk)
                    (try clear hi)
                    obtain ⟨Ao128, co128, eo128⟩ := Kd.R_slice HO356.out
                    (first | subst eo128 | (injection eo128 with f1_ f2_ f3_; have f4_ := f1_.symm; have f5_ := f3_.symm; clear f1_ f2_ f3_; subst f4_; subst f5_))
                    obtain ⟨Ao129, co129, eo129⟩ := Kd.R_slice HO359.out
                    (first | subst eo129 | (injection eo129 with f1_ f2_ f3_; have f4_ := f1_.symm; have f5_ := f3_.symm; clear f1_ f2_ f3_; subst f4_; subst f5_))
                    refine hK.out _ _ (bc6_ BK279.out (bk2_ BK280.out)) (fun hHeld => ?_)
                    clear hK K
                    refine nm_ (some 68) ?_
                    refine two_ (i := 4) (j := 5) (Ni := some 69) (Nj := some 12) #[true, true, true, true, true, false, false] bq_1 rfl rfl rfl rfl (by kernel_rfl) (by decide) (by decide) (fun K hK => ?_) (fun K hK => ?_)
                    ·skip
                     refine goes_ Try.func36 (by kernel_rfl) rfl #[.agg #[.int .i64 t350, .int .i64 t351, .int .i64 t352, .string t353, .slice Ao128 t354.length co128, .slice Ao129 t357.length co129], .agg #[.int .i64 t360, .string t361]] (by rfl) rfl rfl tq_2 ?_
                     with_reducible refine (impl_WithEntry.calls t350 t351 t352 t353 _ _ t354 _ _ t357 t360 t361 t362 t363 t364 t365 t366 t369 _ ?side1 ?side2 ?side3 ?side4 A122.out).mono ?_
                     (case side1 => exact tq_108)
                     (case side2 => exact (Kd.R_reads' HO356.out).2.1)
                     (case side3 => exact tq_107)
                     (case side4 => exact (Kd.R_reads' HO359.out).2.1)
                     rintro e w130 ⟨v367, v370, rfl, ho0, ho1, hb⟩
                     refine ⟨_, rfl, ?_⟩
                     have z_ := p_ (Kd.R_elder' tq_22 (Kd.R_base ho0) hb) <| p_ (Kd.R_elder' tq_21 (Kd.R_base ho1) hb) <| p_ (Kd.R_elder' tq_20 (Kd.R_base ho0) hb) <| p_ (Kd.R_elder' tq_19 (Kd.R_base ho1) hb) <| p_ (Kd.R_elder' tq_18 (Kd.R_base ho0) hb) <| p_ (Kd.R_elder' tq_17 (Kd.R_base ho1) hb) <| p_ (Kd.R_elder' tq_42 (Kd.R_base ho0) hb) <| p_ (Kd.R_elder' tq_41 (Kd.R_base ho1) hb) <| p_ (Kd.R_lower (Kd.R_new' (Kd.R_new' (Kd.R_new' (Kd.R_new' ho0 (Kd.R_lt tq_22)) (Kd.R_lt tq_20)) (Kd.R_lt tq_18)) (Kd.R_lt tq_42)) (below_size tq_1)) <| p_ (Kd.R_lower (Kd.R_new' (Kd.R_new' (Kd.R_new' (Kd.R_new' ho1 (Kd.R_lt tq_21)) (Kd.R_lt tq_19)) (Kd.R_lt tq_17)) (Kd.R_lt tq_41)) (below_size tq_1)) <| p_ (blk_below tq_3 hb) <| p_ (blk_below tq_4 hb) <| p_ (blk_below tq_6 hb) <| p_ (blk_below tq_8 hb) <| p_ (blk_below tq_12 hb) <| a_ (below_step tq_1 hb)
                     clear HO_306004 HO_306005 HO_317004 HO_317005 HO_330004 HO_330005 HO356 HO359 BK279 BK280 BK305 BK316 BK329 HB
                     obtain ⟨HO_306004, HO_306005, HO_317004, HO_317005, HO_330004, HO_330005, HO356, HO359, HO368, HO371, BK279, BK280, BK305, BK316, BK329, HB⟩ := z_
                     (try clear hb)
                     (try clear hb2)
                     (try clear hk)
                     (try clear hi)
                     (try clear ho0)
                     (try clear ho1)
                     refine hK.out _ _ (bc6_ BK279.out (bk2_ BK280.out)) (fun hHeld => ?_)
                     clear hK K
                     refine nm_ (some 69) ?_
                     refine one_ (i := 5) (N := some 12) bq_0 rfl rfl (by kernel_rfl) (by decide) (fun K hK => ?_)
                     refine box_step ?hg (N := 12) ?hd (cs := #[.int .i64 0, .int .i64 0, .int .i64 0, .string (⟨#[]⟩ : ByteArray), .slice none 0 0, .slice none 0 0]) (t := 49) ?hr ?_; (case hd => rfl); (case hg => rfl); (case hr => first | (go_simp; done) | (go_simp; rfl))
                     intro gb372 hg w131 hbox hb
                     have z_ := p_ (Kd.R_below tq_22 hb) <| p_ (Kd.R_below tq_21 hb) <| p_ (Kd.R_below tq_20 hb) <| p_ (Kd.R_below tq_19 hb) <| p_ (Kd.R_below tq_18 hb) <| p_ (Kd.R_below tq_17 hb) <| p_ (Kd.R_below tq_42 hb) <| p_ (Kd.R_below tq_41 hb) <| p_ (Kd.R_below (by (with_reducible repeat (first | apply Kd.R_alloc | apply Kd.R_drewN | apply Kd.R_drew)); exact HO368.out) hb) <| p_ (Kd.R_below (by (with_reducible repeat (first | apply Kd.R_alloc | apply Kd.R_drewN | apply Kd.R_drew)); exact HO371.out) hb) <| p_ (blk_below tq_3 hb) <| p_ (blk_below tq_4 hb) <| p_ (blk_below tq_6 hb) <| p_ (blk_below tq_8 hb) <| p_ (blk_below tq_12 hb) <| p_ (below_step tq_1 hb) <| p_ (hbox) <| p_ (gb_ hg tq_1) <| p_ (gb_ hg tq_1) <| p_ (ltne_ hg (blk_lt tq_3)) <| p_ (gtne_ hg (blk_lt tq_3)) <| p_ (ltne_ hg (blk_lt tq_4)) <| p_ (gtne_ hg (blk_lt tq_4)) <| p_ (ltne_ hg (blk_lt tq_6)) <| p_ (gtne_ hg (blk_lt tq_6)) <| p_ (ltne_ hg (blk_lt tq_8)) <| p_ (gtne_ hg (blk_lt tq_8)) <| p_ (ltne_ hg (blk_lt tq_12)) <| a_ (gtne_ hg (blk_lt tq_12))
                     clear HO_306004 HO_306005 HO_317004 HO_317005 HO_330004 HO_330005 HO356 HO359 HO368 HO371 BK279 BK280 BK305 BK316 BK329 HB
                     obtain ⟨HO_306004, HO_306005, HO_317004, HO_317005, HO_330004, HO_330005, HO356, HO359, HO368, HO371, BK279, BK280, BK305, BK316, BK329, HB, BK372, GW372, GE372, NB279_372, NB372_279, NB280_372, NB372_280, NB305_372, NB372_305, NB316_372, NB372_316, NB329_372, NB372_329⟩ := z_
                     clear hb hbox hg
                     refine hK.out _ _ (bc6_ BK279.out (bk2_ BK280.out)) (fun hHeld => ?_)
                     clear hK K
                     refine nm_ (some 12) ?_
                     exact norm_ tq_65 (hCont (.slice Ao128 t354.length co128, .slice Ao129 t357.length co129, v367, v370, gb372) _ ⟨hHeld, tq_106, tq_105, tq_104, tq_103, tq_102, tq_101, tq_100, tq_99, tq_98, tq_97, tq_3, tq_4, tq_6, tq_8, tq_12, tq_38, GW372.out, GE372.out, NB279_372.out, NB372_279.out, NB280_372.out, NB372_280.out, NB305_372.out, NB372_305.out, NB316_372.out, NB372_316.out, NB329_372.out, NB372_329.out, tq_5⟩)
                    ·skip
                     refine box_step ?hg (N := 12) ?hd (cs := #[.int .i64 0, .int .i64 0, .int .i64 0, .string (⟨#[]⟩ : ByteArray), .slice none 0 0, .slice none 0 0]) (t := 49) ?hr ?_; (case hd => rfl); (case hg => rfl); (case hr => first | (go_simp; done) | (go_simp; rfl))
                     intro gb372 hg w128 hbox hb
                     have z_ := p_ (Kd.R_below tq_22 hb) <| p_ (Kd.R_below tq_21 hb) <| p_ (Kd.R_below tq_20 hb) <| p_ (Kd.R_below tq_19 hb) <| p_ (Kd.R_below tq_18 hb) <| p_ (Kd.R_below tq_17 hb) <| p_ (Kd.R_below tq_42 hb) <| p_ (Kd.R_below tq_41 hb) <| p_ (blk_below tq_3 hb) <| p_ (blk_below tq_4 hb) <| p_ (blk_below tq_6 hb) <| p_ (blk_below tq_8 hb) <| p_ (blk_below tq_12 hb) <| p_ (below_step tq_1 hb) <| p_ (hbox) <| p_ (gb_ hg tq_1) <| p_ (gb_ hg tq_1) <| p_ (ltne_ hg (blk_lt tq_3)) <| p_ (gtne_ hg (blk_lt tq_3)) <| p_ (ltne_ hg (blk_lt tq_4)) <| p_ (gtne_ hg (blk_lt tq_4)) <| p_ (ltne_ hg (blk_lt tq_6)) <| p_ (gtne_ hg (blk_lt tq_6)) <| p_ (ltne_ hg (blk_lt tq_8)) <| p_ (gtne_ hg (blk_lt tq_8)) <| p_ (ltne_ hg (blk_lt tq_12)) <| a_ (gtne_ hg (blk_lt tq_12))
                     clear HO_306004 HO_306005 HO_317004 HO_317005 HO_330004 HO_330005 HO356 HO359 BK279 BK280 BK305 BK316 BK329 HB
                     obtain ⟨HO_306004, HO_306005, HO_317004, HO_317005, HO_330004, HO_330005, HO356, HO359, BK279, BK280, BK305, BK316, BK329, HB, BK372, GW372, GE372, NB279_372, NB372_279, NB280_372, NB372_280, NB305_372, NB372_305, NB316_372, NB372_316, NB329_372, NB372_329⟩ := z_
                     clear hb hbox hg
                     obtain ⟨Ao129, co129, eo129⟩ := Kd.R_slice HO356.out
                     (first | subst eo129 | (injection eo129 with f1_ f2_ f3_; have f4_ := f1_.symm; have f5_ := f3_.symm; clear f1_ f2_ f3_; subst f4_; subst f5_))
                     obtain ⟨Ao130, co130, eo130⟩ := Kd.R_slice HO359.out
                     (first | subst eo130 | (injection eo130 with f1_ f2_ f3_; have f4_ := f1_.symm; have f5_ := f3_.symm; clear f1_ f2_ f3_; subst f4_; subst f5_))
                     refine hK.out _ _ (bc6_ BK279.out (bk2_ BK280.out)) (fun hHeld => ?_)
                     clear hK K
                     refine nm_ (some 12) ?_
                     refine one_ (i := 4) (N := some 69) bq_0 rfl rfl (by kernel_rfl) (by decide) (fun K hK => ?_)
                     refine goes_ Try.func36 (by kernel_rfl) rfl #[.agg #[.int .i64 t350, .int .i64 t351, .int .i64 t352, .string t353, .slice Ao129 t354.length co129, .slice Ao130 t357.length co130], .agg #[.int .i64 t360, .string t361]] (by rfl) rfl rfl tq_2 ?_
                     with_reducible refine (impl_WithEntry.calls t350 t351 t352 t353 _ _ t354 _ _ t357 t360 t361 t362 t363 t364 t365 t366 t369 _ ?side1 ?side2 ?side3 ?side4 A122.out).mono ?_
                     (case side1 => exact tq_108)
                     (case side2 => exact (Kd.R_reads' HO356.out).2.1)
                     (case side3 => exact tq_107)
                     (case side4 => exact (Kd.R_reads' HO359.out).2.1)
                     rintro e w131 ⟨v367, v370, rfl, ho0, ho1, hb⟩
                     refine ⟨_, rfl, ?_⟩
                     have z_ := p_ (Kd.R_elder' tq_22 (Kd.R_base ho0) hb) <| p_ (Kd.R_elder' tq_21 (Kd.R_base ho1) hb) <| p_ (Kd.R_elder' tq_20 (Kd.R_base ho0) hb) <| p_ (Kd.R_elder' tq_19 (Kd.R_base ho1) hb) <| p_ (Kd.R_elder' tq_18 (Kd.R_base ho0) hb) <| p_ (Kd.R_elder' tq_17 (Kd.R_base ho1) hb) <| p_ (Kd.R_elder' tq_42 (Kd.R_base ho0) hb) <| p_ (Kd.R_elder' tq_41 (Kd.R_base ho1) hb) <| p_ (Kd.R_lower (Kd.R_new' (Kd.R_new' (Kd.R_new' (Kd.R_new' ho0 (Kd.R_lt tq_22)) (Kd.R_lt tq_20)) (Kd.R_lt tq_18)) (Kd.R_lt tq_42)) (below_size tq_5)) <| p_ (Kd.R_lower (Kd.R_new' (Kd.R_new' (Kd.R_new' (Kd.R_new' ho1 (Kd.R_lt tq_21)) (Kd.R_lt tq_19)) (Kd.R_lt tq_17)) (Kd.R_lt tq_41)) (below_size tq_5)) <| p_ (blk_below tq_3 hb) <| p_ (blk_below tq_4 hb) <| p_ (blk_below tq_6 hb) <| p_ (blk_below tq_8 hb) <| p_ (blk_below tq_12 hb) <| p_ (blk_below tq_38 hb) <| a_ (below_step tq_5 hb)
                     clear HO_306004 HO_306005 HO_317004 HO_317005 HO_330004 HO_330005 HO356 HO359 BK279 BK280 BK305 BK316 BK329 BK372 HB
                     obtain ⟨HO_306004, HO_306005, HO_317004, HO_317005, HO_330004, HO_330005, HO356, HO359, HO368, HO371, BK279, BK280, BK305, BK316, BK329, BK372, HB⟩ := z_
                     (try clear hb)
                     (try clear hb2)
                     (try clear hk)
                     (try clear hi)
                     (try clear ho0)
                     (try clear ho1)
                     refine hK.out _ _ (bc6_ BK279.out (bk2_ BK280.out)) (fun hHeld => ?_)
                     clear hK K
                     refine nm_ (some 69) ?_
                     exact norm_ tq_65 (hCont (.slice Ao129 t354.length co129, .slice Ao130 t357.length co130, v367, v370, gb372) _ ⟨hHeld, tq_106, tq_105, tq_104, tq_103, tq_102, tq_101, tq_100, tq_99, tq_98, tq_97, tq_3, tq_4, tq_6, tq_8, tq_12, tq_38, GW372.out, GE372.out, NB279_372.out, NB372_279.out, NB280_372.out, NB372_280.out, NB305_372.out, NB372_305.out, NB316_372.out, NB372_316.out, NB329_372.out, NB372_329.out, tq_5⟩)
                   ·skip
                    refine box_step ?hg (N := 12) ?hd (cs := #[.int .i64 0, .int .i64 0, .int .i64 0, .string (⟨#[]⟩ : ByteArray), .slice none 0 0, .slice none 0 0]) (t := 49) ?hr ?_; (case hd => rfl); (case hg => rfl); (case hr => first | (go_simp; done) | (go_simp; rfl))
                    intro gb372 hg w127 hbox hb
                    have z_ := p_ (Kd.R_below tq_22 hb) <| p_ (Kd.R_below tq_21 hb) <| p_ (Kd.R_below tq_20 hb) <| p_ (Kd.R_below tq_19 hb) <| p_ (Kd.R_below tq_18 hb) <| p_ (Kd.R_below tq_17 hb) <| p_ (Kd.R_below tq_42 hb) <| p_ (Kd.R_below tq_41 hb) <| p_ (blk_below tq_3 hb) <| p_ (blk_below tq_4 hb) <| p_ (blk_below tq_6 hb) <| p_ (blk_below tq_8 hb) <| p_ (blk_below tq_12 hb) <| p_ (below_step tq_1 hb) <| p_ (hbox) <| p_ (gb_ hg tq_1) <| p_ (gb_ hg tq_1) <| p_ (ltne_ hg (blk_lt tq_3)) <| p_ (gtne_ hg (blk_lt tq_3)) <| p_ (ltne_ hg (blk_lt tq_4)) <| p_ (gtne_ hg (blk_lt tq_4)) <| p_ (ltne_ hg (blk_lt tq_6)) <| p_ (gtne_ hg (blk_lt tq_6)) <| p_ (ltne_ hg (blk_lt tq_8)) <| p_ (gtne_ hg (blk_lt tq_8)) <| p_ (ltne_ hg (blk_lt tq_12)) <| a_ (gtne_ hg (blk_lt tq_12))
                    clear HO_306004 HO_306005 HO_317004 HO_317005 HO_330004 HO_330005 HO356 HO359 BK279 BK280 BK305 BK316 BK329 HB
                    obtain ⟨HO_306004, HO_306005, HO_317004, HO_317005, HO_330004, HO_330005, HO356, HO359, BK279, BK280, BK305, BK316, BK329, HB, BK372, GW372, GE372, NB279_372, NB372_279, NB280_372, NB372_280, NB305_372, NB372_305, NB316_372, NB372_316, NB329_372, NB372_329⟩ := z_
                    clear hb hbox hg
                    refine hK.out _ _ (bc6_ BK279.out (bk2_ BK280.out)) (fun hHeld => ?_)
                    clear hK K
                    refine nm_ (some 12) ?_
                    refine one_ (i := 3) (N := some 68) bq_1 rfl rfl (by kernel_rfl) (by decide) (fun K hK => ?_)
                    refine goes_ Try.func35 (by kernel_rfl) rfl #[.agg #[.int .i64 a1_0, .string a1_1]] (by rfl) rfl rfl tq_2 ?_
                    with_reducible refine (laws_toEntry.calls a1_0 a1_1 t360 t361 _ A121.out).mono ?_
                    rintro e w128 ⟨rfl, hb⟩
                    refine ⟨_, rfl, ?_⟩
                    have z_ := p_ (Kd.R_below tq_22 hb) <| p_ (Kd.R_below tq_21 hb) <| p_ (Kd.R_below tq_20 hb) <| p_ (Kd.R_below tq_19 hb) <| p_ (Kd.R_below tq_18 hb) <| p_ (Kd.R_below tq_17 hb) <| p_ (Kd.R_below tq_42 hb) <| p_ (Kd.R_below tq_41 hb) <| p_ (blk_below tq_3 hb) <| p_ (blk_below tq_4 hb) <| p_ (blk_below tq_6 hb) <| p_ (blk_below tq_8 hb) <| p_ (blk_below tq_12 hb) <| p_ (blk_below tq_38 hb) <| a_ (below_step tq_5 hb)
                    clear HO_306004 HO_306005 HO_317004 HO_317005 HO_330004 HO_330005 HO356 HO359 BK279 BK280 BK305 BK316 BK329 BK372 HB
                    obtain ⟨HO_306004, HO_306005, HO_317004, HO_317005, HO_330004, HO_330005, HO356, HO359, BK279, BK280, BK305, BK316, BK329, BK372, HB⟩ := z_
                    (try clear hb)
                    (try clear hb2)
                    (try clear hk)
                    (try clear hi)
                    obtain ⟨Ao129, co129, eo129⟩ := Kd.R_slice HO356.out
                    (first | subst eo129 | (injection eo129 with f1_ f2_ f3_; have f4_ := f1_.symm; have f5_ := f3_.symm; clear f1_ f2_ f3_; subst f4_; subst f5_))
                    obtain ⟨Ao130, co130, eo130⟩ := Kd.R_slice HO359.out
                    (first | subst eo130 | (injection eo130 with f1_ f2_ f3_; have f4_ := f1_.symm; have f5_ := f3_.symm; clear f1_ f2_ f3_; subst f4_; subst f5_))
                    refine hK.out _ _ (bc6_ BK279.out (bk2_ BK280.out)) (fun hHeld => ?_)
                    clear hK K
                    refine nm_ (some 68) ?_
                    refine one_ (i := 4) (N := some 69) bq_0 rfl rfl (by kernel_rfl) (by decide) (fun K hK => ?_)
                    refine goes_ Try.func36 (by kernel_rfl) rfl #[.agg #[.int .i64 t350, .int .i64 t351, .int .i64 t352, .string t353, .slice Ao129 t354.length co129, .slice Ao130 t357.length co130], .agg #[.int .i64 t360, .string t361]] (by rfl) rfl rfl tq_2 ?_
                    with_reducible refine (impl_WithEntry.calls t350 t351 t352 t353 _ _ t354 _ _ t357 t360 t361 t362 t363 t364 t365 t366 t369 _ ?side1 ?side2 ?side3 ?side4 A122.out).mono ?_
                    (case side1 => exact tq_108)
                    (case side2 => exact (Kd.R_reads' HO356.out).2.1)
                    (case side3 => exact tq_107)
                    (case side4 => exact (Kd.R_reads' HO359.out).2.1)
                    rintro e w131 ⟨v367, v370, rfl, ho0, ho1, hb⟩
                    refine ⟨_, rfl, ?_⟩
                    have z_ := p_ (Kd.R_elder' tq_22 (Kd.R_base ho0) hb) <| p_ (Kd.R_elder' tq_21 (Kd.R_base ho1) hb) <| p_ (Kd.R_elder' tq_20 (Kd.R_base ho0) hb) <| p_ (Kd.R_elder' tq_19 (Kd.R_base ho1) hb) <| p_ (Kd.R_elder' tq_18 (Kd.R_base ho0) hb) <| p_ (Kd.R_elder' tq_17 (Kd.R_base ho1) hb) <| p_ (Kd.R_elder' tq_42 (Kd.R_base ho0) hb) <| p_ (Kd.R_elder' tq_41 (Kd.R_base ho1) hb) <| p_ (Kd.R_lower (Kd.R_new' (Kd.R_new' (Kd.R_new' (Kd.R_new' ho0 (Kd.R_lt tq_22)) (Kd.R_lt tq_20)) (Kd.R_lt tq_18)) (Kd.R_lt tq_42)) (below_size tq_5)) <| p_ (Kd.R_lower (Kd.R_new' (Kd.R_new' (Kd.R_new' (Kd.R_new' ho1 (Kd.R_lt tq_21)) (Kd.R_lt tq_19)) (Kd.R_lt tq_17)) (Kd.R_lt tq_41)) (below_size tq_5)) <| p_ (blk_below tq_3 hb) <| p_ (blk_below tq_4 hb) <| p_ (blk_below tq_6 hb) <| p_ (blk_below tq_8 hb) <| p_ (blk_below tq_12 hb) <| p_ (blk_below tq_38 hb) <| a_ (below_step tq_5 hb)
                    clear HO_306004 HO_306005 HO_317004 HO_317005 HO_330004 HO_330005 HO356 HO359 BK279 BK280 BK305 BK316 BK329 BK372 HB
                    obtain ⟨HO_306004, HO_306005, HO_317004, HO_317005, HO_330004, HO_330005, HO356, HO359, HO368, HO371, BK279, BK280, BK305, BK316, BK329, BK372, HB⟩ := z_
                    (try clear hb)
                    (try clear hb2)
                    (try clear hk)
                    (try clear hi)
                    (try clear ho0)
                    (try clear ho1)
                    refine hK.out _ _ (bc6_ BK279.out (bk2_ BK280.out)) (fun hHeld => ?_)
                    clear hK K
                    refine nm_ (some 69) ?_
                    exact norm_ tq_65 (hCont (.slice Ao129 t354.length co129, .slice Ao130 t357.length co130, v367, v370, gb372) _ ⟨hHeld, tq_106, tq_105, tq_104, tq_103, tq_102, tq_101, tq_100, tq_99, tq_98, tq_97, tq_3, tq_4, tq_6, tq_8, tq_12, tq_38, GW372.out, GE372.out, NB279_372.out, NB372_279.out, NB280_372.out, NB372_280.out, NB305_372.out, NB372_305.out, NB316_372.out, NB372_316.out, NB329_372.out, NB372_329.out, tq_5⟩)
                  ·skip
                   refine box_step ?hg (N := 12) ?hd (cs := #[.int .i64 0, .int .i64 0, .int .i64 0, .string (⟨#[]⟩ : ByteArray), .slice none 0 0, .slice none 0 0]) (t := 49) ?hr ?_; (case hd => rfl); (case hg => rfl); (case hr => first | (go_simp; done) | (go_simp; rfl))
                   intro gb372 hg w126 hbox hb
                   have z_ := p_ (Kd.R_below tq_22 hb) <| p_ (Kd.R_below tq_21 hb) <| p_ (Kd.R_below tq_20 hb) <| p_ (Kd.R_below tq_19 hb) <| p_ (Kd.R_below tq_18 hb) <| p_ (Kd.R_below tq_17 hb) <| p_ (blk_below tq_3 hb) <| p_ (blk_below tq_4 hb) <| p_ (blk_below tq_6 hb) <| p_ (blk_below tq_8 hb) <| p_ (blk_below tq_12 hb) <| p_ (below_step tq_1 hb) <| p_ (hbox) <| p_ (gb_ hg tq_1) <| p_ (gb_ hg tq_1) <| p_ (ltne_ hg (blk_lt tq_3)) <| p_ (gtne_ hg (blk_lt tq_3)) <| p_ (ltne_ hg (blk_lt tq_4)) <| p_ (gtne_ hg (blk_lt tq_4)) <| p_ (ltne_ hg (blk_lt tq_6)) <| p_ (gtne_ hg (blk_lt tq_6)) <| p_ (ltne_ hg (blk_lt tq_8)) <| p_ (gtne_ hg (blk_lt tq_8)) <| p_ (ltne_ hg (blk_lt tq_12)) <| a_ (gtne_ hg (blk_lt tq_12))
                   clear HO_306004 HO_306005 HO_317004 HO_317005 HO_330004 HO_330005 BK279 BK280 BK305 BK316 BK329 HB
                   obtain ⟨HO_306004, HO_306005, HO_317004, HO_317005, HO_330004, HO_330005, BK279, BK280, BK305, BK316, BK329, HB, BK372, GW372, GE372, NB279_372, NB372_279, NB280_372, NB372_280, NB305_372, NB372_305, NB316_372, NB372_316, NB329_372, NB372_329⟩ := z_
                   clear hb hbox hg
                   refine hK.out _ _ (bc6_ BK279.out (bk2_ BK280.out)) (fun hHeld => ?_)
                   clear hK K
                   refine nm_ (some 12) ?_
                   refine one_ (i := 1) (N := some 66) bq_32 rfl rfl (by kernel_rfl) (by decide) (fun K hK => ?_)
                   refine goes_ Try.func28 (by kernel_rfl) rfl #[.agg #[.int .i64 a0_0, .int .i64 a0_1, .int .i64 a0_2, .string a0_3, .slice A0_4 l0_4.length c0_4, .slice A0_5 l0_5.length c0_5]] (by rfl) rfl rfl tq_2 ?_
                   with_reducible refine (laws_toInode.calls kj117 a0_0 a0_1 a0_2 a0_3 _ _ l0_4 _ _ l0_5 t350 t351 t352 t353 t354 t357 _ ?side1 ?side2 ?side3 ?side4 A120.out).mono ?_
                   (case side1 => exact tq_15)
                   (case side2 => exact HC0_4.out)
                   (case side3 => exact tq_24)
                   (case side4 => exact HC0_5.out)
                   rintro e w127 ⟨v355, v358, rfl, ho0, ho1, hb⟩
                   refine ⟨_, rfl, ?_⟩
                   have z_ := p_ (Kd.R_elder' tq_22 (Kd.R_base ho0) hb) <| p_ (Kd.R_elder' tq_21 (Kd.R_base ho1) hb) <| p_ (Kd.R_elder' tq_20 (Kd.R_base ho0) hb) <| p_ (Kd.R_elder' tq_19 (Kd.R_base ho1) hb) <| p_ (Kd.R_elder' tq_18 (Kd.R_base ho0) hb) <| p_ (Kd.R_elder' tq_17 (Kd.R_base ho1) hb) <| p_ (Kd.R_lower (Kd.R_new' (Kd.R_new' (Kd.R_new' ho0 (Kd.R_lt tq_22)) (Kd.R_lt tq_20)) (Kd.R_lt tq_18)) (below_size tq_5)) <| p_ (Kd.R_lower (Kd.R_new' (Kd.R_new' (Kd.R_new' ho1 (Kd.R_lt tq_21)) (Kd.R_lt tq_19)) (Kd.R_lt tq_17)) (below_size tq_5)) <| p_ (blk_below tq_3 hb) <| p_ (blk_below tq_4 hb) <| p_ (blk_below tq_6 hb) <| p_ (blk_below tq_8 hb) <| p_ (blk_below tq_12 hb) <| p_ (blk_below tq_38 hb) <| a_ (below_step tq_5 hb)
                   clear HO_306004 HO_306005 HO_317004 HO_317005 HO_330004 HO_330005 BK279 BK280 BK305 BK316 BK329 BK372 HB
                   obtain ⟨HO_306004, HO_306005, HO_317004, HO_317005, HO_330004, HO_330005, HO356, HO359, BK279, BK280, BK305, BK316, BK329, BK372, HB⟩ := z_
                   (try clear hb)
                   (try clear hb2)
                   (try clear hk)
                   (try clear hi)
                   (try clear ho0)
                   (try clear ho1)
                   refine hK.out _ _ (bc6_ BK279.out (bk2_ BK280.out)) (fun hHeld => ?_)
                   clear hK K
                   refine nm_ (some 66) ?_
                   refine one_ (i := 3) (N := some 68) bq_1 rfl rfl (by kernel_rfl) (by decide) (fun K hK => ?_)
                   refine goes_ Try.func35 (by kernel_rfl) rfl #[.agg #[.int .i64 a1_0, .string a1_1]] (by rfl) rfl rfl tq_2 ?_
                   with_reducible refine (laws_toEntry.calls a1_0 a1_1 t360 t361 _ A121.out).mono ?_
                   rintro e w128 ⟨rfl, hb⟩
                   refine ⟨_, rfl, ?_⟩
                   have z_ := p_ (Kd.R_below tq_22 hb) <| p_ (Kd.R_below tq_21 hb) <| p_ (Kd.R_below tq_20 hb) <| p_ (Kd.R_below tq_19 hb) <| p_ (Kd.R_below tq_18 hb) <| p_ (Kd.R_below tq_17 hb) <| p_ (Kd.R_below tq_42 hb) <| p_ (Kd.R_below tq_41 hb) <| p_ (blk_below tq_3 hb) <| p_ (blk_below tq_4 hb) <| p_ (blk_below tq_6 hb) <| p_ (blk_below tq_8 hb) <| p_ (blk_below tq_12 hb) <| p_ (blk_below tq_38 hb) <| a_ (below_step tq_5 hb)
                   clear HO_306004 HO_306005 HO_317004 HO_317005 HO_330004 HO_330005 HO356 HO359 BK279 BK280 BK305 BK316 BK329 BK372 HB
                   obtain ⟨HO_306004, HO_306005, HO_317004, HO_317005, HO_330004, HO_330005, HO356, HO359, BK279, BK280, BK305, BK316, BK329, BK372, HB⟩ := z_
                   (try clear hb)
                   (try clear hb2)
                   (try clear hk)
                   (try clear hi)
                   obtain ⟨Ao129, co129, eo129⟩ := Kd.R_slice HO356.out
                   (first | subst eo129 | (injection eo129 with f1_ f2_ f3_; have f4_ := f1_.symm; have f5_ := f3_.symm; clear f1_ f2_ f3_; subst f4_; subst f5_))
                   obtain ⟨Ao130, co130, eo130⟩ := Kd.R_slice HO359.out
                   (first | subst eo130 | (injection eo130 with f1_ f2_ f3_; have f4_ := f1_.symm; have f5_ := f3_.symm; clear f1_ f2_ f3_; subst f4_; subst f5_))
                   refine hK.out _ _ (bc6_ BK279.out (bk2_ BK280.out)) (fun hHeld => ?_)
                   clear hK K
                   refine nm_ (some 68) ?_
                   refine one_ (i := 4) (N := some 69) bq_0 rfl rfl (by kernel_rfl) (by decide) (fun K hK => ?_)
                   refine goes_ Try.func36 (by kernel_rfl) rfl #[.agg #[.int .i64 t350, .int .i64 t351, .int .i64 t352, .string t353, .slice Ao129 t354.length co129, .slice Ao130 t357.length co130], .agg #[.int .i64 t360, .string t361]] (by rfl) rfl rfl tq_2 ?_
                   with_reducible refine (impl_WithEntry.calls t350 t351 t352 t353 _ _ t354 _ _ t357 t360 t361 t362 t363 t364 t365 t366 t369 _ ?side1 ?side2 ?side3 ?side4 A122.out).mono ?_
                   (case side1 => exact tq_108)
                   (case side2 => exact (Kd.R_reads' HO356.out).2.1)
                   (case side3 => exact tq_107)
                   (case side4 => exact (Kd.R_reads' HO359.out).2.1)
                   rintro e w131 ⟨v367, v370, rfl, ho0, ho1, hb⟩
                   refine ⟨_, rfl, ?_⟩
                   have z_ := p_ (Kd.R_elder' tq_22 (Kd.R_base ho0) hb) <| p_ (Kd.R_elder' tq_21 (Kd.R_base ho1) hb) <| p_ (Kd.R_elder' tq_20 (Kd.R_base ho0) hb) <| p_ (Kd.R_elder' tq_19 (Kd.R_base ho1) hb) <| p_ (Kd.R_elder' tq_18 (Kd.R_base ho0) hb) <| p_ (Kd.R_elder' tq_17 (Kd.R_base ho1) hb) <| p_ (Kd.R_elder' tq_42 (Kd.R_base ho0) hb) <| p_ (Kd.R_elder' tq_41 (Kd.R_base ho1) hb) <| p_ (Kd.R_lower (Kd.R_new' (Kd.R_new' (Kd.R_new' (Kd.R_new' ho0 (Kd.R_lt tq_22)) (Kd.R_lt tq_20)) (Kd.R_lt tq_18)) (Kd.R_lt tq_42)) (below_size tq_5)) <| p_ (Kd.R_lower (Kd.R_new' (Kd.R_new' (Kd.R_new' (Kd.R_new' ho1 (Kd.R_lt tq_21)) (Kd.R_lt tq_19)) (Kd.R_lt tq_17)) (Kd.R_lt tq_41)) (below_size tq_5)) <| p_ (blk_below tq_3 hb) <| p_ (blk_below tq_4 hb) <| p_ (blk_below tq_6 hb) <| p_ (blk_below tq_8 hb) <| p_ (blk_below tq_12 hb) <| p_ (blk_below tq_38 hb) <| a_ (below_step tq_5 hb)
                   clear HO_306004 HO_306005 HO_317004 HO_317005 HO_330004 HO_330005 HO356 HO359 BK279 BK280 BK305 BK316 BK329 BK372 HB
                   obtain ⟨HO_306004, HO_306005, HO_317004, HO_317005, HO_330004, HO_330005, HO356, HO359, HO368, HO371, BK279, BK280, BK305, BK316, BK329, BK372, HB⟩ := z_
                   (try clear hb)
                   (try clear hb2)
                   (try clear hk)
                   (try clear hi)
                   (try clear ho0)
                   (try clear ho1)
                   refine hK.out _ _ (bc6_ BK279.out (bk2_ BK280.out)) (fun hHeld => ?_)
                   clear hK K
                   refine nm_ (some 69) ?_
                   exact norm_ tq_65 (hCont (.slice Ao129 t354.length co129, .slice Ao130 t357.length co130, v367, v370, gb372) _ ⟨hHeld, tq_106, tq_105, tq_104, tq_103, tq_102, tq_101, tq_100, tq_99, tq_98, tq_97, tq_3, tq_4, tq_6, tq_8, tq_12, tq_38, GW372.out, GE372.out, NB279_372.out, NB372_279.out, NB280_372.out, NB372_280.out, NB305_372.out, NB372_305.out, NB316_372.out, NB372_316.out, NB329_372.out, NB372_329.out, tq_5⟩)
                 rintro ⟨v355, v358, v367, v370, gb372⟩ w132 ⟨hS_, h0_, h1_, h2_, h3_, h4_, h5_, h6_, h7_, h8_, h9_, h10_, h11_, h12_, h13_, h14_, h15_, h16_, h17_, h18_, h19_, h20_, h21_, h22_, h23_, h24_, h25_, h26_, h27_, h28_⟩
                 have z_ := q_ (⟨h0_⟩ : Aside0 (Kd.R k170 170 w132 w.heap.size (fun k_ => some k_ ≠ (v367 : Value).ownBlock ∧ some k_ ≠ (.slice Ao37 t299.length co37 : Value).ownBlock ∧ some k_ ≠ (.slice Ao50 t343.length co50 : Value).ownBlock ∧ some k_ ≠ (.slice Ao62 t347.length co62 : Value).ownBlock) v355 t354)) <| q_ (⟨h1_⟩ : Aside0 (Kd.R k59 59 w132 w.heap.size (fun k_ => some k_ ≠ (v370 : Value).ownBlock ∧ some k_ ≠ (.slice Ao39 t302.length co39 : Value).ownBlock ∧ some k_ ≠ (.slice Ao51 t344.length co51 : Value).ownBlock ∧ some k_ ≠ (.slice Ao64 t348.length co64 : Value).ownBlock) v358 t357)) <| q_ (⟨h2_⟩ : Aside0 (Kd.R k170 170 w132 w.heap.size (fun k_ => some k_ ≠ (v355 : Value).ownBlock ∧ some k_ ≠ (.slice Ao37 t299.length co37 : Value).ownBlock ∧ some k_ ≠ (.slice Ao50 t343.length co50 : Value).ownBlock ∧ some k_ ≠ (.slice Ao62 t347.length co62 : Value).ownBlock) v367 t366)) <| q_ (⟨h3_⟩ : Aside0 (Kd.R k59 59 w132 w.heap.size (fun k_ => some k_ ≠ (v358 : Value).ownBlock ∧ some k_ ≠ (.slice Ao39 t302.length co39 : Value).ownBlock ∧ some k_ ≠ (.slice Ao51 t344.length co51 : Value).ownBlock ∧ some k_ ≠ (.slice Ao64 t348.length co64 : Value).ownBlock) v370 t369)) <| q_ (⟨h4_⟩ : Aside0 (Kd.R k170 170 w132 w.heap.size (fun k_ => some k_ ≠ (v355 : Value).ownBlock ∧ some k_ ≠ (v367 : Value).ownBlock ∧ some k_ ≠ (.slice Ao50 t343.length co50 : Value).ownBlock ∧ some k_ ≠ (.slice Ao62 t347.length co62 : Value).ownBlock) (.slice Ao37 t299.length co37) t299)) <| q_ (⟨h5_⟩ : Aside0 (Kd.R k59 59 w132 w.heap.size (fun k_ => some k_ ≠ (v358 : Value).ownBlock ∧ some k_ ≠ (v370 : Value).ownBlock ∧ some k_ ≠ (.slice Ao51 t344.length co51 : Value).ownBlock ∧ some k_ ≠ (.slice Ao64 t348.length co64 : Value).ownBlock) (.slice Ao39 t302.length co39) t302)) <| q_ (⟨h6_⟩ : Aside0 (Kd.R k170 170 w132 w.heap.size (fun k_ => some k_ ≠ (v355 : Value).ownBlock ∧ some k_ ≠ (v367 : Value).ownBlock ∧ some k_ ≠ (.slice Ao37 t299.length co37 : Value).ownBlock ∧ some k_ ≠ (.slice Ao62 t347.length co62 : Value).ownBlock) (.slice Ao50 t343.length co50) t343)) <| q_ (⟨h7_⟩ : Aside0 (Kd.R k59 59 w132 w.heap.size (fun k_ => some k_ ≠ (v358 : Value).ownBlock ∧ some k_ ≠ (v370 : Value).ownBlock ∧ some k_ ≠ (.slice Ao39 t302.length co39 : Value).ownBlock ∧ some k_ ≠ (.slice Ao64 t348.length co64 : Value).ownBlock) (.slice Ao51 t344.length co51) t344)) <| q_ (⟨h8_⟩ : Aside0 (Kd.R k170 170 w132 w.heap.size (fun k_ => some k_ ≠ (v355 : Value).ownBlock ∧ some k_ ≠ (v367 : Value).ownBlock ∧ some k_ ≠ (.slice Ao37 t299.length co37 : Value).ownBlock ∧ some k_ ≠ (.slice Ao50 t343.length co50 : Value).ownBlock) (.slice Ao62 t347.length co62) t347)) <| q_ (⟨h9_⟩ : Aside0 (Kd.R k59 59 w132 w.heap.size (fun k_ => some k_ ≠ (v358 : Value).ownBlock ∧ some k_ ≠ (v370 : Value).ownBlock ∧ some k_ ≠ (.slice Ao39 t302.length co39 : Value).ownBlock ∧ some k_ ≠ (.slice Ao51 t344.length co51 : Value).ownBlock) (.slice Ao64 t348.length co64) t348)) <| q_ (⟨h10_⟩ : Aside0 (w132.heap[gb279]? = some (.cells #[.int .i64 a0_0, .int .i64 a0_1, .int .i64 a0_2, .string a0_3, .slice A0_4 l0_4.length c0_4, .slice A0_5 l0_5.length c0_5] 44 (0, 0)))) <| q_ (⟨h11_⟩ : Aside0 (w132.heap[gb280]? = some (.cells #[.int .i64 a1_0, .string a1_1] 56 (0, 0)))) <| q_ (⟨h12_⟩ : Aside0 (w132.heap[gb305]? = some (.cells #[.int .i64 t295, .int .i64 t296, .int .i64 t297, .string t298, .slice Ao37 t299.length co37, .slice Ao39 t302.length co39] 49 (0, 0)))) <| q_ (⟨h13_⟩ : Aside0 (w132.heap[gb316]? = some (.cells #[.int .i64 t306, .int .i64 t307, .int .i64 t308, .string t309, .slice Ao50 t343.length co50, .slice Ao51 t344.length co51] 49 (0, 0)))) <| q_ (⟨h14_⟩ : Aside0 (w132.heap[gb329]? = some (.cells #[.int .i64 t319, .int .i64 t320, .int .i64 t321, .string t322, .slice Ao62 t347.length co62, .slice Ao64 t348.length co64] 49 (0, 0)))) <| q_ (⟨h15_⟩ : Aside0 (w132.heap[gb372]? = some (.cells #[.int .i64 0, .int .i64 0, .int .i64 0, .string (⟨#[]⟩ : ByteArray), .slice none 0 0, .slice none 0 0] 49 (0, 0)))) <| q_ (⟨h16_⟩ : Aside0 (w.heap.size ≤ gb372)) <| q_ (⟨h17_⟩ : Aside0 (w.heap.size ≤ gb372)) <| q_ (⟨h18_⟩ : Aside0 (gb279 ≠ gb372)) <| q_ (⟨h19_⟩ : Aside0 (gb372 ≠ gb279)) <| q_ (⟨h20_⟩ : Aside0 (gb280 ≠ gb372)) <| q_ (⟨h21_⟩ : Aside0 (gb372 ≠ gb280)) <| q_ (⟨h22_⟩ : Aside0 (gb305 ≠ gb372)) <| q_ (⟨h23_⟩ : Aside0 (gb372 ≠ gb305)) <| q_ (⟨h24_⟩ : Aside0 (gb316 ≠ gb372)) <| q_ (⟨h25_⟩ : Aside0 (gb372 ≠ gb316)) <| q_ (⟨h26_⟩ : Aside0 (gb329 ≠ gb372)) <| q_ (⟨h27_⟩ : Aside0 (gb372 ≠ gb329)) <| (⟨h28_⟩ : Aside0 (Below w.heap.size w w132))
                 clear HO_306004 HO_306005 HO_317004 HO_317005 HO_330004 HO_330005 BK279 BK280 BK305 BK316 BK329 HB h0_ h1_ h2_ h3_ h4_ h5_ h6_ h7_ h8_ h9_ h10_ h11_ h12_ h13_ h14_ h15_ h16_ h17_ h18_ h19_ h20_ h21_ h22_ h23_ h24_ h25_ h26_ h27_ h28_
                 obtain ⟨HO356, HO359, HO368, HO371, HO_306004, HO_306005, HO_317004, HO_317005, HO_330004, HO_330005, BK279, BK280, BK305, BK316, BK329, BK372, GW372, GE372, NB279_372, NB372_279, NB280_372, NB372_280, NB305_372, NB372_305, NB316_372, NB372_316, NB329_372, NB372_329, HB⟩ := z_
                 have hHeld : w132.cell? ⟨gb279, 0, none⟩ = some (.int .i64 a0_0) ∧ w132.cell? ⟨gb279, 1, none⟩ = some (.int .i64 a0_1) ∧ w132.cell? ⟨gb279, 2, none⟩ = some (.int .i64 a0_2) ∧ w132.cell? ⟨gb279, 3, none⟩ = some (.string a0_3) ∧ w132.cell? ⟨gb279, 4, none⟩ = some (.slice A0_4 l0_4.length c0_4) ∧ w132.cell? ⟨gb279, 5, none⟩ = some (.slice A0_5 l0_5.length c0_5) ∧ w132.cell? ⟨gb280, 0, none⟩ = some (.int .i64 a1_0) ∧ w132.cell? ⟨gb280, 1, none⟩ = some (.string a1_1) := hS_
                 obtain ⟨Ao137, co137, eo137⟩ := Kd.R_slice HO368.out
                 (first | subst eo137 | (injection eo137 with f1_ f2_ f3_; have f4_ := f1_.symm; have f5_ := f3_.symm; clear f1_ f2_ f3_; subst f4_; subst f5_))
                 obtain ⟨Ao139, co139, eo139⟩ := Kd.R_slice HO371.out
                 (first | subst eo139 | (injection eo139 with f1_ f2_ f3_; have f4_ := f1_.symm; have f5_ := f3_.symm; clear f1_ f2_ f3_; subst f4_; subst f5_))
                 refine norm_ (a' := ?_) ?_ ?_
                 rotate_left
                 ·simp only [putAll, Act.put, List.setIfInBounds_toArray, List.set_cons_zero, List.set_cons_succ]
                  rfl
                 refine one_ (i := 6) (N := none) #[true, true, true, true, true, true, true] rfl rfl (by kernel_rfl) (by decide) (fun K hK => ?_)
                 have hs133 : w132.cell? ⟨gb372, 0, none⟩ = some (.int .i64 0) := (blk_cell BK372.out 0).trans rfl
                 have hfs133 := blk_frozen BK372.out 0
                 have hns133_0 := NB279_372.out
                 have hns133_1 := NB280_372.out
                 have hns133_2 := NB305_372.out
                 have hns133_3 := NB316_372.out
                 have hns133_4 := NB329_372.out
                 have hms133_0 := NB372_279.out
                 have hms133_1 := NB372_280.out
                 have hms133_2 := NB372_305.out
                 have hms133_3 := NB372_316.out
                 have hms133_4 := NB372_329.out
                 have hs134 : w132.cell? ⟨gb372, 1, none⟩ = some (.int .i64 0) := (blk_cell BK372.out 1).trans rfl
                 have hfs134 := blk_frozen BK372.out 1
                 have hns134_0 := NB279_372.out
                 have hns134_1 := NB280_372.out
                 have hns134_2 := NB305_372.out
                 have hns134_3 := NB316_372.out
                 have hns134_4 := NB329_372.out
                 have hms134_0 := NB372_279.out
                 have hms134_1 := NB372_280.out
                 have hms134_2 := NB372_305.out
                 have hms134_3 := NB372_316.out
                 have hms134_4 := NB372_329.out
                 have hs135 : w132.cell? ⟨gb372, 2, none⟩ = some (.int .i64 0) := (blk_cell BK372.out 2).trans rfl
                 have hfs135 := blk_frozen BK372.out 2
                 have hns135_0 := NB279_372.out
                 have hns135_1 := NB280_372.out
                 have hns135_2 := NB305_372.out
                 have hns135_3 := NB316_372.out
                 have hns135_4 := NB329_372.out
                 have hms135_0 := NB372_279.out
                 have hms135_1 := NB372_280.out
                 have hms135_2 := NB372_305.out
                 have hms135_3 := NB372_316.out
                 have hms135_4 := NB372_329.out
                 have hs136 : w132.cell? ⟨gb372, 3, none⟩ = some (.string (⟨#[]⟩ : ByteArray)) := (blk_cell BK372.out 3).trans rfl
                 have hfs136 := blk_frozen BK372.out 3
                 have hns136_0 := NB279_372.out
                 have hns136_1 := NB280_372.out
                 have hns136_2 := NB305_372.out
                 have hns136_3 := NB316_372.out
                 have hns136_4 := NB329_372.out
                 have hms136_0 := NB372_279.out
                 have hms136_1 := NB372_280.out
                 have hms136_2 := NB372_305.out
                 have hms136_3 := NB372_316.out
                 have hms136_4 := NB372_329.out
                 have hs138 : w132.cell? ⟨gb372, 4, none⟩ = some (.slice none 0 0) := (blk_cell BK372.out 4).trans rfl
                 have hfs138 := blk_frozen BK372.out 4
                 have hns138_0 := NB279_372.out
                 have hns138_1 := NB280_372.out
                 have hns138_2 := NB305_372.out
                 have hns138_3 := NB316_372.out
                 have hns138_4 := NB329_372.out
                 have hms138_0 := NB372_279.out
                 have hms138_1 := NB372_280.out
                 have hms138_2 := NB372_305.out
                 have hms138_3 := NB372_316.out
                 have hms138_4 := NB372_329.out
                 have hs140 : w132.cell? ⟨gb372, 5, none⟩ = some (.slice none 0 0) := (blk_cell BK372.out 5).trans rfl
                 have hfs140 := blk_frozen BK372.out 5
                 have hns140_0 := NB279_372.out
                 have hns140_1 := NB280_372.out
                 have hns140_2 := NB305_372.out
                 have hns140_3 := NB316_372.out
                 have hns140_4 := NB329_372.out
                 have hms140_0 := NB372_279.out
                 have hms140_1 := NB372_280.out
                 have hms140_2 := NB372_305.out
                 have hms140_3 := NB372_316.out
                 have hms140_4 := NB372_329.out
                 refine skip_ (w1 := ?_) (by rfl) rfl ?_ ?_
                 rotate_left
                 ·go_simp
                  rfl
                 refine hK.out _ _ ⟨((cell_far (p := ⟨gb372, _, none⟩) NB279_372.out _).trans (((cell_far (p := ⟨gb372, _, none⟩) NB279_372.out _).trans (((cell_far (p := ⟨gb372, _, none⟩) NB279_372.out _).trans (((cell_far (p := ⟨gb372, _, none⟩) NB279_372.out _).trans (((cell_far (p := ⟨gb372, _, none⟩) NB279_372.out _).trans (((cell_far (p := ⟨gb372, _, none⟩) NB279_372.out _).trans (hHeld.1)))))))))))), ((cell_far (p := ⟨gb372, _, none⟩) NB279_372.out _).trans (((cell_far (p := ⟨gb372, _, none⟩) NB279_372.out _).trans (((cell_far (p := ⟨gb372, _, none⟩) NB279_372.out _).trans (((cell_far (p := ⟨gb372, _, none⟩) NB279_372.out _).trans (((cell_far (p := ⟨gb372, _, none⟩) NB279_372.out _).trans (((cell_far (p := ⟨gb372, _, none⟩) NB279_372.out _).trans (hHeld.2.1)))))))))))), ((cell_far (p := ⟨gb372, _, none⟩) NB279_372.out _).trans (((cell_far (p := ⟨gb372, _, none⟩) NB279_372.out _).trans (((cell_far (p := ⟨gb372, _, none⟩) NB279_372.out _).trans (((cell_far (p := ⟨gb372, _, none⟩) NB279_372.out _).trans (((cell_far (p := ⟨gb372, _, none⟩) NB279_372.out _).trans (((cell_far (p := ⟨gb372, _, none⟩) NB279_372.out _).trans (hHeld.2.2.1)))))))))))), ((cell_far (p := ⟨gb372, _, none⟩) NB279_372.out _).trans (((cell_far (p := ⟨gb372, _, none⟩) NB279_372.out _).trans (((cell_far (p := ⟨gb372, _, none⟩) NB279_372.out _).trans (((cell_far (p := ⟨gb372, _, none⟩) NB279_372.out _).trans (((cell_far (p := ⟨gb372, _, none⟩) NB279_372.out _).trans (((cell_far (p := ⟨gb372, _, none⟩) NB279_372.out _).trans (hHeld.2.2.2.1)))))))))))), ((cell_far (p := ⟨gb372, _, none⟩) NB279_372.out _).trans (((cell_far (p := ⟨gb372, _, none⟩) NB279_372.out _).trans (((cell_far (p := ⟨gb372, _, none⟩) NB279_372.out _).trans (((cell_far (p := ⟨gb372, _, none⟩) NB279_372.out _).trans (((cell_far (p := ⟨gb372, _, none⟩) NB279_372.out _).trans (((cell_far (p := ⟨gb372, _, none⟩) NB279_372.out _).trans (hHeld.2.2.2.2.1)))))))))))), ((cell_far (p := ⟨gb372, _, none⟩) NB279_372.out _).trans (((cell_far (p := ⟨gb372, _, none⟩) NB279_372.out _).trans (((cell_far (p := ⟨gb372, _, none⟩) NB279_372.out _).trans (((cell_far (p := ⟨gb372, _, none⟩) NB279_372.out _).trans (((cell_far (p := ⟨gb372, _, none⟩) NB279_372.out _).trans (((cell_far (p := ⟨gb372, _, none⟩) NB279_372.out _).trans (hHeld.2.2.2.2.2.1)))))))))))), ((cell_far (p := ⟨gb372, _, none⟩) NB280_372.out _).trans (((cell_far (p := ⟨gb372, _, none⟩) NB280_372.out _).trans (((cell_far (p := ⟨gb372, _, none⟩) NB280_372.out _).trans (((cell_far (p := ⟨gb372, _, none⟩) NB280_372.out _).trans (((cell_far (p := ⟨gb372, _, none⟩) NB280_372.out _).trans (((cell_far (p := ⟨gb372, _, none⟩) NB280_372.out _).trans (hHeld.2.2.2.2.2.2.1)))))))))))), ((cell_far (p := ⟨gb372, _, none⟩) NB280_372.out _).trans (((cell_far (p := ⟨gb372, _, none⟩) NB280_372.out _).trans (((cell_far (p := ⟨gb372, _, none⟩) NB280_372.out _).trans (((cell_far (p := ⟨gb372, _, none⟩) NB280_372.out _).trans (((cell_far (p := ⟨gb372, _, none⟩) NB280_372.out _).trans (((cell_far (p := ⟨gb372, _, none⟩) NB280_372.out _).trans (hHeld.2.2.2.2.2.2.2))))))))))))⟩ (fun hHeld => ?_)
                 clear hK K
                 refine done_ (by kernel_rfl) ?_
                 have hnb141 := NB372_279.out
                 have hnc141 := NB279_372.out
                 have hnb142 := NB372_280.out
                 have hnc142 := NB280_372.out
                 have hnb143 := NB372_305.out
                 have hnc143 := NB305_372.out
                 have hnb144 := NB372_316.out
                 have hnc144 := NB316_372.out
                 have hnb145 := NB372_329.out
                 have hnc145 := NB329_372.out
                 have hcz146_0 := bc_ BK372.out 0
                 have hcz146_1 := bc_ BK372.out 1
                 have hcz146_2 := bc_ BK372.out 2
                 have hcz146_3 := bc_ BK372.out 3
                 have hcz146_4 := bc_ BK372.out 4
                 have hcz146_5 := bc_ BK372.out 5
                 have hfz146_0 := blk_frozen BK372.out 0
                 have hfz146_1 := blk_frozen BK372.out 1
                 have hfz146_2 := blk_frozen BK372.out 2
                 have hfz146_3 := blk_frozen BK372.out 3
                 have hfz146_4 := blk_frozen BK372.out 4
                 have hfz146_5 := blk_frozen BK372.out 5
                 have hnb147 := NB305_279.out
                 have hnc147 := NB279_305.out
                 have hnb148 := NB305_280.out
                 have hnc148 := NB280_305.out
                 have hnb149 := NB305_316.out
                 have hnc149 := NB316_305.out
                 have hnb150 := NB305_329.out
                 have hnc150 := NB329_305.out
                 have hcz151_0 := bc_ BK305.out 0
                 have hcz151_1 := bc_ BK305.out 1
                 have hcz151_2 := bc_ BK305.out 2
                 have hcz151_3 := bc_ BK305.out 3
                 have hcz151_4 := bc_ BK305.out 4
                 have hcz151_5 := bc_ BK305.out 5
                 have hfz151_0 := blk_frozen BK305.out 0
                 have hfz151_1 := blk_frozen BK305.out 1
                 have hfz151_2 := blk_frozen BK305.out 2
                 have hfz151_3 := blk_frozen BK305.out 3
                 have hfz151_4 := blk_frozen BK305.out 4
                 have hfz151_5 := blk_frozen BK305.out 5
                 go_upto_if 73 with (first | ((with_reducible refine gate_callee (f := 30) rfl ?_); refine goesL_ (some 72) rfl rfl Try.func30 (by kernel_rfl) rfl #[.agg #[.int .i64 t362, .int .i64 t363, .int .i64 t364, .string t365, .slice Ao137 t366.length co137, .slice Ao139 t369.length co139], .agg #[.int .i64 t295, .int .i64 t296, .int .i64 t297, .string t298, .slice Ao37 t299.length co37, .slice Ao39 t302.length co39]] rfl tq_2 ?_; (with_reducible refine (laws_eqInode.calls kj117 t362 t363 t364 t365 _ _ t366 _ _ t369 t295 t296 t297 t298 _ _ t299 _ _ t302 t373 _ ?side1 ?side2 ?side3 ?side4 ?side5 ?side6 ?side7 ?side8 A123.out).mono ?_); (case side1 => refine (Kd.R_reads' (e := 170) (base := w.heap.size) (ok := fun k_ => (some k_ ≠ (v355 : Value).ownBlock ∧ (some k_ ≠ (.slice Ao37 t299.length co37 : Value).ownBlock ∧ (some k_ ≠ (.slice Ao50 t343.length co50 : Value).ownBlock ∧ some k_ ≠ (.slice Ao62 t347.length co62 : Value).ownBlock)))) (n := t366.length) (c := co137) ?_).2.2; exact tq_79); (case side2 => exact (Kd.R_reads' HO368.out).2.1); (case side3 => refine (Kd.R_reads' (e := 59) (base := w.heap.size) (ok := fun k_ => (some k_ ≠ (v358 : Value).ownBlock ∧ (some k_ ≠ (.slice Ao39 t302.length co39 : Value).ownBlock ∧ (some k_ ≠ (.slice Ao51 t344.length co51 : Value).ownBlock ∧ some k_ ≠ (.slice Ao64 t348.length co64 : Value).ownBlock)))) (n := t369.length) (c := co139) ?_).2.2; exact tq_78); (case side4 => exact (Kd.R_reads' HO371.out).2.1); (case side5 => refine (Kd.R_reads' (e := 170) (base := w.heap.size) (ok := fun k_ => (some k_ ≠ (v355 : Value).ownBlock ∧ (some k_ ≠ (.slice Ao137 t366.length co137 : Value).ownBlock ∧ (some k_ ≠ (.slice Ao50 t343.length co50 : Value).ownBlock ∧ some k_ ≠ (.slice Ao62 t347.length co62 : Value).ownBlock)))) (n := t299.length) (c := co37) ?_).2.2; exact tq_77); (case side6 => exact (Kd.R_reads' HO_306004.out).2.1); (case side7 => refine (Kd.R_reads' (e := 59) (base := w.heap.size) (ok := fun k_ => (some k_ ≠ (v358 : Value).ownBlock ∧ (some k_ ≠ (.slice Ao139 t369.length co139 : Value).ownBlock ∧ (some k_ ≠ (.slice Ao51 t344.length co51 : Value).ownBlock ∧ some k_ ≠ (.slice Ao64 t348.length co64 : Value).ownBlock)))) (n := t302.length) (c := co39) ?_).2.2; exact tq_76); (case side8 => exact (Kd.R_reads' HO_306005.out).2.1); rintro e w152 ⟨rfl, hb⟩; refine ⟨_, rfl, ?_⟩; have z_ := p_ (Kd.R_below tq_77 hb) <| p_ (Kd.R_below tq_76 hb) <| p_ (Kd.R_below (by (with_reducible repeat (first | apply Kd.R_alloc | apply Kd.R_drewN | apply Kd.R_drew)); exact (Kd.R_mono (Kd.R_far (p := ⟨gb372, 5, none⟩) (Kd.R_far (p := ⟨gb372, 4, none⟩) (Kd.R_far (p := ⟨gb372, 3, none⟩) (Kd.R_far (p := ⟨gb372, 2, none⟩) (Kd.R_far (p := ⟨gb372, 1, none⟩) (Kd.R_far (p := ⟨gb372, 0, none⟩) (Kd.R_types HO_317004.out BK372.out (by decide)) (fun _ hk => hk.2) (.int .i64 t362)) (fun _ hk => hk.2) (.int .i64 t363)) (fun _ hk => hk.2) (.int .i64 t364)) (fun _ hk => hk.2) (.string t365)) (fun _ hk => hk.2) (.slice Ao137 t366.length co137)) (fun _ hk => hk.2) (.slice Ao139 t369.length co139)) (fun _ h_ => h_.1))) hb) <| p_ (Kd.R_below (by (with_reducible repeat (first | apply Kd.R_alloc | apply Kd.R_drewN | apply Kd.R_drew)); exact (Kd.R_mono (Kd.R_far (p := ⟨gb372, 5, none⟩) (Kd.R_far (p := ⟨gb372, 4, none⟩) (Kd.R_far (p := ⟨gb372, 3, none⟩) (Kd.R_far (p := ⟨gb372, 2, none⟩) (Kd.R_far (p := ⟨gb372, 1, none⟩) (Kd.R_far (p := ⟨gb372, 0, none⟩) (Kd.R_types HO_317005.out BK372.out (by decide)) (fun _ hk => hk.2) (.int .i64 t362)) (fun _ hk => hk.2) (.int .i64 t363)) (fun _ hk => hk.2) (.int .i64 t364)) (fun _ hk => hk.2) (.string t365)) (fun _ hk => hk.2) (.slice Ao137 t366.length co137)) (fun _ hk => hk.2) (.slice Ao139 t369.length co139)) (fun _ h_ => h_.1))) hb) <| p_ (Kd.R_below (by (with_reducible repeat (first | apply Kd.R_alloc | apply Kd.R_drewN | apply Kd.R_drew)); exact (Kd.R_mono (Kd.R_far (p := ⟨gb372, 5, none⟩) (Kd.R_far (p := ⟨gb372, 4, none⟩) (Kd.R_far (p := ⟨gb372, 3, none⟩) (Kd.R_far (p := ⟨gb372, 2, none⟩) (Kd.R_far (p := ⟨gb372, 1, none⟩) (Kd.R_far (p := ⟨gb372, 0, none⟩) (Kd.R_types HO_330004.out BK372.out (by decide)) (fun _ hk => hk.2) (.int .i64 t362)) (fun _ hk => hk.2) (.int .i64 t363)) (fun _ hk => hk.2) (.int .i64 t364)) (fun _ hk => hk.2) (.string t365)) (fun _ hk => hk.2) (.slice Ao137 t366.length co137)) (fun _ hk => hk.2) (.slice Ao139 t369.length co139)) (fun _ h_ => h_.1))) hb) <| p_ (Kd.R_below (by (with_reducible repeat (first | apply Kd.R_alloc | apply Kd.R_drewN | apply Kd.R_drew)); exact (Kd.R_mono (Kd.R_far (p := ⟨gb372, 5, none⟩) (Kd.R_far (p := ⟨gb372, 4, none⟩) (Kd.R_far (p := ⟨gb372, 3, none⟩) (Kd.R_far (p := ⟨gb372, 2, none⟩) (Kd.R_far (p := ⟨gb372, 1, none⟩) (Kd.R_far (p := ⟨gb372, 0, none⟩) (Kd.R_types HO_330005.out BK372.out (by decide)) (fun _ hk => hk.2) (.int .i64 t362)) (fun _ hk => hk.2) (.int .i64 t363)) (fun _ hk => hk.2) (.int .i64 t364)) (fun _ hk => hk.2) (.string t365)) (fun _ hk => hk.2) (.slice Ao137 t366.length co137)) (fun _ hk => hk.2) (.slice Ao139 t369.length co139)) (fun _ h_ => h_.1))) hb) <| p_ (Kd.R_below (by (with_reducible repeat (first | apply Kd.R_alloc | apply Kd.R_drewN | apply Kd.R_drew)); exact (Kd.R_mono (Kd.R_far (p := ⟨gb372, 5, none⟩) (Kd.R_far (p := ⟨gb372, 4, none⟩) (Kd.R_far (p := ⟨gb372, 3, none⟩) (Kd.R_far (p := ⟨gb372, 2, none⟩) (Kd.R_far (p := ⟨gb372, 1, none⟩) (Kd.R_far (p := ⟨gb372, 0, none⟩) (Kd.R_types HO356.out BK372.out (by decide)) (fun _ hk => hk.2) (.int .i64 t362)) (fun _ hk => hk.2) (.int .i64 t363)) (fun _ hk => hk.2) (.int .i64 t364)) (fun _ hk => hk.2) (.string t365)) (fun _ hk => hk.2) (.slice Ao137 t366.length co137)) (fun _ hk => hk.2) (.slice Ao139 t369.length co139)) (fun _ h_ => h_.1))) hb) <| p_ (Kd.R_below (by (with_reducible repeat (first | apply Kd.R_alloc | apply Kd.R_drewN | apply Kd.R_drew)); exact (Kd.R_mono (Kd.R_far (p := ⟨gb372, 5, none⟩) (Kd.R_far (p := ⟨gb372, 4, none⟩) (Kd.R_far (p := ⟨gb372, 3, none⟩) (Kd.R_far (p := ⟨gb372, 2, none⟩) (Kd.R_far (p := ⟨gb372, 1, none⟩) (Kd.R_far (p := ⟨gb372, 0, none⟩) (Kd.R_types HO359.out BK372.out (by decide)) (fun _ hk => hk.2) (.int .i64 t362)) (fun _ hk => hk.2) (.int .i64 t363)) (fun _ hk => hk.2) (.int .i64 t364)) (fun _ hk => hk.2) (.string t365)) (fun _ hk => hk.2) (.slice Ao137 t366.length co137)) (fun _ hk => hk.2) (.slice Ao139 t369.length co139)) (fun _ h_ => h_.1))) hb) <| p_ (Kd.R_below tq_79 hb) <| p_ (Kd.R_below tq_78 hb) <| p_ (blk_below (g := gb279) (o := .cells #[.int .i64 a0_0, .int .i64 a0_1, .int .i64 a0_2, .string a0_3, .slice A0_4 l0_4.length c0_4, .slice A0_5 l0_5.length c0_5] 44 (0, 0)) (by (with_reducible repeat (first | refine blk_drewN ?_ _ | refine blk_drew ?_ | refine blk_alloc ?_ _)); refine blk_far ?_ NB279_372.out _; (with_reducible repeat (first | refine blk_drewN ?_ _ | refine blk_drew ?_ | refine blk_alloc ?_ _)); refine blk_far ?_ NB279_372.out _; (with_reducible repeat (first | refine blk_drewN ?_ _ | refine blk_drew ?_ | refine blk_alloc ?_ _)); refine blk_far ?_ NB279_372.out _; (with_reducible repeat (first | refine blk_drewN ?_ _ | refine blk_drew ?_ | refine blk_alloc ?_ _)); refine blk_far ?_ NB279_372.out _; (with_reducible repeat (first | refine blk_drewN ?_ _ | refine blk_drew ?_ | refine blk_alloc ?_ _)); refine blk_far ?_ NB279_372.out _; (with_reducible repeat (first | refine blk_drewN ?_ _ | refine blk_drew ?_ | refine blk_alloc ?_ _)); refine blk_far ?_ NB279_372.out _; (with_reducible repeat (first | refine blk_drewN ?_ _ | refine blk_drew ?_ | refine blk_alloc ?_ _)); exact BK279.out) hb) <| p_ (blk_below (g := gb280) (o := .cells #[.int .i64 a1_0, .string a1_1] 56 (0, 0)) (by (with_reducible repeat (first | refine blk_drewN ?_ _ | refine blk_drew ?_ | refine blk_alloc ?_ _)); refine blk_far ?_ NB280_372.out _; (with_reducible repeat (first | refine blk_drewN ?_ _ | refine blk_drew ?_ | refine blk_alloc ?_ _)); refine blk_far ?_ NB280_372.out _; (with_reducible repeat (first | refine blk_drewN ?_ _ | refine blk_drew ?_ | refine blk_alloc ?_ _)); refine blk_far ?_ NB280_372.out _; (with_reducible repeat (first | refine blk_drewN ?_ _ | refine blk_drew ?_ | refine blk_alloc ?_ _)); refine blk_far ?_ NB280_372.out _; (with_reducible repeat (first | refine blk_drewN ?_ _ | refine blk_drew ?_ | refine blk_alloc ?_ _)); refine blk_far ?_ NB280_372.out _; (with_reducible repeat (first | refine blk_drewN ?_ _ | refine blk_drew ?_ | refine blk_alloc ?_ _)); refine blk_far ?_ NB280_372.out _; (with_reducible repeat (first | refine blk_drewN ?_ _ | refine blk_drew ?_ | refine blk_alloc ?_ _)); exact BK280.out) hb) <| p_ (blk_below (g := gb305) (o := .cells #[.int .i64 t295, .int .i64 t296, .int .i64 t297, .string t298, .slice Ao37 t299.length co37, .slice Ao39 t302.length co39] 49 (0, 0)) (by (with_reducible repeat (first | refine blk_drewN ?_ _ | refine blk_drew ?_ | refine blk_alloc ?_ _)); refine blk_far ?_ NB305_372.out _; (with_reducible repeat (first | refine blk_drewN ?_ _ | refine blk_drew ?_ | refine blk_alloc ?_ _)); refine blk_far ?_ NB305_372.out _; (with_reducible repeat (first | refine blk_drewN ?_ _ | refine blk_drew ?_ | refine blk_alloc ?_ _)); refine blk_far ?_ NB305_372.out _; (with_reducible repeat (first | refine blk_drewN ?_ _ | refine blk_drew ?_ | refine blk_alloc ?_ _)); refine blk_far ?_ NB305_372.out _; (with_reducible repeat (first | refine blk_drewN ?_ _ | refine blk_drew ?_ | refine blk_alloc ?_ _)); refine blk_far ?_ NB305_372.out _; (with_reducible repeat (first | refine blk_drewN ?_ _ | refine blk_drew ?_ | refine blk_alloc ?_ _)); refine blk_far ?_ NB305_372.out _; (with_reducible repeat (first | refine blk_drewN ?_ _ | refine blk_drew ?_ | refine blk_alloc ?_ _)); exact BK305.out) hb) <| p_ (blk_below (g := gb316) (o := .cells #[.int .i64 t306, .int .i64 t307, .int .i64 t308, .string t309, .slice Ao50 t343.length co50, .slice Ao51 t344.length co51] 49 (0, 0)) (by (with_reducible repeat (first | refine blk_drewN ?_ _ | refine blk_drew ?_ | refine blk_alloc ?_ _)); refine blk_far ?_ NB316_372.out _; (with_reducible repeat (first | refine blk_drewN ?_ _ | refine blk_drew ?_ | refine blk_alloc ?_ _)); refine blk_far ?_ NB316_372.out _; (with_reducible repeat (first | refine blk_drewN ?_ _ | refine blk_drew ?_ | refine blk_alloc ?_ _)); refine blk_far ?_ NB316_372.out _; (with_reducible repeat (first | refine blk_drewN ?_ _ | refine blk_drew ?_ | refine blk_alloc ?_ _)); refine blk_far ?_ NB316_372.out _; (with_reducible repeat (first | refine blk_drewN ?_ _ | refine blk_drew ?_ | refine blk_alloc ?_ _)); refine blk_far ?_ NB316_372.out _; (with_reducible repeat (first | refine blk_drewN ?_ _ | refine blk_drew ?_ | refine blk_alloc ?_ _)); refine blk_far ?_ NB316_372.out _; (with_reducible repeat (first | refine blk_drewN ?_ _ | refine blk_drew ?_ | refine blk_alloc ?_ _)); exact BK316.out) hb) <| p_ (blk_below (g := gb329) (o := .cells #[.int .i64 t319, .int .i64 t320, .int .i64 t321, .string t322, .slice Ao62 t347.length co62, .slice Ao64 t348.length co64] 49 (0, 0)) (by (with_reducible repeat (first | refine blk_drewN ?_ _ | refine blk_drew ?_ | refine blk_alloc ?_ _)); refine blk_far ?_ NB329_372.out _; (with_reducible repeat (first | refine blk_drewN ?_ _ | refine blk_drew ?_ | refine blk_alloc ?_ _)); refine blk_far ?_ NB329_372.out _; (with_reducible repeat (first | refine blk_drewN ?_ _ | refine blk_drew ?_ | refine blk_alloc ?_ _)); refine blk_far ?_ NB329_372.out _; (with_reducible repeat (first | refine blk_drewN ?_ _ | refine blk_drew ?_ | refine blk_alloc ?_ _)); refine blk_far ?_ NB329_372.out _; (with_reducible repeat (first | refine blk_drewN ?_ _ | refine blk_drew ?_ | refine blk_alloc ?_ _)); refine blk_far ?_ NB329_372.out _; (with_reducible repeat (first | refine blk_drewN ?_ _ | refine blk_drew ?_ | refine blk_alloc ?_ _)); refine blk_far ?_ NB329_372.out _; (with_reducible repeat (first | refine blk_drewN ?_ _ | refine blk_drew ?_ | refine blk_alloc ?_ _)); exact BK329.out) hb) <| p_ (blk_below (g := gb372) (o := .cells #[.int .i64 t362, .int .i64 t363, .int .i64 t364, .string t365, .slice Ao137 t366.length co137, .slice Ao139 t369.length co139] 49 (0, 0)) (by (with_reducible repeat (first | refine blk_drewN ?_ _ | refine blk_drew ?_ | refine blk_alloc ?_ _)); refine blk_put (cs := #[.int .i64 t362, .int .i64 t363, .int .i64 t364, .string t365, .slice Ao137 t366.length co137, .slice none 0 0]) ?_ 5 _ rfl; (with_reducible repeat (first | refine blk_drewN ?_ _ | refine blk_drew ?_ | refine blk_alloc ?_ _)); refine blk_put (cs := #[.int .i64 t362, .int .i64 t363, .int .i64 t364, .string t365, .slice none 0 0, .slice none 0 0]) ?_ 4 _ rfl; (with_reducible repeat (first | refine blk_drewN ?_ _ | refine blk_drew ?_ | refine blk_alloc ?_ _)); refine blk_put (cs := #[.int .i64 t362, .int .i64 t363, .int .i64 t364, .string (⟨#[]⟩ : ByteArray), .slice none 0 0, .slice none 0 0]) ?_ 3 _ rfl; (with_reducible repeat (first | refine blk_drewN ?_ _ | refine blk_drew ?_ | refine blk_alloc ?_ _)); refine blk_put (cs := #[.int .i64 t362, .int .i64 t363, .int .i64 0, .string (⟨#[]⟩ : ByteArray), .slice none 0 0, .slice none 0 0]) ?_ 2 _ rfl; (with_reducible repeat (first | refine blk_drewN ?_ _ | refine blk_drew ?_ | refine blk_alloc ?_ _)); refine blk_put (cs := #[.int .i64 t362, .int .i64 0, .int .i64 0, .string (⟨#[]⟩ : ByteArray), .slice none 0 0, .slice none 0 0]) ?_ 1 _ rfl; (with_reducible repeat (first | refine blk_drewN ?_ _ | refine blk_drew ?_ | refine blk_alloc ?_ _)); refine blk_put (cs := #[.int .i64 0, .int .i64 0, .int .i64 0, .string (⟨#[]⟩ : ByteArray), .slice none 0 0, .slice none 0 0]) ?_ 0 _ rfl; (with_reducible repeat (first | refine blk_drewN ?_ _ | refine blk_drew ?_ | refine blk_alloc ?_ _)); exact BK372.out) hb) <| a_ (below_step tq_5 hb); clear HO_306004 HO_306005 HO_317004 HO_317005 HO_330004 HO_330005 HO356 HO359 HO368 HO371 BK279 BK280 BK305 BK316 BK329 BK372 HB; obtain ⟨HO_306004, HO_306005, HO_317004, HO_317005, HO_330004, HO_330005, HO356, HO359, HO368, HO371, BK279, BK280, BK305, BK316, BK329, BK372, HB⟩ := z_; (try clear hb); (try clear hb2); (try clear hk); (try clear hi)))
                 (try simp only [Act.put, List.setIfInBounds_toArray, List.set_cons_zero, List.set_cons_succ])
                 go_cut [] (fun wc => ∃ (kq : Nat), Aside0 (laws_FnExactWithEntry.j8 kq t346 t319 t320 t321 t322 t347 t348 = some r) ∧ Aside0 (kq ≤ kj117) ∧ Aside0 (Kd.R k170 170 wc w.heap.size (fun k_ => some k_ ≠ ((.slice Ao50 t343.length co50) : Value).ownBlock ∧ some k_ ≠ ((.slice Ao62 t347.length co62) : Value).ownBlock ∧ some k_ ≠ ((.slice Ao137 t366.length co137) : Value).ownBlock) (.slice Ao37 t299.length co37) t299) ∧ Aside0 (Kd.R k59 59 wc w.heap.size (fun k_ => some k_ ≠ ((.slice Ao51 t344.length co51) : Value).ownBlock ∧ some k_ ≠ ((.slice Ao64 t348.length co64) : Value).ownBlock ∧ some k_ ≠ ((.slice Ao139 t369.length co139) : Value).ownBlock) (.slice Ao39 t302.length co39) t302) ∧ Aside0 (Kd.R k170 170 wc w.heap.size (fun k_ => some k_ ≠ ((.slice Ao37 t299.length co37) : Value).ownBlock ∧ some k_ ≠ ((.slice Ao62 t347.length co62) : Value).ownBlock ∧ some k_ ≠ ((.slice Ao137 t366.length co137) : Value).ownBlock) (.slice Ao50 t343.length co50) t343) ∧ Aside0 (Kd.R k59 59 wc w.heap.size (fun k_ => some k_ ≠ ((.slice Ao39 t302.length co39) : Value).ownBlock ∧ some k_ ≠ ((.slice Ao64 t348.length co64) : Value).ownBlock ∧ some k_ ≠ ((.slice Ao139 t369.length co139) : Value).ownBlock) (.slice Ao51 t344.length co51) t344) ∧ Aside0 (Kd.R k170 170 wc w.heap.size (fun k_ => some k_ ≠ ((.slice Ao37 t299.length co37) : Value).ownBlock ∧ some k_ ≠ ((.slice Ao50 t343.length co50) : Value).ownBlock ∧ some k_ ≠ ((.slice Ao137 t366.length co137) : Value).ownBlock) (.slice Ao62 t347.length co62) t347) ∧ Aside0 (Kd.R k59 59 wc w.heap.size (fun k_ => some k_ ≠ ((.slice Ao39 t302.length co39) : Value).ownBlock ∧ some k_ ≠ ((.slice Ao51 t344.length co51) : Value).ownBlock ∧ some k_ ≠ ((.slice Ao139 t369.length co139) : Value).ownBlock) (.slice Ao64 t348.length co64) t348) ∧ Aside0 (Kd.R k170 170 wc w.heap.size (fun k_ => some k_ ≠ ((.slice Ao37 t299.length co37) : Value).ownBlock ∧ some k_ ≠ ((.slice Ao50 t343.length co50) : Value).ownBlock ∧ some k_ ≠ ((.slice Ao62 t347.length co62) : Value).ownBlock) (.slice Ao137 t366.length co137) t366) ∧ Aside0 (Kd.R k59 59 wc w.heap.size (fun k_ => some k_ ≠ ((.slice Ao39 t302.length co39) : Value).ownBlock ∧ some k_ ≠ ((.slice Ao51 t344.length co51) : Value).ownBlock ∧ some k_ ≠ ((.slice Ao64 t348.length co64) : Value).ownBlock) (.slice Ao139 t369.length co139) t369) ∧ Aside0 (wc.heap[gb279]? = some (.cells #[.int .i64 a0_0, .int .i64 a0_1, .int .i64 a0_2, .string a0_3, (.slice A0_4 l0_4.length c0_4), (.slice A0_5 l0_5.length c0_5)] 44 (0, 0))) ∧ Aside0 (wc.heap[gb280]? = some (.cells #[.int .i64 a1_0, .string a1_1] 56 (0, 0))) ∧ Aside0 (wc.heap[gb305]? = some (.cells #[.int .i64 t295, .int .i64 t296, .int .i64 t297, .string t298, (.slice Ao37 t299.length co37), (.slice Ao39 t302.length co39)] 49 (0, 0))) ∧ Aside0 (wc.heap[gb316]? = some (.cells #[.int .i64 t306, .int .i64 t307, .int .i64 t308, .string t309, (.slice Ao50 t343.length co50), (.slice Ao51 t344.length co51)] 49 (0, 0))) ∧ Aside0 (wc.heap[gb329]? = some (.cells #[.int .i64 t319, .int .i64 t320, .int .i64 t321, .string t322, (.slice Ao62 t347.length co62), (.slice Ao64 t348.length co64)] 49 (0, 0))) ∧ Aside0 (wc.heap[gb372]? = some (.cells #[.int .i64 t362, .int .i64 t363, .int .i64 t364, .string t365, (.slice Ao137 t366.length co137), (.slice Ao139 t369.length co139)] 49 (0, 0))) ∧ Aside0 (Below w.heap.size w wc))
                 case first =>
                  have H := HC124.out
                  clear HC124
                  by_cases c153 : t373 = true
                  ·subst c153
                   have H1 : (laws_FnExactWithEntry.j8 kj117 t346 t319 t320 t321 t322 t347 t348) = some r := by rw [if_pos rfl] at H; exact H
                   clear H
                   have H := H1
                   clear H1
                   have H' := Aside0.mk H
                   clear H
                   go_wp2
                   go_meet
                   case rel => exact ⟨_, H', ⟨(by have := HJ3.out; have := HJ11.out; have := HJ23.out; have := HJ76.out; have := HJ84.out; have := HJ103.out; have := HJ107.out; have := HJ117.out; first | omega | exact Nat.le_refl _)⟩, ⟨(by (try simp only [hl317004_84]); (try simp only [hl317005_84]); (try simp only [hl330004_107]); (try simp only [hl330005_107]); (with_reducible repeat (first | apply Kd.R_alloc | apply Kd.R_drewN | apply Kd.R_drew)); exact Kd.R_mono HO_306004.out (fun _ hk => ⟨hk.2.2.1, ⟨hk.2.2.2, hk.2.1⟩⟩))⟩, ⟨(by (try simp only [hl317004_84]); (try simp only [hl317005_84]); (try simp only [hl330004_107]); (try simp only [hl330005_107]); (with_reducible repeat (first | apply Kd.R_alloc | apply Kd.R_drewN | apply Kd.R_drew)); exact Kd.R_mono HO_306005.out (fun _ hk => ⟨hk.2.2.1, ⟨hk.2.2.2, hk.2.1⟩⟩))⟩, ⟨(by (try simp only [hl317004_84]); (try simp only [hl317005_84]); (try simp only [hl330004_107]); (try simp only [hl330005_107]); (with_reducible repeat (first | apply Kd.R_alloc | apply Kd.R_drewN | apply Kd.R_drew)); exact Kd.R_mono HO_317004.out (fun _ hk => ⟨hk.2.2.1, ⟨hk.2.2.2, hk.2.1⟩⟩))⟩, ⟨(by (try simp only [hl317004_84]); (try simp only [hl317005_84]); (try simp only [hl330004_107]); (try simp only [hl330005_107]); (with_reducible repeat (first | apply Kd.R_alloc | apply Kd.R_drewN | apply Kd.R_drew)); exact Kd.R_mono HO_317005.out (fun _ hk => ⟨hk.2.2.1, ⟨hk.2.2.2, hk.2.1⟩⟩))⟩, ⟨(by (try simp only [hl317004_84]); (try simp only [hl317005_84]); (try simp only [hl330004_107]); (try simp only [hl330005_107]); (with_reducible repeat (first | apply Kd.R_alloc | apply Kd.R_drewN | apply Kd.R_drew)); exact Kd.R_mono HO_330004.out (fun _ hk => ⟨hk.2.2.1, ⟨hk.2.2.2, hk.2.1⟩⟩))⟩, ⟨(by (try simp only [hl317004_84]); (try simp only [hl317005_84]); (try simp only [hl330004_107]); (try simp only [hl330005_107]); (with_reducible repeat (first | apply Kd.R_alloc | apply Kd.R_drewN | apply Kd.R_drew)); exact Kd.R_mono HO_330005.out (fun _ hk => ⟨hk.2.2.1, ⟨hk.2.2.2, hk.2.1⟩⟩))⟩, ⟨(by (try simp only [hl317004_84]); (try simp only [hl317005_84]); (try simp only [hl330004_107]); (try simp only [hl330005_107]); (with_reducible repeat (first | apply Kd.R_alloc | apply Kd.R_drewN | apply Kd.R_drew)); exact Kd.R_mono HO368.out (fun _ hk => ⟨hk.2.1, ⟨hk.2.2.1, hk.2.2.2⟩⟩))⟩, ⟨(by (try simp only [hl317004_84]); (try simp only [hl317005_84]); (try simp only [hl330004_107]); (try simp only [hl330005_107]); (with_reducible repeat (first | apply Kd.R_alloc | apply Kd.R_drewN | apply Kd.R_drew)); exact Kd.R_mono HO371.out (fun _ hk => ⟨hk.2.1, ⟨hk.2.2.1, hk.2.2.2⟩⟩))⟩, ⟨tq_156⟩, ⟨tq_155⟩, ⟨tq_154⟩, ⟨tq_153⟩, ⟨tq_152⟩, ⟨(by (try simp only [hl317004_84]); (try simp only [hl317005_84]); (try simp only [hl330004_107]); (try simp only [hl330005_107]); (with_reducible repeat (first | refine blk_drewN ?_ _ | refine blk_drew ?_ | refine blk_alloc ?_ _)); exact BK372.out)⟩, ⟨tq_5⟩⟩
                  ·replace c153 := Bool.eq_false_iff.mpr c153
                   subst c153
                   have H1 : (some false) = some r := by rw [if_neg (show ¬ (false = true) by decide)] at H; exact H
                   clear H
                   have H := H1
                   clear H1
                   obtain rfl := Option.some.inj H
                   go_wp2
                   go_ret
                   exact ⟨tq_7, tq_5⟩
                 case rest =>
                  clear HC124
                  try clear c1
                  try clear c2
                  try clear p2
                  try clear c3
                  try clear c14
                  try clear c15
                  try clear c28
                  try clear c30
                  try clear c35
                  try clear c36
                  try clear c141
                  try clear c142
                  try clear c143
                  try clear c144
                  try clear c145
                  try clear c147
                  try clear c148
                  try clear c149
                  try clear c150
                  try clear c153
                  try clear hcz146_0 hcz146_1 hcz146_2 hcz146_3 hcz146_4 hcz146_5
                  try clear hcz151_0 hcz151_1 hcz151_2 hcz151_3 hcz151_4 hcz151_5
                  try clear hfz146_0 hfz146_1 hfz146_2 hfz146_3 hfz146_4 hfz146_5
                  try clear hfz151_0 hfz151_1 hfz151_2 hfz151_3 hfz151_4 hfz151_5
                  obtain ⟨kq, HA, HJ123, HO_306004, HO_306005, HO_317004, HO_317005, HO_330004, HO_330005, HO_373004, HO_373005, BK279, BK280, BK305, BK316, BK329, BK372, HB⟩ := hcut
                  cases kq with
                  | zero => exact absurd HA.out (by simp [laws_FnExactWithEntry.j8])
                  | succ kj123 =>
                   have H := HA.out
                   clear HA
                   simp only [laws_FnExactWithEntry.j8] at H
                   replace H := Option.bind_eq_some_iff.mp H
                   obtain ⟨t374, A1540, H⟩ := H
                   replace H : (if t374 < 0 then (some false) else (if t374 = t346 then (some true) else (some false))) = some r := H
                   have A154 := Aside0.mk A1540
                   clear A1540
                   by_cases c155 : t374 < 0
                   ·rw [if_pos c155] at H
                    have c155b0 : decide (t374 < 0) = true := decide_eq_true c155
                    clear c155
                    obtain rfl := Option.some.inj H
                    have hnb156 := NB329_279.out
                    have hnc156 := NB279_329.out
                    have hnb157 := NB329_280.out
                    have hnc157 := NB280_329.out
                    have hnb158 := NB329_305.out
                    have hnc158 := NB305_329.out
                    have hnb159 := NB329_316.out
                    have hnc159 := NB316_329.out
                    have hnb160 := NB329_372.out
                    have hnc160 := NB372_329.out
                    have hcz161_0 := bc_ BK329.out 0
                    have hcz161_1 := bc_ BK329.out 1
                    have hcz161_2 := bc_ BK329.out 2
                    have hcz161_3 := bc_ BK329.out 3
                    have hcz161_4 := bc_ BK329.out 4
                    have hcz161_5 := bc_ BK329.out 5
                    have hfz161_0 := blk_frozen BK329.out 0
                    have hfz161_1 := blk_frozen BK329.out 1
                    have hfz161_2 := blk_frozen BK329.out 2
                    have hfz161_3 := blk_frozen BK329.out 3
                    have hfz161_4 := blk_frozen BK329.out 4
                    have hfz161_5 := blk_frozen BK329.out 5
                    go_wp2_with (first | ((with_reducible refine gate_callee (f := 32) rfl ?_); refine goesL_ (some 76) rfl rfl Try.func32 (by kernel_rfl) rfl #[.agg #[.int .i64 t319, .int .i64 t320, .int .i64 t321, .string t322, .slice Ao62 t347.length co62, .slice Ao64 t348.length co64], .int .i64 1] rfl tq_2 ?_; (with_reducible refine (laws_heldInode.calls kj123 t319 t320 t321 t322 _ _ t347 _ _ t348 1 t374 _ ?side1 ?side2 ?side3 ?side4 A154.out).mono ?_); (case side1 => exact tq_75); (case side2 => exact (Kd.R_reads' HO_330004.out).2.1); (case side3 => exact tq_74); (case side4 => exact (Kd.R_reads' HO_330005.out).2.1); rintro e w162 ⟨rfl, hb⟩; refine ⟨_, rfl, ?_⟩; have z_ := p_ (Kd.R_below tq_22 hb) <| p_ (Kd.R_below tq_21 hb) <| p_ (Kd.R_below tq_20 hb) <| p_ (Kd.R_below tq_19 hb) <| p_ (Kd.R_below tq_18 hb) <| p_ (Kd.R_below tq_17 hb) <| p_ (Kd.R_below tq_162 hb) <| p_ (Kd.R_below tq_161 hb) <| p_ (blk_below tq_3 hb) <| p_ (blk_below tq_4 hb) <| p_ (blk_below tq_6 hb) <| p_ (blk_below tq_8 hb) <| p_ (blk_below tq_12 hb) <| p_ (blk_below tq_38 hb) <| a_ (below_step tq_5 hb); clear HO_306004 HO_306005 HO_317004 HO_317005 HO_330004 HO_330005 HO_373004 HO_373005 BK279 BK280 BK305 BK316 BK329 BK372 HB; obtain ⟨HO_306004, HO_306005, HO_317004, HO_317005, HO_330004, HO_330005, HO_373004, HO_373005, BK279, BK280, BK305, BK316, BK329, BK372, HB⟩ := z_; (try clear hb); (try clear hb2); (try clear hk); (try clear hi)))
                    go_ret
                    exact ⟨tq_7, tq_5⟩
                   ·rw [if_neg c155] at H
                    have c155b0 : decide (t374 < 0) = false := decide_eq_false c155
                    clear c155
                    by_cases c163 : t374 = t346
                    ·rw [if_pos c163] at H
                     have c163b0 : (t374 == t346) = true := beq_iff_eq.mpr c163
                     have c163b1 : (t374 != t346) = false := bne_eq_false_iff_eq.mpr c163
                     clear c163
                     obtain rfl := Option.some.inj H
                     have hnb164 := NB329_279.out
                     have hnc164 := NB279_329.out
                     have hnb165 := NB329_280.out
                     have hnc165 := NB280_329.out
                     have hnb166 := NB329_305.out
                     have hnc166 := NB305_329.out
                     have hnb167 := NB329_316.out
                     have hnc167 := NB316_329.out
                     have hnb168 := NB329_372.out
                     have hnc168 := NB372_329.out
                     have hcz169_0 := bc_ BK329.out 0
                     have hcz169_1 := bc_ BK329.out 1
                     have hcz169_2 := bc_ BK329.out 2
                     have hcz169_3 := bc_ BK329.out 3
                     have hcz169_4 := bc_ BK329.out 4
                     have hcz169_5 := bc_ BK329.out 5
                     have hfz169_0 := blk_frozen BK329.out 0
                     have hfz169_1 := blk_frozen BK329.out 1
                     have hfz169_2 := blk_frozen BK329.out 2
                     have hfz169_3 := blk_frozen BK329.out 3
                     have hfz169_4 := blk_frozen BK329.out 4
                     have hfz169_5 := blk_frozen BK329.out 5
                     go_wp2_with (first | ((with_reducible refine gate_callee (f := 32) rfl ?_); refine goesL_ (some 76) rfl rfl Try.func32 (by kernel_rfl) rfl #[.agg #[.int .i64 t319, .int .i64 t320, .int .i64 t321, .string t322, .slice Ao62 t347.length co62, .slice Ao64 t348.length co64], .int .i64 1] rfl tq_2 ?_; (with_reducible refine (laws_heldInode.calls kj123 t319 t320 t321 t322 _ _ t347 _ _ t348 1 t374 _ ?side1 ?side2 ?side3 ?side4 A154.out).mono ?_); (case side1 => exact tq_75); (case side2 => exact (Kd.R_reads' HO_330004.out).2.1); (case side3 => exact tq_74); (case side4 => exact (Kd.R_reads' HO_330005.out).2.1); rintro e w170 ⟨rfl, hb⟩; refine ⟨_, rfl, ?_⟩; have z_ := p_ (Kd.R_below tq_22 hb) <| p_ (Kd.R_below tq_21 hb) <| p_ (Kd.R_below tq_20 hb) <| p_ (Kd.R_below tq_19 hb) <| p_ (Kd.R_below tq_18 hb) <| p_ (Kd.R_below tq_17 hb) <| p_ (Kd.R_below tq_162 hb) <| p_ (Kd.R_below tq_161 hb) <| p_ (blk_below tq_3 hb) <| p_ (blk_below tq_4 hb) <| p_ (blk_below tq_6 hb) <| p_ (blk_below tq_8 hb) <| p_ (blk_below tq_12 hb) <| p_ (blk_below tq_38 hb) <| a_ (below_step tq_5 hb); clear HO_306004 HO_306005 HO_317004 HO_317005 HO_330004 HO_330005 HO_373004 HO_373005 BK279 BK280 BK305 BK316 BK329 BK372 HB; obtain ⟨HO_306004, HO_306005, HO_317004, HO_317005, HO_330004, HO_330005, HO_373004, HO_373005, BK279, BK280, BK305, BK316, BK329, BK372, HB⟩ := z_; (try clear hb); (try clear hb2); (try clear hk); (try clear hi)))
                     go_ret
                     exact ⟨tq_7, tq_5⟩
                    ·rw [if_neg c163] at H
                     have c163b0 : (t374 == t346) = false := beq_eq_false_iff_ne.mpr c163
                     have c163b1 : (t374 != t346) = true := bne_iff_ne.mpr c163
                     obtain rfl := Option.some.inj H
                     have hnb171 := NB329_279.out
                     have hnc171 := NB279_329.out
                     have hnb172 := NB329_280.out
                     have hnc172 := NB280_329.out
                     have hnb173 := NB329_305.out
                     have hnc173 := NB305_329.out
                     have hnb174 := NB329_316.out
                     have hnc174 := NB316_329.out
                     have hnb175 := NB329_372.out
                     have hnc175 := NB372_329.out
                     have hcz176_0 := bc_ BK329.out 0
                     have hcz176_1 := bc_ BK329.out 1
                     have hcz176_2 := bc_ BK329.out 2
                     have hcz176_3 := bc_ BK329.out 3
                     have hcz176_4 := bc_ BK329.out 4
                     have hcz176_5 := bc_ BK329.out 5
                     have hfz176_0 := blk_frozen BK329.out 0
                     have hfz176_1 := blk_frozen BK329.out 1
                     have hfz176_2 := blk_frozen BK329.out 2
                     have hfz176_3 := blk_frozen BK329.out 3
                     have hfz176_4 := blk_frozen BK329.out 4
                     have hfz176_5 := blk_frozen BK329.out 5
                     go_wp2_with (first | ((with_reducible refine gate_callee (f := 32) rfl ?_); refine goesL_ (some 76) rfl rfl Try.func32 (by kernel_rfl) rfl #[.agg #[.int .i64 t319, .int .i64 t320, .int .i64 t321, .string t322, .slice Ao62 t347.length co62, .slice Ao64 t348.length co64], .int .i64 1] rfl tq_2 ?_; (with_reducible refine (laws_heldInode.calls kj123 t319 t320 t321 t322 _ _ t347 _ _ t348 1 t374 _ ?side1 ?side2 ?side3 ?side4 A154.out).mono ?_); (case side1 => exact tq_75); (case side2 => exact (Kd.R_reads' HO_330004.out).2.1); (case side3 => exact tq_74); (case side4 => exact (Kd.R_reads' HO_330005.out).2.1); rintro e w177 ⟨rfl, hb⟩; refine ⟨_, rfl, ?_⟩; have z_ := p_ (Kd.R_below tq_22 hb) <| p_ (Kd.R_below tq_21 hb) <| p_ (Kd.R_below tq_20 hb) <| p_ (Kd.R_below tq_19 hb) <| p_ (Kd.R_below tq_18 hb) <| p_ (Kd.R_below tq_17 hb) <| p_ (Kd.R_below tq_162 hb) <| p_ (Kd.R_below tq_161 hb) <| p_ (blk_below tq_3 hb) <| p_ (blk_below tq_4 hb) <| p_ (blk_below tq_6 hb) <| p_ (blk_below tq_8 hb) <| p_ (blk_below tq_12 hb) <| p_ (blk_below tq_38 hb) <| a_ (below_step tq_5 hb); clear HO_306004 HO_306005 HO_317004 HO_317005 HO_330004 HO_330005 HO_373004 HO_373005 BK279 BK280 BK305 BK316 BK329 BK372 HB; obtain ⟨HO_306004, HO_306005, HO_317004, HO_317005, HO_330004, HO_330005, HO_373004, HO_373005, BK279, BK280, BK305, BK316, BK329, BK372, HB⟩ := z_; (try clear hb); (try clear hb2); (try clear hk); (try clear hi)))
                     go_ret
                     exact ⟨tq_7, tq_5⟩

end Go.Proofs.Ytcdnfkoahajhhaa.PFnExactWithEntry
