/- Contracts of Go functions, written by a program of ours over the print of the kit: each says that the call returns what the Lean function beside it computes. Conditions: as each theorem states them. -/
import Derived.Test.YtcdnfkoahajhhaaPkFnEntries
import Derived.Test.YtcdnfkoahajhhaaPFnEntriesx0
import Derived.Test.YtcdnfkoahajhhaaPFnEntriesx3
import Derived.Test.YtcdnfkoahajhhaaPFnEntriesx4
import Derived.Test.YtcdnfkoahajhhaaPFnEntriesx5
import Derived.Test.YtcdnfkoahajhhaaPFnEntriesx6
import Derived.Test.YtcdnfkoahajhhaaPFnEntriesx9
import Derived.Test.YtcdnfkoahajhhaaPFnEntriesx10
import Derived.Test.YtcdnfkoahajhhaaPFnEntriesx11
import Derived.Test.YtcdnfkoahajhhaaPFnEntriesx12
namespace Go.Proofs.Ytcdnfkoahajhhaa.PFnEntries
open Go.RowKit Go.Proofs.YtcdnfkoahajhhaaW.PrintWords Go.Proofs.YtcdnfkoahajhhaaW.PrintLast Go.Proofs.YtcdnfkoahajhhaaW.PrintMore
attribute [local go_sem] max2_int min2_int max_two min_two max_three min_three max_four min_four   -- for this text's walks alone
set_option linter.unusedVariables false
set_option linter.unusedSimpArgs false

/-! ### laws_FnEntries: function 7 -/
mutual
def laws_FnEntries.j0 : Nat → List Int → Option (Bool)
 | 0, _ => none
 | k + 1, x0 => (spec_DrawWithEntry.f k x0).bind fun bt476 => ((impl_WithEntry.f bt476.1 bt476.2.1 bt476.2.2.1 bt476.2.2.2.1 bt476.2.2.2.2.1 bt476.2.2.2.2.2.1 bt476.2.2.2.2.2.2.1 bt476.2.2.2.2.2.2.2).bind fun bt490 => ((impl_WithoutEntry.f bt490.1 bt490.2.1 bt490.2.2.1 bt490.2.2.2.1 bt490.2.2.2.2.1 bt490.2.2.2.2.2 bt476.2.2.2.2.2.2.2).bind fun bt501 => ((spec_WithEntry.f k bt476.1 bt476.2.1 bt476.2.2.1 bt476.2.2.2.1 bt476.2.2.2.2.1 bt476.2.2.2.2.2.1 bt476.2.2.2.2.2.2.1 bt476.2.2.2.2.2.2.2).bind fun bt512 => ((laws_sameInode.f k bt490.1 bt490.2.1 bt490.2.2.1 bt490.2.2.2.1 bt490.2.2.2.2.1 bt490.2.2.2.2.2 bt512.1 bt512.2.1 bt512.2.2.1 bt512.2.2.2.1 bt512.2.2.2.2.1 bt512.2.2.2.2.2).bind fun t522 => (if t522 = true then ((spec_WithoutEntry.f k bt476.1 bt476.2.1 bt476.2.2.1 bt476.2.2.2.1 bt476.2.2.2.2.1 bt476.2.2.2.2.2.1 bt476.2.2.2.2.2.2.2).bind fun bt523 => ((laws_sameInode.f k bt501.1 bt501.2.1 bt501.2.2.1 bt501.2.2.2.1 bt501.2.2.2.2.1 bt501.2.2.2.2.2 bt523.1 bt523.2.1 bt523.2.2.1 bt523.2.2.2.1 bt523.2.2.2.2.1 bt523.2.2.2.2.2).bind fun t533 => (laws_FnEntries.j1 k (!t533) bt476.2.2.2.2.2.2.1 bt476.2.2.2.2.2.2.2 bt490.1 bt490.2.1 bt490.2.2.1 bt490.2.2.2.1 bt490.2.2.2.2.1 bt490.2.2.2.2.2 bt501.1 bt501.2.1 bt501.2.2.1 bt501.2.2.2.1 bt501.2.2.2.2.1 bt501.2.2.2.2.2))) else (laws_FnEntries.j1 k true bt476.2.2.2.2.2.2.1 bt476.2.2.2.2.2.2.2 bt490.1 bt490.2.1 bt490.2.2.1 bt490.2.2.2.1 bt490.2.2.2.2.1 bt490.2.2.2.2.2 bt501.1 bt501.2.1 bt501.2.2.1 bt501.2.2.2.1 bt501.2.2.2.2.1 bt501.2.2.2.2.2))))))
def laws_FnEntries.j1 : Nat → Bool → Int → ByteArray → Int → Int → Int → ByteArray → List (S170) → List (S59) → Int → Int → Int → ByteArray → List (S170) → List (S59) → Option (Bool)
 | 0, _, _, _, _, _, _, _, _, _, _, _, _, _, _, _ => none
 | k + 1, x38, x490000, x490001, x501000, x501001, x501002, x501003, x501004, x501005, x512000, x512001, x512002, x512003, x512004, x512005 => if x38 = true then (some false) else (laws_FnEntries.j2 k x490000 x490001 x501000 x501001 x501002 x501003 x501004 x501005 x512000 x512001 x512002 x512003 x512004 x512005)
def laws_FnEntries.j2 : Nat → Int → ByteArray → Int → Int → Int → ByteArray → List (S170) → List (S59) → Int → Int → Int → ByteArray → List (S170) → List (S59) → Option (Bool)
 | 0, _, _, _, _, _, _, _, _, _, _, _, _, _, _ => none
 | k + 1, x490000, x490001, x501000, x501001, x501002, x501003, x501004, x501005, x512000, x512001, x512002, x512003, x512004, x512005 => laws_FnEntries.l0 k 0 0 x490000 x490001 x501000 x501001 x501002 x501003 x501004 x501005 x512000 x512001 x512002 x512003 x512004 x512005
def laws_FnEntries.l0 : Nat → Int → Int → Int → ByteArray → Int → Int → Int → ByteArray → List (S170) → List (S59) → Int → Int → Int → ByteArray → List (S170) → List (S59) → Option (Bool)
 | 0, _, _, _, _, _, _, _, _, _, _, _, _, _, _, _, _ => none
 | k + 1, x7, x8, x490000, x490001, x501000, x501001, x501002, x501003, x501004, x501005, x512000, x512001, x512002, x512003, x512004, x512005 => if x8 < (x501005.length : Int) then (if 0 ≤ x8 then (if ((rd_T59 x501005 x8).f1).toList = x490001.toList then (laws_FnEntries.l0 k (wrap64 (x7 + 1)) (wrap64 (x8 + 1)) x490000 x490001 x501000 x501001 x501002 x501003 x501004 x501005 x512000 x512001 x512002 x512003 x512004 x512005) else (laws_FnEntries.l0 k x7 (wrap64 (x8 + 1)) x490000 x490001 x501000 x501001 x501002 x501003 x501004 x501005 x512000 x512001 x512002 x512003 x512004 x512005)) else (none)) else ((spec_PartNew.f 1 6 3 1).bind fun bt535 => (if x7 = 1 then (if (x512005.length : Int) = (wrap64 ((x501005.length : Int) - 1)) then ((impl_FreeInode.f k bt535.1 bt535.2.1 bt535.2.2).bind fun t543 => (some (t543 == 1))) else (some false)) else (some false)))
end
def laws_FnEntries.f (k : Nat) (l0 : List Int) : Option (Bool) := (laws_big.f l0).bind fun t475 => (if t475 = true then (some true) else (laws_FnEntries.j0 k l0))
theorem laws_FnEntries.mono_l : ∀ k, (∀ y0, LeO (laws_FnEntries.j0 k y0) (laws_FnEntries.j0 (k + 1) y0)) ∧ (∀ y0 y1 y2 y3 y4 y5 y6 y7 y8 y9 y10 y11 y12 y13 y14, LeO (laws_FnEntries.j1 k y0 y1 y2 y3 y4 y5 y6 y7 y8 y9 y10 y11 y12 y13 y14) (laws_FnEntries.j1 (k + 1) y0 y1 y2 y3 y4 y5 y6 y7 y8 y9 y10 y11 y12 y13 y14)) ∧ (∀ y0 y1 y2 y3 y4 y5 y6 y7 y8 y9 y10 y11 y12 y13, LeO (laws_FnEntries.j2 k y0 y1 y2 y3 y4 y5 y6 y7 y8 y9 y10 y11 y12 y13) (laws_FnEntries.j2 (k + 1) y0 y1 y2 y3 y4 y5 y6 y7 y8 y9 y10 y11 y12 y13)) ∧ (∀ y0 y1 y2 y3 y4 y5 y6 y7 y8 y9 y10 y11 y12 y13 y14 y15, LeO (laws_FnEntries.l0 k y0 y1 y2 y3 y4 y5 y6 y7 y8 y9 y10 y11 y12 y13 y14 y15) (laws_FnEntries.l0 (k + 1) y0 y1 y2 y3 y4 y5 y6 y7 y8 y9 y10 y11 y12 y13 y14 y15))
 | 0 => ⟨fun _ r h => by simp [laws_FnEntries.j0] at h, fun _ _ _ _ _ _ _ _ _ _ _ _ _ _ _ r h => by simp [laws_FnEntries.j1] at h, fun _ _ _ _ _ _ _ _ _ _ _ _ _ _ r h => by simp [laws_FnEntries.j2] at h, fun _ _ _ _ _ _ _ _ _ _ _ _ _ _ _ _ r h => by simp [laws_FnEntries.l0] at h⟩
 | k + 1 => by
  obtain ⟨ih0, ih1, ih2, ih3⟩ := laws_FnEntries.mono_l k
  refine ⟨?_, ?_, ?_, ?_⟩
  ·intro y0
   unfold laws_FnEntries.j0
   exact mo_3
  ·intro y0 y1 y2 y3 y4 y5 y6 y7 y8 y9 y10 y11 y12 y13 y14
   unfold laws_FnEntries.j1
   exact mo_3
  ·intro y0 y1 y2 y3 y4 y5 y6 y7 y8 y9 y10 y11 y12 y13
   unfold laws_FnEntries.j2
   exact mo_3
  ·intro y0 y1 y2 y3 y4 y5 y6 y7 y8 y9 y10 y11 y12 y13 y14 y15
   unfold laws_FnEntries.l0
   exact mo_3
theorem laws_FnEntries.mono : ∀ a0 k, LeO (laws_FnEntries.f k a0) (laws_FnEntries.f (k + 1) a0) := by
 intro a0 k
 obtain ⟨ih0, ih1, ih2, ih3⟩ := laws_FnEntries.mono_l k
 unfold laws_FnEntries.f
 repeat' first
   | (with_reducible exact ih0 _)
   | (with_reducible exact ih1 ..)
   | (with_reducible exact ih2 ..)
   | (with_reducible exact ih3 ..)
   | (with_reducible exact impl_FreeInode.mono ..)
   | (with_reducible exact laws_sameInode.mono ..)
   | (with_reducible exact spec_DrawWithEntry.mono ..)
   | (with_reducible exact spec_WithEntry.mono ..)
   | (with_reducible exact spec_WithoutEntry.mono ..)
   | (with_reducible exact LeO.refl _)
   | (with_reducible exact LeO.none _)
   | (with_reducible refine LeO.ite ?_ ?_)
   | (with_reducible refine LeO.bind ?_ (fun _ => ?_))
   | exact ih0 _
   | exact ih1 ..
   | exact ih2 ..
   | exact ih3 ..
   | exact impl_FreeInode.mono ..
   | exact laws_sameInode.mono ..
   | exact spec_DrawWithEntry.mono ..
   | exact spec_WithEntry.mono ..
   | exact spec_WithoutEntry.mono ..
   | exact LeO.none _
   | refine LeO.ite ?_ ?_
   | refine LeO.bind ?_ (fun _ => ?_)
def laws_FnEntries.T6 : Bool × List (List Nat × List Nat) := (true, [([], []), ([], []), ([], []), ([1, 2], [1, 2]), ([0, 3, 3], [0, 3]), ([4], [4]), ([5, 4], [5]), ([6], [6]), ([6], [6]), ([6], [6]), ([9, 6], [6, 9]), ([8, 10, 6, 6], [6, 8, 10]), ([7, 11, 11, 6], [6, 7, 11]), ([12, 6], [6, 12]), ([6, 13], [6, 13])])
def laws_FnEntries.B6 : List Nat := [0, 0, 0, 6, 15, 31, 63, 127, 127, 127, 639, 1919, 4095, 8191, 16383]
theorem laws_FnEntries.tab6 : rtab .any (opsOf Try.f7 6) = laws_FnEntries.T6 := by kernel_rfl
theorem laws_FnEntries.bits6 : waitsOk laws_FnEntries.T6.2 laws_FnEntries.B6 = true := by kernel_rfl
def laws_FnEntries.T12 : Bool × List (List Nat × List Nat) := (true, [([], []), ([0], [0]), ([], []), ([1, 2], [1, 2]), ([3], [3]), ([4], [4]), ([], []), ([6], [6]), ([5, 7], [5, 7])])
def laws_FnEntries.B12 : List Nat := [0, 1, 0, 7, 15, 31, 0, 64, 255]
theorem laws_FnEntries.tab12 : rtab .any (opsOf Try.f7 12) = laws_FnEntries.T12 := by kernel_rfl
theorem laws_FnEntries.bits12 : waitsOk laws_FnEntries.T12.2 laws_FnEntries.B12 = true := by kernel_rfl
set_option maxHeartbeats 8000000 in
set_option maxRecDepth 100000 in
theorem laws_FnEntries.calls (k : Nat) (A0 : Option Addr) (c0 : Nat) (l0 : List Int) (r : Bool) (w : World) (hr0 : Kd.C (Kd.int .u8) w A0 l0.length l0) (hc0 : l0.length ≤ c0) (h : laws_FnEntries.f k l0 = some r) :
  Calls Try.prog 7 #[.slice A0 l0.length c0] w fun e w' => e = .returned (.bool r) ∧ Below w.heap.size w w' := by
 have hu49 := Try.underlying49
 have hu59 := Try.underlying59
 have hu72 := Try.underlying72
 have hu69 := Try.underlying69
 have HR0 := Aside0.mk hr0
 have HC0 := Aside0.mk hc0
 clear hr0 hc0
 have HB := Aside0.mk (Below.refl w.heap.size w)
 have H : ((laws_big.f l0).bind fun t475 => (if t475 = true then (some true) else (laws_FnEntries.j0 k l0))) = some r := h
 clear h
 replace H := Option.bind_eq_some_iff.mp H
 obtain ⟨t475, A20, H⟩ := H
 replace H : (if t475 = true then (some true) else (laws_FnEntries.j0 k l0)) = some r := H
 have A2 := Aside0.mk A20
 clear A20
 have HC3 := Aside0.mk H
 clear H
 go_enter Try.func7, Try.ntmps7
 go_upto_if 11 with (first | ((with_reducible refine gate_callee (f := 37) rfl ?_); refine goesL_ (some 11) rfl rfl Try.func37 (by kernel_rfl) rfl #[.slice A0 l0.length c0] rfl tq_0 ?_; (with_reducible refine (laws_big.calls _ _ l0 t475 _ ?side1 ?side2 A2.out).mono ?_); (case side1 => repeat (first | exact HR0.out | (with_reducible refine Kd.C_alloc ?_ _) | (with_reducible refine Kd.C_drewN ?_ _) | (with_reducible refine Kd.C_drew ?_))); (case side2 => exact HC0.out); rintro e w' ⟨rfl, ⟨nd, rfl⟩⟩; refine ⟨_, rfl, ?_⟩))
 (try simp only [Act.put, List.setIfInBounds_toArray, List.set_cons_zero, List.set_cons_succ])
 go_cut [] (fun wc => ∃ (kq : Nat), Aside0 (laws_FnEntries.j0 kq l0 = some r) ∧ Aside0 (kq ≤ k) ∧ Aside0 (Below w.heap.size w wc))
 case first =>
  have H := HC3.out
  clear HC3
  by_cases c4 : t475 = true
  ·subst c4
   have H1 : (some true) = some r := by rw [if_pos rfl] at H; exact H
   clear H
   have H := H1
   clear H1
   obtain rfl := Option.some.inj H
   go_wp2
   go_ret
   exact ⟨tq_11, tq_3⟩
  replace c4 := Bool.eq_false_iff.mpr c4
  subst c4
  have H1 : (laws_FnEntries.j0 k l0) = some r := by rw [if_neg (show ¬ (false = true) by decide)] at H; exact H
  clear H
  have H := H1
  clear H1
  have H' := Aside0.mk H
  clear H
  go_wp2
  go_meet
  case rel => exact ⟨_, H', ⟨(by first | omega | exact Nat.le_refl _)⟩, ⟨tq_3⟩⟩
 case rest =>
  clear HC3
  try clear p2; try clear c3; try clear c4
  obtain ⟨kq, HA, HJ2, HB⟩ := hcut
  cases kq with
  | zero => exact absurd HA.out (by simp [laws_FnEntries.j0])
  | succ kj2 =>
   have H := HA.out
   clear HA
   simp only [laws_FnEntries.j0] at H
   replace H := Option.bind_eq_some_iff.mp H
   obtain ⟨⟨t476, t477, t478, t479, t480, t483, t486, t487⟩, A50, H⟩ := H
   replace H : ((impl_WithEntry.f t476 t477 t478 t479 t480 t483 t486 t487).bind fun bt490 => ((impl_WithoutEntry.f bt490.1 bt490.2.1 bt490.2.2.1 bt490.2.2.2.1 bt490.2.2.2.2.1 bt490.2.2.2.2.2 t487).bind fun bt501 => ((spec_WithEntry.f kj2 t476 t477 t478 t479 t480 t483 t486 t487).bind fun bt512 => ((laws_sameInode.f kj2 bt490.1 bt490.2.1 bt490.2.2.1 bt490.2.2.2.1 bt490.2.2.2.2.1 bt490.2.2.2.2.2 bt512.1 bt512.2.1 bt512.2.2.1 bt512.2.2.2.1 bt512.2.2.2.2.1 bt512.2.2.2.2.2).bind fun t522 => (if t522 = true then ((spec_WithoutEntry.f kj2 t476 t477 t478 t479 t480 t483 t487).bind fun bt523 => ((laws_sameInode.f kj2 bt501.1 bt501.2.1 bt501.2.2.1 bt501.2.2.2.1 bt501.2.2.2.2.1 bt501.2.2.2.2.2 bt523.1 bt523.2.1 bt523.2.2.1 bt523.2.2.2.1 bt523.2.2.2.2.1 bt523.2.2.2.2.2).bind fun t533 => (laws_FnEntries.j1 kj2 (!t533) t486 t487 bt490.1 bt490.2.1 bt490.2.2.1 bt490.2.2.2.1 bt490.2.2.2.2.1 bt490.2.2.2.2.2 bt501.1 bt501.2.1 bt501.2.2.1 bt501.2.2.2.1 bt501.2.2.2.2.1 bt501.2.2.2.2.2))) else (laws_FnEntries.j1 kj2 true t486 t487 bt490.1 bt490.2.1 bt490.2.2.1 bt490.2.2.2.1 bt490.2.2.2.2.1 bt490.2.2.2.2.2 bt501.1 bt501.2.1 bt501.2.2.1 bt501.2.2.2.1 bt501.2.2.2.2.1 bt501.2.2.2.2.2)))))) = some r := H
   have A5 := Aside0.mk A50
   clear A50
   replace H := Option.bind_eq_some_iff.mp H
   obtain ⟨⟨t490, t491, t492, t493, t494, t497⟩, A60, H⟩ := H
   replace H : ((impl_WithoutEntry.f t490 t491 t492 t493 t494 t497 t487).bind fun bt501 => ((spec_WithEntry.f kj2 t476 t477 t478 t479 t480 t483 t486 t487).bind fun bt512 => ((laws_sameInode.f kj2 t490 t491 t492 t493 t494 t497 bt512.1 bt512.2.1 bt512.2.2.1 bt512.2.2.2.1 bt512.2.2.2.2.1 bt512.2.2.2.2.2).bind fun t522 => (if t522 = true then ((spec_WithoutEntry.f kj2 t476 t477 t478 t479 t480 t483 t487).bind fun bt523 => ((laws_sameInode.f kj2 bt501.1 bt501.2.1 bt501.2.2.1 bt501.2.2.2.1 bt501.2.2.2.2.1 bt501.2.2.2.2.2 bt523.1 bt523.2.1 bt523.2.2.1 bt523.2.2.2.1 bt523.2.2.2.2.1 bt523.2.2.2.2.2).bind fun t533 => (laws_FnEntries.j1 kj2 (!t533) t486 t487 t490 t491 t492 t493 t494 t497 bt501.1 bt501.2.1 bt501.2.2.1 bt501.2.2.2.1 bt501.2.2.2.2.1 bt501.2.2.2.2.2))) else (laws_FnEntries.j1 kj2 true t486 t487 t490 t491 t492 t493 t494 t497 bt501.1 bt501.2.1 bt501.2.2.1 bt501.2.2.2.1 bt501.2.2.2.2.1 bt501.2.2.2.2.2))))) = some r := H
   have A6 := Aside0.mk A60
   clear A60
   replace H := Option.bind_eq_some_iff.mp H
   obtain ⟨⟨t501, t502, t503, t504, t505, t508⟩, A70, H⟩ := H
   replace H : ((spec_WithEntry.f kj2 t476 t477 t478 t479 t480 t483 t486 t487).bind fun bt512 => ((laws_sameInode.f kj2 t490 t491 t492 t493 t494 t497 bt512.1 bt512.2.1 bt512.2.2.1 bt512.2.2.2.1 bt512.2.2.2.2.1 bt512.2.2.2.2.2).bind fun t522 => (if t522 = true then ((spec_WithoutEntry.f kj2 t476 t477 t478 t479 t480 t483 t487).bind fun bt523 => ((laws_sameInode.f kj2 t501 t502 t503 t504 t505 t508 bt523.1 bt523.2.1 bt523.2.2.1 bt523.2.2.2.1 bt523.2.2.2.2.1 bt523.2.2.2.2.2).bind fun t533 => (laws_FnEntries.j1 kj2 (!t533) t486 t487 t490 t491 t492 t493 t494 t497 t501 t502 t503 t504 t505 t508))) else (laws_FnEntries.j1 kj2 true t486 t487 t490 t491 t492 t493 t494 t497 t501 t502 t503 t504 t505 t508)))) = some r := H
   have A7 := Aside0.mk A70
   clear A70
   have HC8 := Aside0.mk H
   clear H
   go_upto_region 6 with (first | ((with_reducible refine gate_callee (f := 38) rfl ?_); refine goesL_ (some 14) rfl rfl Try.func38 (by kernel_rfl) rfl #[.slice A0 l0.length c0] rfl tq_0 ?_; (with_reducible refine (spec_DrawWithEntry.calls kj2 _ _ l0 t476 t477 t478 t479 t480 t483 t486 t487 _ ?side1 ?side2 A5.out).mono ?_); (case side1 => repeat (first | exact (Kd.C_below HR0.out HB.out) | (with_reducible refine Kd.C_alloc ?_ _) | (with_reducible refine Kd.C_drewN ?_ _) | (with_reducible refine Kd.C_drew ?_))); (case side2 => exact HC0.out); rintro e w9 ⟨v481, v484, rfl, ho0, ho1, hb⟩; refine ⟨_, rfl, ?_⟩; have z_ := p_ (Kd.R_lower ho0 (below_size tq_3)) <| p_ (Kd.R_lower ho1 (below_size tq_3)) <| a_ (below_step tq_3 hb); clear HB; obtain ⟨HO482, HO485, HB⟩ := z_; (try clear hb); (try clear hb2); (try clear hk); (try clear hi); (try clear ho0); (try clear ho1)) | ((with_reducible refine gate_dst (N := 3) rfl ?_); (try (refine gate_guard (by rfl) ?_; dsimp only)); refine box_event ?hg (N := 3) ?hd (cs := #[.int .i64 0, .int .i64 0, .int .i64 0, .string (⟨#[]⟩ : ByteArray), .slice none 0 0, .slice none 0 0]) (t := 49) ?hr ?_; (case hd => rfl); (case hg => rfl); (case hr => first | (go_simp; done) | (go_simp; rfl)); intro gb488 hg w10 hbox hb; have z_ := p_ (Kd.R_below tq_83 hb) <| p_ (Kd.R_below tq_82 hb) <| p_ (below_step tq_3 hb) <| p_ (hbox) <| p_ (gb_ hg tq_3) <| a_ (gb_ hg tq_3); clear HO482 HO485 HB; obtain ⟨HO482, HO485, HB, BK488, GW488, GE488⟩ := z_; clear hb hbox hg) | ((with_reducible refine gate_dst (N := 4) rfl ?_); (try (refine gate_guard (by rfl) ?_; dsimp only)); refine box_event ?hg (N := 4) ?hd (cs := #[.int .i64 0, .string (⟨#[]⟩ : ByteArray)]) (t := 59) ?hr ?_; (case hd => rfl); (case hg => rfl); (case hr => first | (go_simp; done) | (go_simp; rfl)); intro gb489 hg w11 hbox hb; have z_ := p_ (Kd.R_below tq_83 hb) <| p_ (Kd.R_below (Kd.R_elderB tq_82 gb489 (Nat.le_of_eq hg.symm)) hb) <| p_ (blk_below tq_16 hb) <| p_ (below_step tq_178 hb) <| p_ (hbox) <| p_ (gb_ hg tq_178) <| p_ (gb_ hg tq_178) <| p_ (ltne_ hg (blk_lt tq_16)) <| a_ (gtne_ hg (blk_lt tq_16)); clear HO482 HO485 BK488 HB; obtain ⟨HO482, HO485, BK488, HB, BK489, GW489, GE489, NB488_489, NB489_488⟩ := z_; clear hb hbox hg; have hnb12 := NB488_489.out; have hnc12 := NB489_488.out; obtain ⟨hcz13_0, hcz13_1, hcz13_2, hcz13_3, hcz13_4, hcz13_5⟩ := bk6_ BK488.out; obtain ⟨hfz13_0, hfz13_1, hfz13_2, hfz13_3, hfz13_4, hfz13_5⟩ := bf6_ BK488.out; obtain ⟨Ao14, co14, eo14⟩ := Kd.R_slice HO482.out; subst eo14; obtain ⟨Ao15, co15, eo15⟩ := Kd.R_slice HO485.out; subst eo15; obtain ⟨hcz16_0, hcz16_1⟩ := bk2_ BK489.out; obtain ⟨hfz16_0, hfz16_1⟩ := bf2_ BK489.out) | ((with_reducible refine gate_callee (f := 36) rfl ?_); refine goesL_ (some 19) rfl rfl Try.func36 (by kernel_rfl) rfl #[.agg #[.int .i64 t476, .int .i64 t477, .int .i64 t478, .string t479, .slice Ao14 t480.length co14, .slice Ao15 t483.length co15], .agg #[.int .i64 t486, .string t487]] rfl tq_0 ?_; (with_reducible refine (impl_WithEntry.calls t476 t477 t478 t479 _ _ t480 _ _ t483 t486 t487 t490 t491 t492 t493 t494 t497 _ ?side1 ?side2 ?side3 ?side4 A6.out).mono ?_); (case side1 => refine (Kd.R_reads' (e := 170) (base := w.heap.size) (ok := fun k_ => True) (n := t480.length) (c := co14) ?_).2.2; exact tq_53); (case side2 => exact (Kd.R_reads' HO482.out).2.1); (case side3 => refine (Kd.R_reads' (e := 59) (base := w.heap.size) (ok := fun k_ => (True ∧ k_ ≠ gb489)) (n := t483.length) (c := co15) ?_).2.2; exact tq_52); (case side4 => exact (Kd.R_reads' HO485.out).2.1); rintro e w17 ⟨v495, v498, rfl, ho0, ho1, hb⟩; refine ⟨_, rfl, ?_⟩; have z_ := p_ (Kd.R_elder' tq_53 (Kd.R_base ho0) hb) <| p_ (Kd.R_elder' tq_52 (Kd.R_base ho1) hb) <| p_ (Kd.R_lower (Kd.R_new' ho0 (Kd.R_lt tq_53)) (below_size tq_103)) <| p_ (Kd.R_lower (Kd.R_newB (Kd.R_new' ho1 (Kd.R_lt tq_52)) (g := gb489) (o := .cells #[.int .i64 t486, .string t487] 59 (0, 0)) tq_67) (below_size tq_103)) <| p_ (blk_below (g := gb488) (o := .cells #[.int .i64 t476, .int .i64 t477, .int .i64 t478, .string t479, .slice Ao14 t480.length co14, .slice Ao15 t483.length co15] 49 (0, 0)) (by (with_reducible repeat (first | refine blk_drewN ?_ _ | refine blk_drew ?_ | refine blk_alloc ?_ _)); refine blk_far ?_ NB488_489.out _; (with_reducible repeat (first | refine blk_drewN ?_ _ | refine blk_drew ?_ | refine blk_alloc ?_ _)); refine blk_far ?_ NB488_489.out _; (with_reducible repeat (first | refine blk_drewN ?_ _ | refine blk_drew ?_ | refine blk_alloc ?_ _)); refine blk_put (cs := #[.int .i64 t476, .int .i64 t477, .int .i64 t478, .string t479, .slice Ao14 t480.length co14, .slice none 0 0]) ?_ 5 _ rfl; (with_reducible repeat (first | refine blk_drewN ?_ _ | refine blk_drew ?_ | refine blk_alloc ?_ _)); refine blk_put (cs := #[.int .i64 t476, .int .i64 t477, .int .i64 t478, .string t479, .slice none 0 0, .slice none 0 0]) ?_ 4 _ rfl; (with_reducible repeat (first | refine blk_drewN ?_ _ | refine blk_drew ?_ | refine blk_alloc ?_ _)); refine blk_put (cs := #[.int .i64 t476, .int .i64 t477, .int .i64 t478, .string (⟨#[]⟩ : ByteArray), .slice none 0 0, .slice none 0 0]) ?_ 3 _ rfl; (with_reducible repeat (first | refine blk_drewN ?_ _ | refine blk_drew ?_ | refine blk_alloc ?_ _)); refine blk_put (cs := #[.int .i64 t476, .int .i64 t477, .int .i64 0, .string (⟨#[]⟩ : ByteArray), .slice none 0 0, .slice none 0 0]) ?_ 2 _ rfl; (with_reducible repeat (first | refine blk_drewN ?_ _ | refine blk_drew ?_ | refine blk_alloc ?_ _)); refine blk_put (cs := #[.int .i64 t476, .int .i64 0, .int .i64 0, .string (⟨#[]⟩ : ByteArray), .slice none 0 0, .slice none 0 0]) ?_ 1 _ rfl; (with_reducible repeat (first | refine blk_drewN ?_ _ | refine blk_drew ?_ | refine blk_alloc ?_ _)); refine blk_put (cs := #[.int .i64 0, .int .i64 0, .int .i64 0, .string (⟨#[]⟩ : ByteArray), .slice none 0 0, .slice none 0 0]) ?_ 0 _ rfl; (with_reducible repeat (first | refine blk_drewN ?_ _ | refine blk_drew ?_ | refine blk_alloc ?_ _)); exact BK488.out) hb) <| p_ (blk_below (g := gb489) (o := .cells #[.int .i64 t486, .string t487] 59 (0, 0)) tq_67 hb) <| a_ (below_step tq_103 hb); clear HO482 HO485 BK488 BK489 HB; obtain ⟨HO482, HO485, HO496, HO499, BK488, BK489, HB⟩ := z_; (try clear hb); (try clear hb2); (try clear hk); (try clear hi); (try clear ho0); (try clear ho1)) | ((with_reducible refine gate_dst (N := 5) rfl ?_); (try (refine gate_guard (by rfl) ?_; dsimp only)); refine box_event ?hg (N := 5) ?hd (cs := #[.int .i64 0, .int .i64 0, .int .i64 0, .string (⟨#[]⟩ : ByteArray), .slice none 0 0, .slice none 0 0]) (t := 49) ?hr ?_; (case hd => rfl); (case hg => rfl); (case hr => first | (go_simp; done) | (go_simp; rfl)); intro gb500 hg w18 hbox hb; have z_ := p_ (Kd.R_below tq_83 hb) <| p_ (Kd.R_below tq_82 hb) <| p_ (Kd.R_below tq_96 hb) <| p_ (Kd.R_below tq_95 hb) <| p_ (blk_below tq_16 hb) <| p_ (blk_below tq_15 hb) <| p_ (below_step tq_103 hb) <| p_ (hbox) <| p_ (gb_ hg tq_103) <| p_ (gb_ hg tq_103) <| p_ (ltne_ hg (blk_lt tq_16)) <| p_ (gtne_ hg (blk_lt tq_16)) <| p_ (ltne_ hg (blk_lt tq_15)) <| a_ (gtne_ hg (blk_lt tq_15)); clear HO482 HO485 HO496 HO499 BK488 BK489 HB; obtain ⟨HO482, HO485, HO496, HO499, BK488, BK489, HB, BK500, GW500, GE500, NB488_500, NB500_488, NB489_500, NB500_489⟩ := z_; clear hb hbox hg; have hnb19 := NB500_488.out; have hnc19 := NB488_500.out; have hnb20 := NB500_489.out; have hnc20 := NB489_500.out; obtain ⟨hcz21_0, hcz21_1, hcz21_2, hcz21_3, hcz21_4, hcz21_5⟩ := bk6_ BK500.out; obtain ⟨hfz21_0, hfz21_1, hfz21_2, hfz21_3, hfz21_4, hfz21_5⟩ := bf6_ BK500.out; obtain ⟨Ao22, co22, eo22⟩ := Kd.R_slice HO496.out; subst eo22; obtain ⟨Ao23, co23, eo23⟩ := Kd.R_slice HO499.out; subst eo23; obtain ⟨hcz24_0, hcz24_1⟩ := bk2_ BK489.out; obtain ⟨hfz24_0, hfz24_1⟩ := bf2_ BK489.out) | ((with_reducible refine gate_callee (f := 29) rfl ?_); refine goesL_ (some 23) rfl rfl Try.func29 (by kernel_rfl) rfl #[.agg #[.int .i64 t490, .int .i64 t491, .int .i64 t492, .string t493, .slice Ao22 t494.length co22, .slice Ao23 t497.length co23], .string t487] rfl tq_0 ?_; (with_reducible refine (impl_WithoutEntry.calls t490 t491 t492 t493 _ _ t494 _ _ t497 t487 t501 t502 t503 t504 t505 t508 _ ?side1 ?side2 ?side3 ?side4 A7.out).mono ?_); (case side1 => refine (Kd.R_reads' (e := 170) (base := w.heap.size) (ok := fun k_ => (True ∧ some k_ ≠ (.slice Ao14 t480.length co14 : Value).ownBlock)) (n := t494.length) (c := co22) ?_).2.2; exact tq_79); (case side2 => exact (Kd.R_reads' HO496.out).2.1); (case side3 => refine (Kd.R_reads' (e := 59) (base := w.heap.size) (ok := fun k_ => ((True ∧ some k_ ≠ (.slice Ao15 t483.length co15 : Value).ownBlock) ∧ k_ ≠ gb489)) (n := t497.length) (c := co23) ?_).2.2; exact tq_78); (case side4 => exact (Kd.R_reads' HO499.out).2.1); rintro e w25 ⟨v506, v509, rfl, ho0, ho1, hb⟩; refine ⟨_, rfl, ?_⟩; have z_ := p_ (Kd.R_elder' tq_144 (Kd.R_base ho0) hb) <| p_ (Kd.R_elder' tq_143 (Kd.R_base ho1) hb) <| p_ (Kd.R_elder' tq_79 (Kd.R_base ho0) hb) <| p_ (Kd.R_elder' tq_78 (Kd.R_base ho1) hb) <| p_ (Kd.R_lower (Kd.R_new' (Kd.R_new' ho0 (Kd.R_lt tq_144)) (Kd.R_lt tq_79)) (below_size tq_90)) <| p_ (Kd.R_lower (Kd.R_newB (Kd.R_new' (Kd.R_new' ho1 (Kd.R_lt tq_143)) (Kd.R_lt tq_78)) (g := gb489) (o := .cells #[.int .i64 t486, .string t487] 59 (0, 0)) tq_109) (below_size tq_90)) <| p_ (blk_below (g := gb488) (o := .cells #[.int .i64 t476, .int .i64 t477, .int .i64 t478, .string t479, .slice Ao14 t480.length co14, .slice Ao15 t483.length co15] 49 (0, 0)) (by (with_reducible repeat (first | refine blk_drewN ?_ _ | refine blk_drew ?_ | refine blk_alloc ?_ _)); refine blk_far ?_ NB488_500.out _; (with_reducible repeat (first | refine blk_drewN ?_ _ | refine blk_drew ?_ | refine blk_alloc ?_ _)); refine blk_far ?_ NB488_500.out _; (with_reducible repeat (first | refine blk_drewN ?_ _ | refine blk_drew ?_ | refine blk_alloc ?_ _)); refine blk_far ?_ NB488_500.out _; (with_reducible repeat (first | refine blk_drewN ?_ _ | refine blk_drew ?_ | refine blk_alloc ?_ _)); refine blk_far ?_ NB488_500.out _; (with_reducible repeat (first | refine blk_drewN ?_ _ | refine blk_drew ?_ | refine blk_alloc ?_ _)); refine blk_far ?_ NB488_500.out _; (with_reducible repeat (first | refine blk_drewN ?_ _ | refine blk_drew ?_ | refine blk_alloc ?_ _)); refine blk_far ?_ NB488_500.out _; (with_reducible repeat (first | refine blk_drewN ?_ _ | refine blk_drew ?_ | refine blk_alloc ?_ _)); exact BK488.out) hb) <| p_ (blk_below (g := gb489) (o := .cells #[.int .i64 t486, .string t487] 59 (0, 0)) tq_109 hb) <| p_ (blk_below (g := gb500) (o := .cells #[.int .i64 t490, .int .i64 t491, .int .i64 t492, .string t493, .slice Ao22 t494.length co22, .slice Ao23 t497.length co23] 49 (0, 0)) (by (with_reducible repeat (first | refine blk_drewN ?_ _ | refine blk_drew ?_ | refine blk_alloc ?_ _)); refine blk_put (cs := #[.int .i64 t490, .int .i64 t491, .int .i64 t492, .string t493, .slice Ao22 t494.length co22, .slice none 0 0]) ?_ 5 _ rfl; (with_reducible repeat (first | refine blk_drewN ?_ _ | refine blk_drew ?_ | refine blk_alloc ?_ _)); refine blk_put (cs := #[.int .i64 t490, .int .i64 t491, .int .i64 t492, .string t493, .slice none 0 0, .slice none 0 0]) ?_ 4 _ rfl; (with_reducible repeat (first | refine blk_drewN ?_ _ | refine blk_drew ?_ | refine blk_alloc ?_ _)); refine blk_put (cs := #[.int .i64 t490, .int .i64 t491, .int .i64 t492, .string (⟨#[]⟩ : ByteArray), .slice none 0 0, .slice none 0 0]) ?_ 3 _ rfl; (with_reducible repeat (first | refine blk_drewN ?_ _ | refine blk_drew ?_ | refine blk_alloc ?_ _)); refine blk_put (cs := #[.int .i64 t490, .int .i64 t491, .int .i64 0, .string (⟨#[]⟩ : ByteArray), .slice none 0 0, .slice none 0 0]) ?_ 2 _ rfl; (with_reducible repeat (first | refine blk_drewN ?_ _ | refine blk_drew ?_ | refine blk_alloc ?_ _)); refine blk_put (cs := #[.int .i64 t490, .int .i64 0, .int .i64 0, .string (⟨#[]⟩ : ByteArray), .slice none 0 0, .slice none 0 0]) ?_ 1 _ rfl; (with_reducible repeat (first | refine blk_drewN ?_ _ | refine blk_drew ?_ | refine blk_alloc ?_ _)); refine blk_put (cs := #[.int .i64 0, .int .i64 0, .int .i64 0, .string (⟨#[]⟩ : ByteArray), .slice none 0 0, .slice none 0 0]) ?_ 0 _ rfl; (with_reducible repeat (first | refine blk_drewN ?_ _ | refine blk_drew ?_ | refine blk_alloc ?_ _)); exact BK500.out) hb) <| a_ (below_step tq_90 hb); clear HO482 HO485 HO496 HO499 BK488 BK489 BK500 HB; obtain ⟨HO482, HO485, HO496, HO499, HO507, HO510, BK488, BK489, BK500, HB⟩ := z_; (try clear hb); (try clear hb2); (try clear hk); (try clear hi); (try clear ho0); (try clear ho1)) | ((with_reducible refine gate_dst (N := 6) rfl ?_); (try (refine gate_guard (by rfl) ?_; dsimp only)); refine box_event ?hg (N := 6) ?hd (cs := #[.int .i64 0, .int .i64 0, .int .i64 0, .string (⟨#[]⟩ : ByteArray), .slice none 0 0, .slice none 0 0]) (t := 49) ?hr ?_; (case hd => rfl); (case hg => rfl); (case hr => first | (go_simp; done) | (go_simp; rfl)); intro gb511 hg w26 hbox hb; have z_ := p_ (Kd.R_below tq_83 hb) <| p_ (Kd.R_below tq_82 hb) <| p_ (Kd.R_below tq_96 hb) <| p_ (Kd.R_below tq_95 hb) <| p_ (Kd.R_below tq_119 hb) <| p_ (Kd.R_below tq_118 hb) <| p_ (blk_below tq_16 hb) <| p_ (blk_below tq_15 hb) <| p_ (blk_below tq_21 hb) <| p_ (below_step tq_90 hb) <| p_ (hbox) <| p_ (gb_ hg tq_90) <| p_ (gb_ hg tq_90) <| p_ (ltne_ hg (blk_lt tq_16)) <| p_ (gtne_ hg (blk_lt tq_16)) <| p_ (ltne_ hg (blk_lt tq_15)) <| p_ (gtne_ hg (blk_lt tq_15)) <| p_ (ltne_ hg (blk_lt tq_21)) <| a_ (gtne_ hg (blk_lt tq_21)); clear HO482 HO485 HO496 HO499 HO507 HO510 BK488 BK489 BK500 HB; obtain ⟨HO482, HO485, HO496, HO499, HO507, HO510, BK488, BK489, BK500, HB, BK511, GW511, GE511, NB488_511, NB511_488, NB489_511, NB511_489, NB500_511, NB511_500⟩ := z_; clear hb hbox hg; have hnb27 := NB511_488.out; have hnc27 := NB488_511.out; have hnb28 := NB511_489.out; have hnc28 := NB489_511.out; have hnb29 := NB511_500.out; have hnc29 := NB500_511.out; obtain ⟨hcz30_0, hcz30_1, hcz30_2, hcz30_3, hcz30_4, hcz30_5⟩ := bk6_ BK511.out; obtain ⟨hfz30_0, hfz30_1, hfz30_2, hfz30_3, hfz30_4, hfz30_5⟩ := bf6_ BK511.out; obtain ⟨Ao31, co31, eo31⟩ := Kd.R_slice HO507.out; subst eo31; obtain ⟨Ao32, co32, eo32⟩ := Kd.R_slice HO510.out; subst eo32))
   (try simp only [Act.put, List.setIfInBounds_toArray, List.set_cons_zero, List.set_cons_succ])
   go_cut [38] (fun v38 wc => ∃ (kq : Nat) (x38_7 : Bool), v38 = .bool x38_7 ∧ Aside0 (laws_FnEntries.j1 kq x38_7 t486 t487 t490 t491 t492 t493 t494 t497 t501 t502 t503 t504 t505 t508 = some r) ∧ Aside0 (kq ≤ kj2) ∧ Aside0 (Kd.R k170 170 wc w.heap.size (fun k_ => some k_ ≠ ((.slice Ao22 t494.length co22) : Value).ownBlock ∧ some k_ ≠ ((.slice Ao31 t505.length co31) : Value).ownBlock) (.slice Ao14 t480.length co14) t480) ∧ Aside0 (Kd.R k59 59 wc w.heap.size (fun k_ => some k_ ≠ ((.slice Ao23 t497.length co23) : Value).ownBlock ∧ some k_ ≠ ((.slice Ao32 t508.length co32) : Value).ownBlock ∧ k_ ≠ gb489) (.slice Ao15 t483.length co15) t483) ∧ Aside0 (Kd.R k170 170 wc w.heap.size (fun k_ => some k_ ≠ ((.slice Ao14 t480.length co14) : Value).ownBlock ∧ some k_ ≠ ((.slice Ao31 t505.length co31) : Value).ownBlock) (.slice Ao22 t494.length co22) t494) ∧ Aside0 (Kd.R k59 59 wc w.heap.size (fun k_ => some k_ ≠ ((.slice Ao15 t483.length co15) : Value).ownBlock ∧ some k_ ≠ ((.slice Ao32 t508.length co32) : Value).ownBlock ∧ k_ ≠ gb489) (.slice Ao23 t497.length co23) t497) ∧ Aside0 (Kd.R k170 170 wc w.heap.size (fun k_ => some k_ ≠ ((.slice Ao14 t480.length co14) : Value).ownBlock ∧ some k_ ≠ ((.slice Ao22 t494.length co22) : Value).ownBlock) (.slice Ao31 t505.length co31) t505) ∧ Aside0 (Kd.R k59 59 wc w.heap.size (fun k_ => some k_ ≠ ((.slice Ao15 t483.length co15) : Value).ownBlock ∧ some k_ ≠ ((.slice Ao23 t497.length co23) : Value).ownBlock ∧ k_ ≠ gb489) (.slice Ao32 t508.length co32) t508) ∧ Aside0 (wc.heap[gb488]? = some (.cells #[.int .i64 t476, .int .i64 t477, .int .i64 t478, .string t479, (.slice Ao14 t480.length co14), (.slice Ao15 t483.length co15)] 49 (0, 0))) ∧ Aside0 (wc.heap[gb489]? = some (.cells #[.int .i64 t486, .string t487] 59 (0, 0))) ∧ Aside0 (wc.heap[gb500]? = some (.cells #[.int .i64 t490, .int .i64 t491, .int .i64 t492, .string t493, (.slice Ao22 t494.length co22), (.slice Ao23 t497.length co23)] 49 (0, 0))) ∧ Aside0 (wc.heap[gb511]? = some (.cells #[.int .i64 t501, .int .i64 t502, .int .i64 t503, .string t504, (.slice Ao31 t505.length co31), (.slice Ao32 t508.length co32)] 49 (0, 0))) ∧ Aside0 (Below w.heap.size w wc))
   case first =>
    have H := HC8.out
    clear HC8
    replace H := Option.bind_eq_some_iff.mp H
    obtain ⟨⟨t512, t513, t514, t515, t516, t519⟩, A330, H⟩ := H
    replace H : ((laws_sameInode.f kj2 t490 t491 t492 t493 t494 t497 t512 t513 t514 t515 t516 t519).bind fun t522 => (if t522 = true then ((spec_WithoutEntry.f kj2 t476 t477 t478 t479 t480 t483 t487).bind fun bt523 => ((laws_sameInode.f kj2 t501 t502 t503 t504 t505 t508 bt523.1 bt523.2.1 bt523.2.2.1 bt523.2.2.2.1 bt523.2.2.2.2.1 bt523.2.2.2.2.2).bind fun t533 => (laws_FnEntries.j1 kj2 (!t533) t486 t487 t490 t491 t492 t493 t494 t497 t501 t502 t503 t504 t505 t508))) else (laws_FnEntries.j1 kj2 true t486 t487 t490 t491 t492 t493 t494 t497 t501 t502 t503 t504 t505 t508))) = some r := H
    have A33 := Aside0.mk A330
    clear A330
    replace H := Option.bind_eq_some_iff.mp H
    obtain ⟨t522, A340, H⟩ := H
    replace H : (if t522 = true then ((spec_WithoutEntry.f kj2 t476 t477 t478 t479 t480 t483 t487).bind fun bt523 => ((laws_sameInode.f kj2 t501 t502 t503 t504 t505 t508 bt523.1 bt523.2.1 bt523.2.2.1 bt523.2.2.2.1 bt523.2.2.2.2.1 bt523.2.2.2.2.2).bind fun t533 => (laws_FnEntries.j1 kj2 (!t533) t486 t487 t490 t491 t492 t493 t494 t497 t501 t502 t503 t504 t505 t508))) else (laws_FnEntries.j1 kj2 true t486 t487 t490 t491 t492 t493 t494 t497 t501 t502 t503 t504 t505 t508)) = some r := H
    have A34 := Aside0.mk A340
    clear A340
    by_cases c35 : t522 = true
    rotate_left
    ·replace c35 := Bool.eq_false_iff.mpr c35
     subst c35
     have H1 : (laws_FnEntries.j1 kj2 true t486 t487 t490 t491 t492 t493 t494 t497 t501 t502 t503 t504 t505 t508) = some r := by rw [if_neg (show ¬ (false = true) by decide)] at H; exact H
     clear H
     have H := H1
     clear H1
     have H' := Aside0.mk H
     clear H
     try go_wp2
     have n0_ : Aside0 (Kd.R k170 170 ((((((w26.setCell ⟨gb511, 0, none⟩ (.int .i64 t501)).setCell ⟨gb511, 1, none⟩ (.int .i64 t502)).setCell ⟨gb511, 2, none⟩ (.int .i64 t503)).setCell ⟨gb511, 3, none⟩ (.string t504)).setCell ⟨gb511, 4, none⟩ (.slice Ao31 t505.length co31)).setCell ⟨gb511, 5, none⟩ (.slice Ao32 t508.length co32)) w.heap.size (fun k_ => some k_ ≠ (.slice Ao22 t494.length co22 : Value).ownBlock ∧ some k_ ≠ (.slice Ao31 t505.length co31 : Value).ownBlock) (.slice Ao14 t480.length co14) t480) := ⟨tq_141⟩
     have n1_ : Aside0 (Kd.R k59 59 ((((((w26.setCell ⟨gb511, 0, none⟩ (.int .i64 t501)).setCell ⟨gb511, 1, none⟩ (.int .i64 t502)).setCell ⟨gb511, 2, none⟩ (.int .i64 t503)).setCell ⟨gb511, 3, none⟩ (.string t504)).setCell ⟨gb511, 4, none⟩ (.slice Ao31 t505.length co31)).setCell ⟨gb511, 5, none⟩ (.slice Ao32 t508.length co32)) w.heap.size (fun k_ => some k_ ≠ (.slice Ao23 t497.length co23 : Value).ownBlock ∧ some k_ ≠ (.slice Ao32 t508.length co32 : Value).ownBlock ∧ k_ ≠ gb489) (.slice Ao15 t483.length co15) t483) := ⟨tq_137⟩
     have n2_ : Aside0 (Kd.R k170 170 ((((((w26.setCell ⟨gb511, 0, none⟩ (.int .i64 t501)).setCell ⟨gb511, 1, none⟩ (.int .i64 t502)).setCell ⟨gb511, 2, none⟩ (.int .i64 t503)).setCell ⟨gb511, 3, none⟩ (.string t504)).setCell ⟨gb511, 4, none⟩ (.slice Ao31 t505.length co31)).setCell ⟨gb511, 5, none⟩ (.slice Ao32 t508.length co32)) w.heap.size (fun k_ => some k_ ≠ (.slice Ao14 t480.length co14 : Value).ownBlock ∧ some k_ ≠ (.slice Ao31 t505.length co31 : Value).ownBlock) (.slice Ao22 t494.length co22) t494) := ⟨tq_140⟩
     have n3_ : Aside0 (Kd.R k59 59 ((((((w26.setCell ⟨gb511, 0, none⟩ (.int .i64 t501)).setCell ⟨gb511, 1, none⟩ (.int .i64 t502)).setCell ⟨gb511, 2, none⟩ (.int .i64 t503)).setCell ⟨gb511, 3, none⟩ (.string t504)).setCell ⟨gb511, 4, none⟩ (.slice Ao31 t505.length co31)).setCell ⟨gb511, 5, none⟩ (.slice Ao32 t508.length co32)) w.heap.size (fun k_ => some k_ ≠ (.slice Ao15 t483.length co15 : Value).ownBlock ∧ some k_ ≠ (.slice Ao32 t508.length co32 : Value).ownBlock ∧ k_ ≠ gb489) (.slice Ao23 t497.length co23) t497) := ⟨tq_136⟩
     have n4_ : Aside0 (Kd.R k170 170 ((((((w26.setCell ⟨gb511, 0, none⟩ (.int .i64 t501)).setCell ⟨gb511, 1, none⟩ (.int .i64 t502)).setCell ⟨gb511, 2, none⟩ (.int .i64 t503)).setCell ⟨gb511, 3, none⟩ (.string t504)).setCell ⟨gb511, 4, none⟩ (.slice Ao31 t505.length co31)).setCell ⟨gb511, 5, none⟩ (.slice Ao32 t508.length co32)) w.heap.size (fun k_ => some k_ ≠ (.slice Ao14 t480.length co14 : Value).ownBlock ∧ some k_ ≠ (.slice Ao22 t494.length co22 : Value).ownBlock) (.slice Ao31 t505.length co31) t505) := ⟨tq_139⟩
     have n5_ : Aside0 (Kd.R k59 59 ((((((w26.setCell ⟨gb511, 0, none⟩ (.int .i64 t501)).setCell ⟨gb511, 1, none⟩ (.int .i64 t502)).setCell ⟨gb511, 2, none⟩ (.int .i64 t503)).setCell ⟨gb511, 3, none⟩ (.string t504)).setCell ⟨gb511, 4, none⟩ (.slice Ao31 t505.length co31)).setCell ⟨gb511, 5, none⟩ (.slice Ao32 t508.length co32)) w.heap.size (fun k_ => some k_ ≠ (.slice Ao15 t483.length co15 : Value).ownBlock ∧ some k_ ≠ (.slice Ao23 t497.length co23 : Value).ownBlock ∧ k_ ≠ gb489) (.slice Ao32 t508.length co32) t508) := ⟨tq_135⟩
     have n6_ : Aside0 (((((((w26.setCell ⟨gb511, 0, none⟩ (.int .i64 t501)).setCell ⟨gb511, 1, none⟩ (.int .i64 t502)).setCell ⟨gb511, 2, none⟩ (.int .i64 t503)).setCell ⟨gb511, 3, none⟩ (.string t504)).setCell ⟨gb511, 4, none⟩ (.slice Ao31 t505.length co31)).setCell ⟨gb511, 5, none⟩ (.slice Ao32 t508.length co32)).heap[gb488]? = some (.cells #[.int .i64 t476, .int .i64 t477, .int .i64 t478, .string t479, .slice Ao14 t480.length co14, .slice Ao15 t483.length co15] 49 (0, 0))) := ⟨tq_110⟩
     have n7_ : Aside0 (((((((w26.setCell ⟨gb511, 0, none⟩ (.int .i64 t501)).setCell ⟨gb511, 1, none⟩ (.int .i64 t502)).setCell ⟨gb511, 2, none⟩ (.int .i64 t503)).setCell ⟨gb511, 3, none⟩ (.string t504)).setCell ⟨gb511, 4, none⟩ (.slice Ao31 t505.length co31)).setCell ⟨gb511, 5, none⟩ (.slice Ao32 t508.length co32)).heap[gb489]? = some (.cells #[.int .i64 t486, .string t487] 59 (0, 0))) := ⟨tq_108⟩
     have n8_ : Aside0 (((((((w26.setCell ⟨gb511, 0, none⟩ (.int .i64 t501)).setCell ⟨gb511, 1, none⟩ (.int .i64 t502)).setCell ⟨gb511, 2, none⟩ (.int .i64 t503)).setCell ⟨gb511, 3, none⟩ (.string t504)).setCell ⟨gb511, 4, none⟩ (.slice Ao31 t505.length co31)).setCell ⟨gb511, 5, none⟩ (.slice Ao32 t508.length co32)).heap[gb500]? = some (.cells #[.int .i64 t490, .int .i64 t491, .int .i64 t492, .string t493, .slice Ao22 t494.length co22, .slice Ao23 t497.length co23] 49 (0, 0))) := ⟨tq_107⟩
     have n9_ : Aside0 (((((((w26.setCell ⟨gb511, 0, none⟩ (.int .i64 t501)).setCell ⟨gb511, 1, none⟩ (.int .i64 t502)).setCell ⟨gb511, 2, none⟩ (.int .i64 t503)).setCell ⟨gb511, 3, none⟩ (.string t504)).setCell ⟨gb511, 4, none⟩ (.slice Ao31 t505.length co31)).setCell ⟨gb511, 5, none⟩ (.slice Ao32 t508.length co32)).heap[gb511]? = some (.cells #[.int .i64 t501, .int .i64 t502, .int .i64 t503, .string t504, .slice Ao31 t505.length co31, .slice Ao32 t508.length co32] 49 (0, 0))) := ⟨tq_57⟩
     have n10_ : Aside0 (Below w.heap.size w ((((((w26.setCell ⟨gb511, 0, none⟩ (.int .i64 t501)).setCell ⟨gb511, 1, none⟩ (.int .i64 t502)).setCell ⟨gb511, 2, none⟩ (.int .i64 t503)).setCell ⟨gb511, 3, none⟩ (.string t504)).setCell ⟨gb511, 4, none⟩ (.slice Ao31 t505.length co31)).setCell ⟨gb511, 5, none⟩ (.slice Ao32 t508.length co32))) := ⟨tq_2⟩
     (try clear HO482)
     (try clear HO485)
     (try clear HO496)
     (try clear HO499)
     (try clear HO507)
     (try clear HO510)
     (try clear BK488)
     (try clear BK489)
     (try clear BK500)
     (try clear BK511)
     (try clear HB)
     generalize ((((((w26.setCell ⟨gb511, 0, none⟩ (.int .i64 t501)).setCell ⟨gb511, 1, none⟩ (.int .i64 t502)).setCell ⟨gb511, 2, none⟩ (.int .i64 t503)).setCell ⟨gb511, 3, none⟩ (.string t504)).setCell ⟨gb511, 4, none⟩ (.slice Ao31 t505.length co31)).setCell ⟨gb511, 5, none⟩ (.slice Ao32 t508.length co32)) = w48 at n0_ n1_ n2_ n3_ n4_ n5_ n6_ n7_ n8_ n9_ n10_ ⊢
     have HO482 := n0_
     have HO485 := n1_
     have HO496 := n2_
     have HO499 := n3_
     have HO507 := n4_
     have HO510 := n5_
     have BK488 := n6_
     have BK489 := n7_
     have BK500 := n8_
     have BK511 := n9_
     have HB := n10_
     clear n0_ n1_ n2_ n3_ n4_ n5_ n6_ n7_ n8_ n9_ n10_
     have z_ := p_ (Kd.R_drew HO482.out) <| p_ (Kd.R_drew HO485.out) <| p_ (Kd.R_drew HO496.out) <| p_ (Kd.R_drew HO499.out) <| p_ (Kd.R_drew HO507.out) <| p_ (Kd.R_drew HO510.out) <| p_ (blk_drew BK488.out) <| p_ (blk_drew BK489.out) <| p_ (blk_drew BK500.out) <| p_ (blk_drew BK511.out) <| a_ (below_drew1 HB.out)
     clear HO482 HO485 HO496 HO499 HO507 HO510 BK488 BK489 BK500 BK511 HB
     obtain ⟨HO482, HO485, HO496, HO499, HO507, HO510, BK488, BK489, BK500, BK511, HB⟩ := z_
     refine start_ (n := 15) (S := fun w' => w'.cell? ⟨gb500, 0, none⟩ = some (.int .i64 t490) ∧ w'.cell? ⟨gb500, 1, none⟩ = some (.int .i64 t491) ∧ w'.cell? ⟨gb500, 2, none⟩ = some (.int .i64 t492) ∧ w'.cell? ⟨gb500, 3, none⟩ = some (.string t493) ∧ w'.cell? ⟨gb500, 4, none⟩ = some (.slice Ao22 t494.length co22) ∧ w'.cell? ⟨gb500, 5, none⟩ = some (.slice Ao23 t497.length co23) ∧ w'.cell? ⟨gb488, 0, none⟩ = some (.int .i64 t476) ∧ w'.cell? ⟨gb488, 1, none⟩ = some (.int .i64 t477) ∧ w'.cell? ⟨gb488, 2, none⟩ = some (.int .i64 t478) ∧ w'.cell? ⟨gb488, 3, none⟩ = some (.string t479) ∧ w'.cell? ⟨gb488, 4, none⟩ = some (.slice Ao14 t480.length co14) ∧ w'.cell? ⟨gb488, 5, none⟩ = some (.slice Ao15 t483.length co15) ∧ w'.cell? ⟨gb489, 0, none⟩ = some (.int .i64 t486) ∧ w'.cell? ⟨gb489, 1, none⟩ = some (.string t487)) (ds := []) bq_43 (by kernel_rfl) rfl rfl (bc6_ BK500.out (bc6_ BK488.out (bk2_ BK489.out))) (fun hHeld => ?_); refine with_tabW laws_FnEntries.tab6 laws_FnEntries.bits6 (fun HT_ HW_ => ?_)
     generalize w48.drew = w49 at HO482 HO485 HO496 HO499 HO507 HO510 BK488 BK489 BK500 BK511 HB hHeld ⊢
     refine tk_ (i := 0) (N := some 24) bq_44 (take_ofW HT_.out HW_.out (by kernel_rfl)) hHeld ?_
     refine tk_ (i := 1) (N := some 25) bq_45 (take_ofW HT_.out HW_.out (by kernel_rfl)) hHeld ?_
     refine tk_ (i := 2) (N := some 26) bq_46 (take_ofW HT_.out HW_.out (by kernel_rfl)) hHeld ?_
     refine one_ (i := 3) (N := some 27) bq_47 rfl rfl (one_of HT_.out (by kernel_rfl)) (by decide) (fun K hK => ?_)
     refine goes_ Try.func34 (by kernel_rfl) rfl #[.agg #[.int .i64 t476, .int .i64 t477, .int .i64 t478, .string t479, .slice Ao14 t480.length co14, .slice Ao15 t483.length co15], .agg #[.int .i64 t486, .string t487]] (by rfl) rfl rfl tq_0 ?_
     with_reducible refine (spec_WithEntry.calls kj2 t476 t477 t478 t479 _ _ t480 _ _ t483 t486 t487 t512 t513 t514 t515 t516 t519 _ ?side1 ?side2 ?side3 ?side4 A33.out).mono ?_
     (case side1 => exact tq_186)
     (case side2 => exact (Kd.R_reads' HO482.out).2.1)
     (case side3 => exact tq_185)
     (case side4 => exact (Kd.R_reads' HO485.out).2.1)
     rintro e w50 ⟨v517, v520, rfl, ho0, ho1, hb⟩
     refine ⟨_, rfl, ?_⟩
     have z_ := p_ (Kd.R_elder' tq_83 (Kd.R_base ho0) hb) <| p_ (Kd.R_elder' tq_82 (Kd.R_base ho1) hb) <| p_ (Kd.R_elder' tq_96 (Kd.R_base ho0) hb) <| p_ (Kd.R_elder' tq_95 (Kd.R_base ho1) hb) <| p_ (Kd.R_elder' tq_119 (Kd.R_base ho0) hb) <| p_ (Kd.R_elder' tq_118 (Kd.R_base ho1) hb) <| p_ (Kd.R_lower (Kd.R_new' (Kd.R_new' (Kd.R_new' ho0 (Kd.R_lt tq_83)) (Kd.R_lt tq_96)) (Kd.R_lt tq_119)) (below_size tq_2)) <| p_ (Kd.R_lower (Kd.R_newB (Kd.R_new' (Kd.R_new' (Kd.R_new' ho1 (Kd.R_lt tq_82)) (Kd.R_lt tq_95)) (Kd.R_lt tq_118)) (g := gb489) (o := .cells #[.int .i64 t486, .string t487] 59 (0, 0)) tq_15) (below_size tq_2)) <| p_ (blk_below tq_16 hb) <| p_ (blk_below tq_15 hb) <| p_ (blk_below tq_21 hb) <| p_ (blk_below tq_25 hb) <| a_ (below_step tq_2 hb)
     clear HO482 HO485 HO496 HO499 HO507 HO510 BK488 BK489 BK500 BK511 HB
     obtain ⟨HO482, HO485, HO496, HO499, HO507, HO510, HO518, HO521, BK488, BK489, BK500, BK511, HB⟩ := z_
     (try clear hb)
     (try clear hb2)
     (try clear hk)
     (try clear hi)
     (try clear ho0)
     (try clear ho1)
     obtain ⟨Ao51, co51, eo51⟩ := Kd.R_slice HO518.out
     (first | subst eo51 | (injection eo51 with f1_ f2_ f3_; have f4_ := f1_.symm; have f5_ := f3_.symm; clear f1_ f2_ f3_; subst f4_; subst f5_))
     obtain ⟨Ao52, co52, eo52⟩ := Kd.R_slice HO521.out
     (first | subst eo52 | (injection eo52 with f1_ f2_ f3_; have f4_ := f1_.symm; have f5_ := f3_.symm; clear f1_ f2_ f3_; subst f4_; subst f5_))
     refine hK.out _ _ (bc6_ BK500.out (bc6_ BK488.out (bk2_ BK489.out))) (fun hHeld => ?_)
     clear hK K
     refine nm_ (some 27) ?_
     refine one_ (i := 4) (N := some 28) bq_48 rfl rfl (one_of HT_.out (by kernel_rfl)) (by decide) (fun K hK => ?_)
     refine goes_ Try.func39 (by kernel_rfl) rfl #[.agg #[.int .i64 t490, .int .i64 t491, .int .i64 t492, .string t493, .slice Ao22 t494.length co22, .slice Ao23 t497.length co23], .agg #[.int .i64 t512, .int .i64 t513, .int .i64 t514, .string t515, .slice Ao51 t516.length co51, .slice Ao52 t519.length co52]] (by rfl) rfl rfl tq_0 ?_
     with_reducible refine (laws_sameInode.calls kj2 t490 t491 t492 t493 _ _ t494 _ _ t497 t512 t513 t514 t515 _ _ t516 _ _ t519 false _ ?side1 ?side2 ?side3 ?side4 ?side5 ?side6 ?side7 ?side8 A34.out).mono ?_
     (case side1 => exact tq_211)
     (case side2 => exact (Kd.R_reads' HO496.out).2.1)
     (case side3 => exact tq_210)
     (case side4 => exact (Kd.R_reads' HO499.out).2.1)
     (case side5 => exact tq_209)
     (case side6 => exact (Kd.R_reads' HO518.out).2.1)
     (case side7 => exact tq_208)
     (case side8 => exact (Kd.R_reads' HO521.out).2.1)
     rintro e w53 ⟨rfl, hb⟩
     refine ⟨_, rfl, ?_⟩
     have z_ := p_ (Kd.R_below tq_83 hb) <| p_ (Kd.R_below tq_82 hb) <| p_ (Kd.R_below tq_96 hb) <| p_ (Kd.R_below tq_95 hb) <| p_ (Kd.R_below tq_119 hb) <| p_ (Kd.R_below tq_118 hb) <| p_ (Kd.R_below tq_169 hb) <| p_ (Kd.R_below tq_168 hb) <| p_ (blk_below tq_16 hb) <| p_ (blk_below tq_15 hb) <| p_ (blk_below tq_21 hb) <| p_ (blk_below tq_25 hb) <| a_ (below_step tq_2 hb)
     clear HO482 HO485 HO496 HO499 HO507 HO510 HO518 HO521 BK488 BK489 BK500 BK511 HB
     obtain ⟨HO482, HO485, HO496, HO499, HO507, HO510, HO518, HO521, BK488, BK489, BK500, BK511, HB⟩ := z_
     (try clear hb)
     (try clear hb2)
     (try clear hk)
     (try clear hi)
     refine hK.out _ _ (bc6_ BK500.out (bc6_ BK488.out (bk2_ BK489.out))) (fun hHeld => ?_)
     clear hK K
     refine nm_ (some 28) ?_
     refine yq_ (i := 5) (N := some 29) bq_49 (any_of HT_.out (by kernel_rfl)) ?_
     refine yq_ (i := 6) (N := some 30) bq_50 (any_of HT_.out (by kernel_rfl)) ?_
     refine uq_ (i := 7) (N := some 31) #[true, true, true, true, true, true, true, true, false, false, false, false, false, false, false] (any_of HT_.out (by kernel_rfl)) ?_
     refine uq_ (i := 8) (N := some 32) #[true, true, true, true, true, true, true, true, true, false, false, false, false, false, false] (any_of HT_.out (by kernel_rfl)) ?_
     refine uq_ (i := 9) (N := some 33) bq_51 (any_of HT_.out (by kernel_rfl)) ?_
     refine uq_ (i := 10) (N := some 34) bq_52 (any_of HT_.out (by kernel_rfl)) ?_
     refine uq_ (i := 11) (N := some 35) bq_53 (any_of HT_.out (by kernel_rfl)) ?_
     refine uq_ (i := 12) (N := some 36) bq_54 (any_of HT_.out (by kernel_rfl)) ?_
     refine uq_ (i := 13) (N := some 37) bq_55 (any_of HT_.out (by kernel_rfl)) ?_
     refine yq_ (i := 14) (N := some 38) bq_56 (any_of HT_.out (by kernel_rfl)) ?_
     refine done_ (done_of HT_.out (by kernel_rfl)) ?_
     try go_wp2
     go_meet
     case rel => exact ⟨_, (true), tq_36, H', ⟨(by have := HJ2.out; first | omega | exact Nat.le_refl _)⟩, ⟨(by (with_reducible repeat (first | apply Kd.R_alloc | apply Kd.R_drewN | apply Kd.R_drew)); exact Kd.R_mono HO482.out (fun _ hk => ⟨hk.1.1, hk.1.2⟩))⟩, ⟨(by (with_reducible repeat (first | apply Kd.R_alloc | apply Kd.R_drewN | apply Kd.R_drew)); exact Kd.R_mono HO485.out (fun _ hk => ⟨hk.1.1, ⟨hk.1.2.1, hk.1.2.2⟩⟩))⟩, ⟨(by (with_reducible repeat (first | apply Kd.R_alloc | apply Kd.R_drewN | apply Kd.R_drew)); exact Kd.R_mono HO496.out (fun _ hk => ⟨hk.1.1, hk.1.2⟩))⟩, ⟨(by (with_reducible repeat (first | apply Kd.R_alloc | apply Kd.R_drewN | apply Kd.R_drew)); exact Kd.R_mono HO499.out (fun _ hk => ⟨hk.1.1, ⟨hk.1.2.1, hk.1.2.2⟩⟩))⟩, ⟨(by (with_reducible repeat (first | apply Kd.R_alloc | apply Kd.R_drewN | apply Kd.R_drew)); exact Kd.R_mono HO507.out (fun _ hk => ⟨hk.1.1, hk.1.2⟩))⟩, ⟨(by (with_reducible repeat (first | apply Kd.R_alloc | apply Kd.R_drewN | apply Kd.R_drew)); exact Kd.R_mono HO510.out (fun _ hk => ⟨hk.1.1, ⟨hk.1.2.1, hk.1.2.2⟩⟩))⟩, ⟨tq_16⟩, ⟨tq_15⟩, ⟨tq_21⟩, ⟨tq_25⟩, ⟨tq_2⟩⟩
    subst c35
    have H1 : ((spec_WithoutEntry.f kj2 t476 t477 t478 t479 t480 t483 t487).bind fun bt523 => ((laws_sameInode.f kj2 t501 t502 t503 t504 t505 t508 bt523.1 bt523.2.1 bt523.2.2.1 bt523.2.2.2.1 bt523.2.2.2.2.1 bt523.2.2.2.2.2).bind fun t533 => (laws_FnEntries.j1 kj2 (!t533) t486 t487 t490 t491 t492 t493 t494 t497 t501 t502 t503 t504 t505 t508))) = some r := by rw [if_pos rfl] at H; exact H
    clear H
    have H := H1
    clear H1
    replace H := Option.bind_eq_some_iff.mp H
    obtain ⟨⟨t523, t524, t525, t526, t527, t530⟩, A360, H⟩ := H
    replace H : ((laws_sameInode.f kj2 t501 t502 t503 t504 t505 t508 t523 t524 t525 t526 t527 t530).bind fun t533 => (laws_FnEntries.j1 kj2 (!t533) t486 t487 t490 t491 t492 t493 t494 t497 t501 t502 t503 t504 t505 t508)) = some r := H
    have A36 := Aside0.mk A360
    clear A360
    replace H := Option.bind_eq_some_iff.mp H
    obtain ⟨t533, A370, H⟩ := H
    replace H : (laws_FnEntries.j1 kj2 (!t533) t486 t487 t490 t491 t492 t493 t494 t497 t501 t502 t503 t504 t505 t508) = some r := H
    have A37 := Aside0.mk A370
    clear A370
    have H' := Aside0.mk H
    clear H
    try go_wp2
    have n0_ : Aside0 (Kd.R k170 170 ((((((w26.setCell ⟨gb511, 0, none⟩ (.int .i64 t501)).setCell ⟨gb511, 1, none⟩ (.int .i64 t502)).setCell ⟨gb511, 2, none⟩ (.int .i64 t503)).setCell ⟨gb511, 3, none⟩ (.string t504)).setCell ⟨gb511, 4, none⟩ (.slice Ao31 t505.length co31)).setCell ⟨gb511, 5, none⟩ (.slice Ao32 t508.length co32)) w.heap.size (fun k_ => some k_ ≠ (.slice Ao22 t494.length co22 : Value).ownBlock ∧ some k_ ≠ (.slice Ao31 t505.length co31 : Value).ownBlock) (.slice Ao14 t480.length co14) t480) := ⟨tq_141⟩
    have n1_ : Aside0 (Kd.R k59 59 ((((((w26.setCell ⟨gb511, 0, none⟩ (.int .i64 t501)).setCell ⟨gb511, 1, none⟩ (.int .i64 t502)).setCell ⟨gb511, 2, none⟩ (.int .i64 t503)).setCell ⟨gb511, 3, none⟩ (.string t504)).setCell ⟨gb511, 4, none⟩ (.slice Ao31 t505.length co31)).setCell ⟨gb511, 5, none⟩ (.slice Ao32 t508.length co32)) w.heap.size (fun k_ => some k_ ≠ (.slice Ao23 t497.length co23 : Value).ownBlock ∧ some k_ ≠ (.slice Ao32 t508.length co32 : Value).ownBlock ∧ k_ ≠ gb489) (.slice Ao15 t483.length co15) t483) := ⟨tq_137⟩
    have n2_ : Aside0 (Kd.R k170 170 ((((((w26.setCell ⟨gb511, 0, none⟩ (.int .i64 t501)).setCell ⟨gb511, 1, none⟩ (.int .i64 t502)).setCell ⟨gb511, 2, none⟩ (.int .i64 t503)).setCell ⟨gb511, 3, none⟩ (.string t504)).setCell ⟨gb511, 4, none⟩ (.slice Ao31 t505.length co31)).setCell ⟨gb511, 5, none⟩ (.slice Ao32 t508.length co32)) w.heap.size (fun k_ => some k_ ≠ (.slice Ao14 t480.length co14 : Value).ownBlock ∧ some k_ ≠ (.slice Ao31 t505.length co31 : Value).ownBlock) (.slice Ao22 t494.length co22) t494) := ⟨tq_140⟩
    have n3_ : Aside0 (Kd.R k59 59 ((((((w26.setCell ⟨gb511, 0, none⟩ (.int .i64 t501)).setCell ⟨gb511, 1, none⟩ (.int .i64 t502)).setCell ⟨gb511, 2, none⟩ (.int .i64 t503)).setCell ⟨gb511, 3, none⟩ (.string t504)).setCell ⟨gb511, 4, none⟩ (.slice Ao31 t505.length co31)).setCell ⟨gb511, 5, none⟩ (.slice Ao32 t508.length co32)) w.heap.size (fun k_ => some k_ ≠ (.slice Ao15 t483.length co15 : Value).ownBlock ∧ some k_ ≠ (.slice Ao32 t508.length co32 : Value).ownBlock ∧ k_ ≠ gb489) (.slice Ao23 t497.length co23) t497) := ⟨tq_136⟩
    have n4_ : Aside0 (Kd.R k170 170 ((((((w26.setCell ⟨gb511, 0, none⟩ (.int .i64 t501)).setCell ⟨gb511, 1, none⟩ (.int .i64 t502)).setCell ⟨gb511, 2, none⟩ (.int .i64 t503)).setCell ⟨gb511, 3, none⟩ (.string t504)).setCell ⟨gb511, 4, none⟩ (.slice Ao31 t505.length co31)).setCell ⟨gb511, 5, none⟩ (.slice Ao32 t508.length co32)) w.heap.size (fun k_ => some k_ ≠ (.slice Ao14 t480.length co14 : Value).ownBlock ∧ some k_ ≠ (.slice Ao22 t494.length co22 : Value).ownBlock) (.slice Ao31 t505.length co31) t505) := ⟨tq_139⟩
    have n5_ : Aside0 (Kd.R k59 59 ((((((w26.setCell ⟨gb511, 0, none⟩ (.int .i64 t501)).setCell ⟨gb511, 1, none⟩ (.int .i64 t502)).setCell ⟨gb511, 2, none⟩ (.int .i64 t503)).setCell ⟨gb511, 3, none⟩ (.string t504)).setCell ⟨gb511, 4, none⟩ (.slice Ao31 t505.length co31)).setCell ⟨gb511, 5, none⟩ (.slice Ao32 t508.length co32)) w.heap.size (fun k_ => some k_ ≠ (.slice Ao15 t483.length co15 : Value).ownBlock ∧ some k_ ≠ (.slice Ao23 t497.length co23 : Value).ownBlock ∧ k_ ≠ gb489) (.slice Ao32 t508.length co32) t508) := ⟨tq_135⟩
    have n6_ : Aside0 (((((((w26.setCell ⟨gb511, 0, none⟩ (.int .i64 t501)).setCell ⟨gb511, 1, none⟩ (.int .i64 t502)).setCell ⟨gb511, 2, none⟩ (.int .i64 t503)).setCell ⟨gb511, 3, none⟩ (.string t504)).setCell ⟨gb511, 4, none⟩ (.slice Ao31 t505.length co31)).setCell ⟨gb511, 5, none⟩ (.slice Ao32 t508.length co32)).heap[gb488]? = some (.cells #[.int .i64 t476, .int .i64 t477, .int .i64 t478, .string t479, .slice Ao14 t480.length co14, .slice Ao15 t483.length co15] 49 (0, 0))) := ⟨tq_110⟩
    have n7_ : Aside0 (((((((w26.setCell ⟨gb511, 0, none⟩ (.int .i64 t501)).setCell ⟨gb511, 1, none⟩ (.int .i64 t502)).setCell ⟨gb511, 2, none⟩ (.int .i64 t503)).setCell ⟨gb511, 3, none⟩ (.string t504)).setCell ⟨gb511, 4, none⟩ (.slice Ao31 t505.length co31)).setCell ⟨gb511, 5, none⟩ (.slice Ao32 t508.length co32)).heap[gb489]? = some (.cells #[.int .i64 t486, .string t487] 59 (0, 0))) := ⟨tq_108⟩
    have n8_ : Aside0 (((((((w26.setCell ⟨gb511, 0, none⟩ (.int .i64 t501)).setCell ⟨gb511, 1, none⟩ (.int .i64 t502)).setCell ⟨gb511, 2, none⟩ (.int .i64 t503)).setCell ⟨gb511, 3, none⟩ (.string t504)).setCell ⟨gb511, 4, none⟩ (.slice Ao31 t505.length co31)).setCell ⟨gb511, 5, none⟩ (.slice Ao32 t508.length co32)).heap[gb500]? = some (.cells #[.int .i64 t490, .int .i64 t491, .int .i64 t492, .string t493, .slice Ao22 t494.length co22, .slice Ao23 t497.length co23] 49 (0, 0))) := ⟨tq_107⟩
    have n9_ : Aside0 (((((((w26.setCell ⟨gb511, 0, none⟩ (.int .i64 t501)).setCell ⟨gb511, 1, none⟩ (.int .i64 t502)).setCell ⟨gb511, 2, none⟩ (.int .i64 t503)).setCell ⟨gb511, 3, none⟩ (.string t504)).setCell ⟨gb511, 4, none⟩ (.slice Ao31 t505.length co31)).setCell ⟨gb511, 5, none⟩ (.slice Ao32 t508.length co32)).heap[gb511]? = some (.cells #[.int .i64 t501, .int .i64 t502, .int .i64 t503, .string t504, .slice Ao31 t505.length co31, .slice Ao32 t508.length co32] 49 (0, 0))) := ⟨tq_57⟩
    have n10_ : Aside0 (Below w.heap.size w ((((((w26.setCell ⟨gb511, 0, none⟩ (.int .i64 t501)).setCell ⟨gb511, 1, none⟩ (.int .i64 t502)).setCell ⟨gb511, 2, none⟩ (.int .i64 t503)).setCell ⟨gb511, 3, none⟩ (.string t504)).setCell ⟨gb511, 4, none⟩ (.slice Ao31 t505.length co31)).setCell ⟨gb511, 5, none⟩ (.slice Ao32 t508.length co32))) := ⟨tq_2⟩
    (try clear HO482)
    (try clear HO485)
    (try clear HO496)
    (try clear HO499)
    (try clear HO507)
    (try clear HO510)
    (try clear BK488)
    (try clear BK489)
    (try clear BK500)
    (try clear BK511)
    (try clear HB)
    generalize ((((((w26.setCell ⟨gb511, 0, none⟩ (.int .i64 t501)).setCell ⟨gb511, 1, none⟩ (.int .i64 t502)).setCell ⟨gb511, 2, none⟩ (.int .i64 t503)).setCell ⟨gb511, 3, none⟩ (.string t504)).setCell ⟨gb511, 4, none⟩ (.slice Ao31 t505.length co31)).setCell ⟨gb511, 5, none⟩ (.slice Ao32 t508.length co32)) = w38 at n0_ n1_ n2_ n3_ n4_ n5_ n6_ n7_ n8_ n9_ n10_ ⊢
    have HO482 := n0_
    have HO485 := n1_
    have HO496 := n2_
    have HO499 := n3_
    have HO507 := n4_
    have HO510 := n5_
    have BK488 := n6_
    have BK489 := n7_
    have BK500 := n8_
    have BK511 := n9_
    have HB := n10_
    clear n0_ n1_ n2_ n3_ n4_ n5_ n6_ n7_ n8_ n9_ n10_
    have z_ := p_ (Kd.R_drew HO482.out) <| p_ (Kd.R_drew HO485.out) <| p_ (Kd.R_drew HO496.out) <| p_ (Kd.R_drew HO499.out) <| p_ (Kd.R_drew HO507.out) <| p_ (Kd.R_drew HO510.out) <| p_ (blk_drew BK488.out) <| p_ (blk_drew BK489.out) <| p_ (blk_drew BK500.out) <| p_ (blk_drew BK511.out) <| a_ (below_drew1 HB.out)
    clear HO482 HO485 HO496 HO499 HO507 HO510 BK488 BK489 BK500 BK511 HB
    obtain ⟨HO482, HO485, HO496, HO499, HO507, HO510, BK488, BK489, BK500, BK511, HB⟩ := z_
    refine start_ (n := 15) (S := fun w' => w'.cell? ⟨gb500, 0, none⟩ = some (.int .i64 t490) ∧ w'.cell? ⟨gb500, 1, none⟩ = some (.int .i64 t491) ∧ w'.cell? ⟨gb500, 2, none⟩ = some (.int .i64 t492) ∧ w'.cell? ⟨gb500, 3, none⟩ = some (.string t493) ∧ w'.cell? ⟨gb500, 4, none⟩ = some (.slice Ao22 t494.length co22) ∧ w'.cell? ⟨gb500, 5, none⟩ = some (.slice Ao23 t497.length co23) ∧ w'.cell? ⟨gb488, 0, none⟩ = some (.int .i64 t476) ∧ w'.cell? ⟨gb488, 1, none⟩ = some (.int .i64 t477) ∧ w'.cell? ⟨gb488, 2, none⟩ = some (.int .i64 t478) ∧ w'.cell? ⟨gb488, 3, none⟩ = some (.string t479) ∧ w'.cell? ⟨gb488, 4, none⟩ = some (.slice Ao14 t480.length co14) ∧ w'.cell? ⟨gb488, 5, none⟩ = some (.slice Ao15 t483.length co15) ∧ w'.cell? ⟨gb489, 0, none⟩ = some (.int .i64 t486) ∧ w'.cell? ⟨gb489, 1, none⟩ = some (.string t487) ∧ w'.cell? ⟨gb511, 0, none⟩ = some (.int .i64 t501) ∧ w'.cell? ⟨gb511, 1, none⟩ = some (.int .i64 t502) ∧ w'.cell? ⟨gb511, 2, none⟩ = some (.int .i64 t503) ∧ w'.cell? ⟨gb511, 3, none⟩ = some (.string t504) ∧ w'.cell? ⟨gb511, 4, none⟩ = some (.slice Ao31 t505.length co31) ∧ w'.cell? ⟨gb511, 5, none⟩ = some (.slice Ao32 t508.length co32)) (ds := []) bq_43 (by kernel_rfl) rfl rfl (bc6_ BK500.out (bc6_ BK488.out (bc2_ BK489.out (bk6_ BK511.out)))) (fun hHeld => ?_); refine with_tabW laws_FnEntries.tab6 laws_FnEntries.bits6 (fun HT_ HW_ => ?_)
    generalize w38.drew = w39 at HO482 HO485 HO496 HO499 HO507 HO510 BK488 BK489 BK500 BK511 HB hHeld ⊢
    refine tk_ (i := 0) (N := some 24) bq_44 (take_ofW HT_.out HW_.out (by kernel_rfl)) hHeld ?_
    refine tk_ (i := 1) (N := some 25) bq_45 (take_ofW HT_.out HW_.out (by kernel_rfl)) hHeld ?_
    refine tk_ (i := 2) (N := some 26) bq_46 (take_ofW HT_.out HW_.out (by kernel_rfl)) hHeld ?_
    refine one_ (i := 3) (N := some 27) bq_47 rfl rfl (one_of HT_.out (by kernel_rfl)) (by decide) (fun K hK => ?_)
    refine goes_ Try.func34 (by kernel_rfl) rfl #[.agg #[.int .i64 t476, .int .i64 t477, .int .i64 t478, .string t479, .slice Ao14 t480.length co14, .slice Ao15 t483.length co15], .agg #[.int .i64 t486, .string t487]] (by rfl) rfl rfl tq_0 ?_
    with_reducible refine (spec_WithEntry.calls kj2 t476 t477 t478 t479 _ _ t480 _ _ t483 t486 t487 t512 t513 t514 t515 t516 t519 _ ?side1 ?side2 ?side3 ?side4 A33.out).mono ?_
    (case side1 => exact tq_186)
    (case side2 => exact (Kd.R_reads' HO482.out).2.1)
    (case side3 => exact tq_185)
    (case side4 => exact (Kd.R_reads' HO485.out).2.1)
    rintro e w40 ⟨v517, v520, rfl, ho0, ho1, hb⟩
    refine ⟨_, rfl, ?_⟩
    have z_ := p_ (Kd.R_elder' tq_83 (Kd.R_base ho0) hb) <| p_ (Kd.R_elder' tq_82 (Kd.R_base ho1) hb) <| p_ (Kd.R_elder' tq_96 (Kd.R_base ho0) hb) <| p_ (Kd.R_elder' tq_95 (Kd.R_base ho1) hb) <| p_ (Kd.R_elder' tq_119 (Kd.R_base ho0) hb) <| p_ (Kd.R_elder' tq_118 (Kd.R_base ho1) hb) <| p_ (Kd.R_lower (Kd.R_new' (Kd.R_new' (Kd.R_new' ho0 (Kd.R_lt tq_83)) (Kd.R_lt tq_96)) (Kd.R_lt tq_119)) (below_size tq_2)) <| p_ (Kd.R_lower (Kd.R_newB (Kd.R_new' (Kd.R_new' (Kd.R_new' ho1 (Kd.R_lt tq_82)) (Kd.R_lt tq_95)) (Kd.R_lt tq_118)) (g := gb489) (o := .cells #[.int .i64 t486, .string t487] 59 (0, 0)) tq_15) (below_size tq_2)) <| p_ (blk_below tq_16 hb) <| p_ (blk_below tq_15 hb) <| p_ (blk_below tq_21 hb) <| p_ (blk_below tq_25 hb) <| a_ (below_step tq_2 hb)
    clear HO482 HO485 HO496 HO499 HO507 HO510 BK488 BK489 BK500 BK511 HB
    obtain ⟨HO482, HO485, HO496, HO499, HO507, HO510, HO518, HO521, BK488, BK489, BK500, BK511, HB⟩ := z_
    (try clear hb)
    (try clear hb2)
    (try clear hk)
    (try clear hi)
    (try clear ho0)
    (try clear ho1)
    obtain ⟨Ao41, co41, eo41⟩ := Kd.R_slice HO518.out
    (first | subst eo41 | (injection eo41 with f1_ f2_ f3_; have f4_ := f1_.symm; have f5_ := f3_.symm; clear f1_ f2_ f3_; subst f4_; subst f5_))
    obtain ⟨Ao42, co42, eo42⟩ := Kd.R_slice HO521.out
    (first | subst eo42 | (injection eo42 with f1_ f2_ f3_; have f4_ := f1_.symm; have f5_ := f3_.symm; clear f1_ f2_ f3_; subst f4_; subst f5_))
    refine hK.out _ _ (bc6_ BK500.out (bc6_ BK488.out (bc2_ BK489.out (bk6_ BK511.out)))) (fun hHeld => ?_)
    clear hK K
    refine nm_ (some 27) ?_
    refine one_ (i := 4) (N := some 28) bq_48 rfl rfl (one_of HT_.out (by kernel_rfl)) (by decide) (fun K hK => ?_)
    refine goes_ Try.func39 (by kernel_rfl) rfl #[.agg #[.int .i64 t490, .int .i64 t491, .int .i64 t492, .string t493, .slice Ao22 t494.length co22, .slice Ao23 t497.length co23], .agg #[.int .i64 t512, .int .i64 t513, .int .i64 t514, .string t515, .slice Ao41 t516.length co41, .slice Ao42 t519.length co42]] (by rfl) rfl rfl tq_0 ?_
    with_reducible refine (laws_sameInode.calls kj2 t490 t491 t492 t493 _ _ t494 _ _ t497 t512 t513 t514 t515 _ _ t516 _ _ t519 true _ ?side1 ?side2 ?side3 ?side4 ?side5 ?side6 ?side7 ?side8 A34.out).mono ?_
    (case side1 => exact tq_211)
    (case side2 => exact (Kd.R_reads' HO496.out).2.1)
    (case side3 => exact tq_210)
    (case side4 => exact (Kd.R_reads' HO499.out).2.1)
    (case side5 => exact tq_209)
    (case side6 => exact (Kd.R_reads' HO518.out).2.1)
    (case side7 => exact tq_208)
    (case side8 => exact (Kd.R_reads' HO521.out).2.1)
    rintro e w43 ⟨rfl, hb⟩
    refine ⟨_, rfl, ?_⟩
    have z_ := p_ (Kd.R_below tq_83 hb) <| p_ (Kd.R_below tq_82 hb) <| p_ (Kd.R_below tq_96 hb) <| p_ (Kd.R_below tq_95 hb) <| p_ (Kd.R_below tq_119 hb) <| p_ (Kd.R_below tq_118 hb) <| p_ (Kd.R_below tq_169 hb) <| p_ (Kd.R_below tq_168 hb) <| p_ (blk_below tq_16 hb) <| p_ (blk_below tq_15 hb) <| p_ (blk_below tq_21 hb) <| p_ (blk_below tq_25 hb) <| a_ (below_step tq_2 hb)
    clear HO482 HO485 HO496 HO499 HO507 HO510 HO518 HO521 BK488 BK489 BK500 BK511 HB
    obtain ⟨HO482, HO485, HO496, HO499, HO507, HO510, HO518, HO521, BK488, BK489, BK500, BK511, HB⟩ := z_
    (try clear hb)
    (try clear hb2)
    (try clear hk)
    (try clear hi)
    refine hK.out _ _ (bc6_ BK500.out (bc6_ BK488.out (bc2_ BK489.out (bk6_ BK511.out)))) (fun hHeld => ?_)
    clear hK K
    refine nm_ (some 28) ?_
    refine yq_ (i := 5) (N := some 29) bq_49 (any_of HT_.out (by kernel_rfl)) ?_
    refine yq_ (i := 6) (N := some 30) bq_50 (any_of HT_.out (by kernel_rfl)) ?_
    refine yq_ (i := 9) (N := some 33) #[true, true, true, true, true, true, true, false, false, true, false, false, false, false, false] (any_of HT_.out (by kernel_rfl)) ?_
    refine tk_ (i := 7) (N := some 31) #[true, true, true, true, true, true, true, true, false, true, false, false, false, false, false] (take_ofW HT_.out HW_.out (by kernel_rfl)) hHeld ?_
    refine tk_ (i := 8) (N := some 32) bq_51 (take_ofW HT_.out HW_.out (by kernel_rfl)) hHeld ?_
    refine tk_ (i := 10) (N := some 34) bq_52 (take_ofW HT_.out HW_.out (by kernel_rfl)) hHeld ?_
    refine one_ (i := 11) (N := some 35) bq_53 rfl rfl (one_of HT_.out (by kernel_rfl)) (by decide) (fun K hK => ?_)
    refine goes_ Try.func27 (by kernel_rfl) rfl #[.agg #[.int .i64 t476, .int .i64 t477, .int .i64 t478, .string t479, .slice Ao14 t480.length co14, .slice Ao15 t483.length co15], .string t487] (by rfl) rfl rfl tq_0 ?_
    with_reducible refine (spec_WithoutEntry.calls kj2 t476 t477 t478 t479 _ _ t480 _ _ t483 t487 t523 t524 t525 t526 t527 t530 _ ?side1 ?side2 ?side3 ?side4 A36.out).mono ?_
    (case side1 => exact tq_186)
    (case side2 => exact (Kd.R_reads' HO482.out).2.1)
    (case side3 => exact tq_185)
    (case side4 => exact (Kd.R_reads' HO485.out).2.1)
    rintro e w44 ⟨v528, v531, rfl, ho0, ho1, hb⟩
    refine ⟨_, rfl, ?_⟩
    have z_ := p_ (Kd.R_elder' tq_83 (Kd.R_base ho0) hb) <| p_ (Kd.R_elder' tq_82 (Kd.R_base ho1) hb) <| p_ (Kd.R_elder' tq_96 (Kd.R_base ho0) hb) <| p_ (Kd.R_elder' tq_95 (Kd.R_base ho1) hb) <| p_ (Kd.R_elder' tq_119 (Kd.R_base ho0) hb) <| p_ (Kd.R_elder' tq_118 (Kd.R_base ho1) hb) <| p_ (Kd.R_elder' tq_169 (Kd.R_base ho0) hb) <| p_ (Kd.R_elder' tq_168 (Kd.R_base ho1) hb) <| p_ (Kd.R_lower (Kd.R_new' (Kd.R_new' (Kd.R_new' (Kd.R_new' ho0 (Kd.R_lt tq_83)) (Kd.R_lt tq_96)) (Kd.R_lt tq_119)) (Kd.R_lt tq_169)) (below_size tq_2)) <| p_ (Kd.R_lower (Kd.R_newB (Kd.R_new' (Kd.R_new' (Kd.R_new' (Kd.R_new' ho1 (Kd.R_lt tq_82)) (Kd.R_lt tq_95)) (Kd.R_lt tq_118)) (Kd.R_lt tq_168)) (g := gb489) (o := .cells #[.int .i64 t486, .string t487] 59 (0, 0)) tq_15) (below_size tq_2)) <| p_ (blk_below tq_16 hb) <| p_ (blk_below tq_15 hb) <| p_ (blk_below tq_21 hb) <| p_ (blk_below tq_25 hb) <| a_ (below_step tq_2 hb)
    clear HO482 HO485 HO496 HO499 HO507 HO510 HO518 HO521 BK488 BK489 BK500 BK511 HB
    obtain ⟨HO482, HO485, HO496, HO499, HO507, HO510, HO518, HO521, HO529, HO532, BK488, BK489, BK500, BK511, HB⟩ := z_
    (try clear hb)
    (try clear hb2)
    (try clear hk)
    (try clear hi)
    (try clear ho0)
    (try clear ho1)
    obtain ⟨Ao45, co45, eo45⟩ := Kd.R_slice HO529.out
    (first | subst eo45 | (injection eo45 with f1_ f2_ f3_; have f4_ := f1_.symm; have f5_ := f3_.symm; clear f1_ f2_ f3_; subst f4_; subst f5_))
    obtain ⟨Ao46, co46, eo46⟩ := Kd.R_slice HO532.out
    (first | subst eo46 | (injection eo46 with f1_ f2_ f3_; have f4_ := f1_.symm; have f5_ := f3_.symm; clear f1_ f2_ f3_; subst f4_; subst f5_))
    refine hK.out _ _ (bc6_ BK500.out (bc6_ BK488.out (bc2_ BK489.out (bk6_ BK511.out)))) (fun hHeld => ?_)
    clear hK K
    refine nm_ (some 35) ?_
    refine one_ (i := 12) (N := some 36) bq_54 rfl rfl (one_of HT_.out (by kernel_rfl)) (by decide) (fun K hK => ?_)
    refine goes_ Try.func39 (by kernel_rfl) rfl #[.agg #[.int .i64 t501, .int .i64 t502, .int .i64 t503, .string t504, .slice Ao31 t505.length co31, .slice Ao32 t508.length co32], .agg #[.int .i64 t523, .int .i64 t524, .int .i64 t525, .string t526, .slice Ao45 t527.length co45, .slice Ao46 t530.length co46]] (by rfl) rfl rfl tq_0 ?_
    with_reducible refine (laws_sameInode.calls kj2 t501 t502 t503 t504 _ _ t505 _ _ t508 t523 t524 t525 t526 _ _ t527 _ _ t530 t533 _ ?side1 ?side2 ?side3 ?side4 ?side5 ?side6 ?side7 ?side8 A37.out).mono ?_
    (case side1 => repeat (first | exact (Kd.R_reads' HO507.out).2.2 | (with_reducible refine Kd.C_alloc ?_ _) | (with_reducible refine Kd.C_drewN ?_ _) | (with_reducible refine Kd.C_drew ?_)))
    (case side2 => exact (Kd.R_reads' HO507.out).2.1)
    (case side3 => repeat (first | exact (Kd.R_reads' HO510.out).2.2 | (with_reducible refine Kd.C_alloc ?_ _) | (with_reducible refine Kd.C_drewN ?_ _) | (with_reducible refine Kd.C_drew ?_)))
    (case side4 => exact (Kd.R_reads' HO510.out).2.1)
    (case side5 => repeat (first | exact (Kd.R_reads' HO529.out).2.2 | (with_reducible refine Kd.C_alloc ?_ _) | (with_reducible refine Kd.C_drewN ?_ _) | (with_reducible refine Kd.C_drew ?_)))
    (case side6 => exact (Kd.R_reads' HO529.out).2.1)
    (case side7 => repeat (first | exact (Kd.R_reads' HO532.out).2.2 | (with_reducible refine Kd.C_alloc ?_ _) | (with_reducible refine Kd.C_drewN ?_ _) | (with_reducible refine Kd.C_drew ?_)))
    (case side8 => exact (Kd.R_reads' HO532.out).2.1)
    rintro e w47 ⟨rfl, hb⟩
    refine ⟨_, rfl, ?_⟩
    have z_ := p_ (Kd.R_below tq_83 hb) <| p_ (Kd.R_below tq_82 hb) <| p_ (Kd.R_below tq_96 hb) <| p_ (Kd.R_below tq_95 hb) <| p_ (Kd.R_below tq_119 hb) <| p_ (Kd.R_below tq_118 hb) <| p_ (Kd.R_below tq_169 hb) <| p_ (Kd.R_below tq_168 hb) <| p_ (Kd.R_below (by (with_reducible repeat (first | apply Kd.R_alloc | apply Kd.R_drewN | apply Kd.R_drew)); exact HO529.out) hb) <| p_ (Kd.R_below (by (with_reducible repeat (first | apply Kd.R_alloc | apply Kd.R_drewN | apply Kd.R_drew)); exact HO532.out) hb) <| p_ (blk_below tq_16 hb) <| p_ (blk_below tq_15 hb) <| p_ (blk_below tq_21 hb) <| p_ (blk_below tq_25 hb) <| a_ (below_step tq_2 hb)
    clear HO482 HO485 HO496 HO499 HO507 HO510 HO518 HO521 HO529 HO532 BK488 BK489 BK500 BK511 HB
    obtain ⟨HO482, HO485, HO496, HO499, HO507, HO510, HO518, HO521, HO529, HO532, BK488, BK489, BK500, BK511, HB⟩ := z_
    (try clear hb)
    (try clear hb2)
    (try clear hk)
    (try clear hi)
    refine hK.out _ _ (bc6_ BK500.out (bc6_ BK488.out (bc2_ BK489.out (bk6_ BK511.out)))) (fun hHeld => ?_)
    clear hK K
    refine nm_ (some 36) ?_
    refine yq_ (i := 13) (N := some 37) bq_55 (any_of HT_.out (by kernel_rfl)) ?_
    refine yq_ (i := 14) (N := some 38) bq_56 (any_of HT_.out (by kernel_rfl)) ?_
    refine done_ (done_of HT_.out (by kernel_rfl)) ?_
    try go_wp2
    go_meet
    case rel => exact ⟨_, (!t533), tq_36, H', ⟨(by have := HJ2.out; first | omega | exact Nat.le_refl _)⟩, ⟨(by (with_reducible repeat (first | apply Kd.R_alloc | apply Kd.R_drewN | apply Kd.R_drew)); exact Kd.R_mono HO482.out (fun _ hk => ⟨hk.1.1.1, hk.1.1.2⟩))⟩, ⟨(by (with_reducible repeat (first | apply Kd.R_alloc | apply Kd.R_drewN | apply Kd.R_drew)); exact Kd.R_mono HO485.out (fun _ hk => ⟨hk.1.1.1, ⟨hk.1.1.2.1, hk.1.1.2.2⟩⟩))⟩, ⟨(by (with_reducible repeat (first | apply Kd.R_alloc | apply Kd.R_drewN | apply Kd.R_drew)); exact Kd.R_mono HO496.out (fun _ hk => ⟨hk.1.1.1, hk.1.1.2⟩))⟩, ⟨(by (with_reducible repeat (first | apply Kd.R_alloc | apply Kd.R_drewN | apply Kd.R_drew)); exact Kd.R_mono HO499.out (fun _ hk => ⟨hk.1.1.1, ⟨hk.1.1.2.1, hk.1.1.2.2⟩⟩))⟩, ⟨(by (with_reducible repeat (first | apply Kd.R_alloc | apply Kd.R_drewN | apply Kd.R_drew)); exact Kd.R_mono HO507.out (fun _ hk => ⟨hk.1.1.1, hk.1.1.2⟩))⟩, ⟨(by (with_reducible repeat (first | apply Kd.R_alloc | apply Kd.R_drewN | apply Kd.R_drew)); exact Kd.R_mono HO510.out (fun _ hk => ⟨hk.1.1.1, ⟨hk.1.1.2.1, hk.1.1.2.2⟩⟩))⟩, ⟨tq_16⟩, ⟨tq_15⟩, ⟨tq_21⟩, ⟨tq_25⟩, ⟨tq_2⟩⟩
   case rest =>
    clear HC8
    try clear c2; try clear p2; try clear c3; try clear c27; try clear c34; try clear c35; try clear c39
    obtain ⟨kq, x38_7, rfl, HA, HJ7, HO_489004, HO_489005, HO_501004, HO_501005, HO_512004, HO_512005, BK488, BK489, BK500, BK511, HB⟩ := hcut
    cases kq with
    | zero => exact absurd HA.out (by simp [laws_FnEntries.j1])
    | succ kj7 =>
     have H := HA.out
     clear HA
     simp only [laws_FnEntries.j1] at H
     have HC54 := Aside0.mk H
     clear H
     go_upto_if 38 with (fail)
     go_cut [] (fun wc => ∃ (kq : Nat), Aside0 (laws_FnEntries.j2 kq t486 t487 t490 t491 t492 t493 t494 t497 t501 t502 t503 t504 t505 t508 = some r) ∧ Aside0 (kq ≤ kj7) ∧ Aside0 (Kd.R k170 170 wc w.heap.size (fun k_ => some k_ ≠ ((.slice Ao22 t494.length co22) : Value).ownBlock ∧ some k_ ≠ ((.slice Ao31 t505.length co31) : Value).ownBlock) (.slice Ao14 t480.length co14) t480) ∧ Aside0 (Kd.R k59 59 wc w.heap.size (fun k_ => some k_ ≠ ((.slice Ao23 t497.length co23) : Value).ownBlock ∧ some k_ ≠ ((.slice Ao32 t508.length co32) : Value).ownBlock ∧ k_ ≠ gb489) (.slice Ao15 t483.length co15) t483) ∧ Aside0 (Kd.R k170 170 wc w.heap.size (fun k_ => some k_ ≠ ((.slice Ao14 t480.length co14) : Value).ownBlock ∧ some k_ ≠ ((.slice Ao31 t505.length co31) : Value).ownBlock) (.slice Ao22 t494.length co22) t494) ∧ Aside0 (Kd.R k59 59 wc w.heap.size (fun k_ => some k_ ≠ ((.slice Ao15 t483.length co15) : Value).ownBlock ∧ some k_ ≠ ((.slice Ao32 t508.length co32) : Value).ownBlock ∧ k_ ≠ gb489) (.slice Ao23 t497.length co23) t497) ∧ Aside0 (Kd.R k170 170 wc w.heap.size (fun k_ => some k_ ≠ ((.slice Ao14 t480.length co14) : Value).ownBlock ∧ some k_ ≠ ((.slice Ao22 t494.length co22) : Value).ownBlock) (.slice Ao31 t505.length co31) t505) ∧ Aside0 (Kd.R k59 59 wc w.heap.size (fun k_ => some k_ ≠ ((.slice Ao15 t483.length co15) : Value).ownBlock ∧ some k_ ≠ ((.slice Ao23 t497.length co23) : Value).ownBlock ∧ k_ ≠ gb489) (.slice Ao32 t508.length co32) t508) ∧ Aside0 (wc.heap[gb488]? = some (.cells #[.int .i64 t476, .int .i64 t477, .int .i64 t478, .string t479, (.slice Ao14 t480.length co14), (.slice Ao15 t483.length co15)] 49 (0, 0))) ∧ Aside0 (wc.heap[gb489]? = some (.cells #[.int .i64 t486, .string t487] 59 (0, 0))) ∧ Aside0 (wc.heap[gb500]? = some (.cells #[.int .i64 t490, .int .i64 t491, .int .i64 t492, .string t493, (.slice Ao22 t494.length co22), (.slice Ao23 t497.length co23)] 49 (0, 0))) ∧ Aside0 (wc.heap[gb511]? = some (.cells #[.int .i64 t501, .int .i64 t502, .int .i64 t503, .string t504, (.slice Ao31 t505.length co31), (.slice Ao32 t508.length co32)] 49 (0, 0))) ∧ Aside0 (Below w.heap.size w wc))
     case first =>
      have H := HC54.out
      clear HC54
      by_cases c55 : x38_7 = true
      ·subst c55
       have H1 : (some false) = some r := by rw [if_pos rfl] at H; exact H
       clear H
       have H := H1
       clear H1
       obtain rfl := Option.some.inj H
       go_wp2
       go_ret
       exact ⟨tq_11, tq_2⟩
      replace c55 := Bool.eq_false_iff.mpr c55
      subst c55
      have H1 : (laws_FnEntries.j2 kj7 t486 t487 t490 t491 t492 t493 t494 t497 t501 t502 t503 t504 t505 t508) = some r := by rw [if_neg (show ¬ (false = true) by decide)] at H; exact H
      clear H
      have H := H1
      clear H1
      have H' := Aside0.mk H
      clear H
      go_wp2
      go_meet
      case rel => exact ⟨_, H', ⟨(by have := HJ2.out; have := HJ7.out; first | omega | exact Nat.le_refl _)⟩, ⟨tq_74⟩, ⟨tq_73⟩, ⟨tq_72⟩, ⟨tq_71⟩, ⟨tq_70⟩, ⟨tq_69⟩, ⟨tq_16⟩, ⟨tq_15⟩, ⟨tq_21⟩, ⟨tq_25⟩, ⟨tq_2⟩⟩
     case rest =>
      clear HC54
      try clear c2; try clear p2; try clear c3; try clear c5; try clear c27; try clear c34; try clear c35; try clear c39; try clear c55; try clear p2
      obtain ⟨kq, HA, HJ53, HO_489004, HO_489005, HO_501004, HO_501005, HO_512004, HO_512005, BK488, BK489, BK500, BK511, HB⟩ := hcut
      cases kq with
      | zero => exact absurd HA.out (by simp [laws_FnEntries.j2])
      | succ kj53 =>
       have H := HA.out
       clear HA
       simp only [laws_FnEntries.j2] at H
       have H' := Aside0.mk H
       clear H
       go_wp2
       go_loopg [7, 8] kj53 (fun kq v7 v8 w' => ∃ (x7_4 : Int) (x8_4 : Int), v7 = .int .i64 x7_4 ∧ v8 = .int .i64 x8_4 ∧ Aside0 (laws_FnEntries.l0 kq x7_4 x8_4 t486 t487 t490 t491 t492 t493 t494 t497 t501 t502 t503 t504 t505 t508 = some r) ∧ Aside0 (kq ≤ kj53) ∧ Aside0 (Kd.R k170 170 w' w.heap.size (fun k_ => some k_ ≠ ((.slice Ao22 t494.length co22) : Value).ownBlock ∧ some k_ ≠ ((.slice Ao31 t505.length co31) : Value).ownBlock) (.slice Ao14 t480.length co14) t480) ∧ Aside0 (Kd.R k59 59 w' w.heap.size (fun k_ => some k_ ≠ ((.slice Ao23 t497.length co23) : Value).ownBlock ∧ some k_ ≠ ((.slice Ao32 t508.length co32) : Value).ownBlock ∧ k_ ≠ gb489) (.slice Ao15 t483.length co15) t483) ∧ Aside0 (Kd.R k170 170 w' w.heap.size (fun k_ => some k_ ≠ ((.slice Ao14 t480.length co14) : Value).ownBlock ∧ some k_ ≠ ((.slice Ao31 t505.length co31) : Value).ownBlock) (.slice Ao22 t494.length co22) t494) ∧ Aside0 (Kd.R k59 59 w' w.heap.size (fun k_ => some k_ ≠ ((.slice Ao15 t483.length co15) : Value).ownBlock ∧ some k_ ≠ ((.slice Ao32 t508.length co32) : Value).ownBlock ∧ k_ ≠ gb489) (.slice Ao23 t497.length co23) t497) ∧ Aside0 (Kd.R k170 170 w' w.heap.size (fun k_ => some k_ ≠ ((.slice Ao14 t480.length co14) : Value).ownBlock ∧ some k_ ≠ ((.slice Ao22 t494.length co22) : Value).ownBlock) (.slice Ao31 t505.length co31) t505) ∧ Aside0 (Kd.R k59 59 w' w.heap.size (fun k_ => some k_ ≠ ((.slice Ao15 t483.length co15) : Value).ownBlock ∧ some k_ ≠ ((.slice Ao23 t497.length co23) : Value).ownBlock ∧ k_ ≠ gb489) (.slice Ao32 t508.length co32) t508) ∧ Aside0 (w'.heap[gb488]? = some (.cells #[.int .i64 t476, .int .i64 t477, .int .i64 t478, .string t479, (.slice Ao14 t480.length co14), (.slice Ao15 t483.length co15)] 49 (0, 0))) ∧ Aside0 (w'.heap[gb489]? = some (.cells #[.int .i64 t486, .string t487] 59 (0, 0))) ∧ Aside0 (w'.heap[gb500]? = some (.cells #[.int .i64 t490, .int .i64 t491, .int .i64 t492, .string t493, (.slice Ao22 t494.length co22), (.slice Ao23 t497.length co23)] 49 (0, 0))) ∧ Aside0 (w'.heap[gb511]? = some (.cells #[.int .i64 t501, .int .i64 t502, .int .i64 t503, .string t504, (.slice Ao31 t505.length co31), (.slice Ao32 t508.length co32)] 49 (0, 0))) ∧ Aside0 (Below w.heap.size w w'))
       case atStart => exact ⟨(0), (0), tq_36, tq_36, H', ⟨Nat.le_refl _⟩, ⟨tq_74⟩, ⟨tq_73⟩, ⟨tq_72⟩, ⟨tq_71⟩, ⟨tq_70⟩, ⟨tq_69⟩, ⟨tq_16⟩, ⟨tq_15⟩, ⟨tq_21⟩, ⟨tq_25⟩, ⟨tq_2⟩⟩
       case round =>
        clear H'
        try clear c2; try clear p2; try clear c3; try clear c5; try clear c27; try clear c34; try clear c35; try clear c39; try clear c55; try clear p2
        obtain ⟨x7_4, x8_4, rfl, rfl, HA, HK4, HO_489004, HO_489005, HO_501004, HO_501005, HO_512004, HO_512005, BK488, BK489, BK500, BK511, HB⟩ := hrel
        cases gk with
        | zero => exact absurd HA.out (by simp [laws_FnEntries.l0])
        | succ k4 =>
         have H := HA.out
         clear HA
         simp only [laws_FnEntries.l0] at H
         by_cases c56 : x8_4 < (t497.length : Int)
         ·rw [if_pos c56] at H
          have c56b0 := decide_eq_true c56
          clear c56
          by_cases c57 : 0 ≤ x8_4
          rotate_left
          ·rw [if_neg c57] at H
           exact absurd H (by simp)
          rw [if_pos c57] at H
          have c57b0 := decide_eq_true c57
          clear c57
          by_cases c58 : ((rd_T59 t497 x8_4).f1).toList = t487.toList
          rotate_left
          ·rw [if_neg c58] at H
           have c58b0 : (((rd_T59 t497 x8_4).f1).toList == t487.toList) = false := beq_eq_false_iff_ne.mpr c58
           have c58b1 : (((rd_T59 t497 x8_4).f1).toList != t487.toList) = true := bne_iff_ne.mpr c58
           have H' := Aside0.mk H
           clear H
           have hnb64 := NB500_488.out
           have hnc64 := NB488_500.out
           have hnb65 := NB500_489.out
           have hnc65 := NB489_500.out
           have hnb66 := NB500_511.out
           have hnc66 := NB511_500.out
           obtain ⟨hcz67_0, hcz67_1, hcz67_2, hcz67_3, hcz67_4, hcz67_5⟩ := bk6_ BK500.out
           obtain ⟨hfz67_0, hfz67_1, hfz67_2, hfz67_3, hfz67_4, hfz67_5⟩ := bf6_ BK500.out
           try go_wp2
           have z_ := p_ (Kd.R_drew HO_489004.out) <| p_ (Kd.R_drew HO_489005.out) <| p_ (Kd.R_drew HO_501004.out) <| p_ (Kd.R_drew HO_501005.out) <| p_ (Kd.R_drew HO_512004.out) <| p_ (Kd.R_drew HO_512005.out) <| p_ (blk_drew BK488.out) <| p_ (blk_drew BK489.out) <| p_ (blk_drew BK500.out) <| p_ (blk_drew BK511.out) <| a_ (below_drew1 HB.out)
           clear HO_489004 HO_489005 HO_501004 HO_501005 HO_512004 HO_512005 BK488 BK489 BK500 BK511 HB
           obtain ⟨HO_489004, HO_489005, HO_501004, HO_501005, HO_512004, HO_512005, BK488, BK489, BK500, BK511, HB⟩ := z_
           have p534 : 0 ≤ (x8_4 : Int) := of_decide_eq_true tq_20
           have q534 : x8_4 < (t497.length : Int) := of_decide_eq_true tq_20
           obtain ⟨ad534, e534, hx534_0, hx534_1⟩ := at_T59 (Kd.R_reads' HO_501005.out).2.2 x8_4 p534 q534
           cases e534
           replace p534 := eq_true p534
           replace q534 := eq_true q534
           refine start_ (n := 9) (S := fun w' => w'.cell? ⟨gb500, 0, none⟩ = some (.int .i64 t490) ∧ w'.cell? ⟨gb500, 1, none⟩ = some (.int .i64 t491) ∧ w'.cell? ⟨gb500, 2, none⟩ = some (.int .i64 t492) ∧ w'.cell? ⟨gb500, 3, none⟩ = some (.string t493) ∧ w'.cell? ⟨gb500, 4, none⟩ = some (.slice Ao22 t494.length co22) ∧ w'.cell? ⟨gb500, 5, none⟩ = some (.slice (some ad534) t497.length co23) ∧ w'.cell? ⟨gb489, 0, none⟩ = some (.int .i64 t486) ∧ w'.cell? ⟨gb489, 1, none⟩ = some (.string t487) ∧ w'.cell? (ad534.add ((x8_4).toNat * 2)) = some (.int .i64 ((rd_T59 t497 x8_4).f0)) ∧ w'.cell? ⟨(ad534.add ((x8_4).toNat * 2)).block, (ad534.add ((x8_4).toNat * 2)).off + 1, none⟩ = some (.string ((rd_T59 t497 x8_4).f1))) (ds := []) bq_2 (by kernel_rfl) rfl rfl (bc6_ BK500.out (bc2_ BK489.out ⟨hx534_0, hx534_1⟩)) (fun hHeld => ?_); refine with_tabW laws_FnEntries.tab12 laws_FnEntries.bits12 (fun HT_ HW_ => ?_)
           generalize wr.drew = w68 at HO_489004 HO_489005 HO_501004 HO_501005 HO_512004 HO_512005 BK488 BK489 BK500 BK511 HB hx534_0 hx534_1 hHeld ⊢
           refine yq_ (i := 0) (N := some 46) bq_3 (any_of HT_.out (by kernel_rfl)) ?_
           refine yq_ (i := 2) (N := some 48) bq_5 (any_of HT_.out (by kernel_rfl)) ?_
           refine yq_ (i := 6) (N := some 52) bq_6 (any_of HT_.out (by kernel_rfl)) ?_
           refine tk_ (i := 1) (N := some 47) bq_7 (take_ofW HT_.out HW_.out (by kernel_rfl)) hHeld ?_
           refine yq_ (i := 3) (N := some 49) bq_8 (any_of HT_.out (by kernel_rfl)) ?_
           refine yq_ (i := 4) (N := some 50) bq_9 (any_of HT_.out (by kernel_rfl)) ?_
           refine tk_ (i := 5) (N := some 51) bq_1 (take_ofW HT_.out HW_.out (by kernel_rfl)) hHeld ?_
           refine tk_ (i := 7) (N := some 53) bq_0 (take_ofW HT_.out HW_.out (by kernel_rfl)) hHeld ?_
           refine yq_ (i := 8) (N := some 54) bq_4 (any_of HT_.out (by kernel_rfl)) ?_
           refine done_ (done_of HT_.out (by kernel_rfl)) ?_
           try go_wp2
           go_roundg k4
           case measure => have := HJ2.out; have := HJ7.out; have := HJ53.out; have := HK4.out; omega
           case rel => exact ⟨(x7_4), (wrap64 (x8_4 + 1)), tq_36, tq_36, H', ⟨(by have := HJ2.out; have := HJ7.out; have := HJ53.out; have := HK4.out; omega)⟩, ⟨tq_74⟩, ⟨tq_73⟩, ⟨tq_72⟩, ⟨tq_71⟩, ⟨tq_70⟩, ⟨tq_69⟩, ⟨tq_16⟩, ⟨tq_15⟩, ⟨tq_21⟩, ⟨tq_25⟩, ⟨tq_2⟩⟩
          rw [if_pos c58] at H
          have c58b0 : (((rd_T59 t497 x8_4).f1).toList == t487.toList) = true := beq_iff_eq.mpr c58
          have c58b1 : (((rd_T59 t497 x8_4).f1).toList != t487.toList) = false := bne_eq_false_iff_eq.mpr c58
          clear c58
          have H' := Aside0.mk H
          clear H
          have hnb59 := NB500_488.out
          have hnc59 := NB488_500.out
          have hnb60 := NB500_489.out
          have hnc60 := NB489_500.out
          have hnb61 := NB500_511.out
          have hnc61 := NB511_500.out
          obtain ⟨hcz62_0, hcz62_1, hcz62_2, hcz62_3, hcz62_4, hcz62_5⟩ := bk6_ BK500.out
          obtain ⟨hfz62_0, hfz62_1, hfz62_2, hfz62_3, hfz62_4, hfz62_5⟩ := bf6_ BK500.out
          try go_wp2
          have z_ := p_ (Kd.R_drew HO_489004.out) <| p_ (Kd.R_drew HO_489005.out) <| p_ (Kd.R_drew HO_501004.out) <| p_ (Kd.R_drew HO_501005.out) <| p_ (Kd.R_drew HO_512004.out) <| p_ (Kd.R_drew HO_512005.out) <| p_ (blk_drew BK488.out) <| p_ (blk_drew BK489.out) <| p_ (blk_drew BK500.out) <| p_ (blk_drew BK511.out) <| a_ (below_drew1 HB.out)
          clear HO_489004 HO_489005 HO_501004 HO_501005 HO_512004 HO_512005 BK488 BK489 BK500 BK511 HB
          obtain ⟨HO_489004, HO_489005, HO_501004, HO_501005, HO_512004, HO_512005, BK488, BK489, BK500, BK511, HB⟩ := z_
          have p534 : 0 ≤ (x8_4 : Int) := of_decide_eq_true tq_20
          have q534 : x8_4 < (t497.length : Int) := of_decide_eq_true tq_20
          obtain ⟨ad534, e534, hx534_0, hx534_1⟩ := at_T59 (Kd.R_reads' HO_501005.out).2.2 x8_4 p534 q534
          cases e534
          replace p534 := eq_true p534
          replace q534 := eq_true q534
          refine start_ (n := 9) (S := fun w' => w'.cell? ⟨gb500, 0, none⟩ = some (.int .i64 t490) ∧ w'.cell? ⟨gb500, 1, none⟩ = some (.int .i64 t491) ∧ w'.cell? ⟨gb500, 2, none⟩ = some (.int .i64 t492) ∧ w'.cell? ⟨gb500, 3, none⟩ = some (.string t493) ∧ w'.cell? ⟨gb500, 4, none⟩ = some (.slice Ao22 t494.length co22) ∧ w'.cell? ⟨gb500, 5, none⟩ = some (.slice (some ad534) t497.length co23) ∧ w'.cell? ⟨gb489, 0, none⟩ = some (.int .i64 t486) ∧ w'.cell? ⟨gb489, 1, none⟩ = some (.string t487) ∧ w'.cell? (ad534.add ((x8_4).toNat * 2)) = some (.int .i64 ((rd_T59 t497 x8_4).f0)) ∧ w'.cell? ⟨(ad534.add ((x8_4).toNat * 2)).block, (ad534.add ((x8_4).toNat * 2)).off + 1, none⟩ = some (.string ((rd_T59 t497 x8_4).f1))) (ds := []) bq_2 (by kernel_rfl) rfl rfl (bc6_ BK500.out (bc2_ BK489.out ⟨hx534_0, hx534_1⟩)) (fun hHeld => ?_); refine with_tabW laws_FnEntries.tab12 laws_FnEntries.bits12 (fun HT_ HW_ => ?_)
          generalize wr.drew = w63 at HO_489004 HO_489005 HO_501004 HO_501005 HO_512004 HO_512005 BK488 BK489 BK500 BK511 HB hx534_0 hx534_1 hHeld ⊢
          refine yq_ (i := 0) (N := some 46) bq_3 (any_of HT_.out (by kernel_rfl)) ?_
          refine yq_ (i := 2) (N := some 48) bq_5 (any_of HT_.out (by kernel_rfl)) ?_
          refine yq_ (i := 6) (N := some 52) bq_6 (any_of HT_.out (by kernel_rfl)) ?_
          refine tk_ (i := 1) (N := some 47) bq_7 (take_ofW HT_.out HW_.out (by kernel_rfl)) hHeld ?_
          refine yq_ (i := 3) (N := some 49) bq_8 (any_of HT_.out (by kernel_rfl)) ?_
          refine yq_ (i := 4) (N := some 50) bq_9 (any_of HT_.out (by kernel_rfl)) ?_
          refine tk_ (i := 5) (N := some 51) bq_1 (take_ofW HT_.out HW_.out (by kernel_rfl)) hHeld ?_
          refine tk_ (i := 7) (N := some 53) bq_0 (take_ofW HT_.out HW_.out (by kernel_rfl)) hHeld ?_
          refine yq_ (i := 8) (N := some 54) bq_4 (any_of HT_.out (by kernel_rfl)) ?_
          refine done_ (done_of HT_.out (by kernel_rfl)) ?_
          try go_wp2
          go_roundg k4
          case measure => have := HJ2.out; have := HJ7.out; have := HJ53.out; have := HK4.out; omega
          case rel => exact ⟨(wrap64 (x7_4 + 1)), (wrap64 (x8_4 + 1)), tq_36, tq_36, H', ⟨(by have := HJ2.out; have := HJ7.out; have := HJ53.out; have := HK4.out; omega)⟩, ⟨tq_74⟩, ⟨tq_73⟩, ⟨tq_72⟩, ⟨tq_71⟩, ⟨tq_70⟩, ⟨tq_69⟩, ⟨tq_16⟩, ⟨tq_15⟩, ⟨tq_21⟩, ⟨tq_25⟩, ⟨tq_2⟩⟩
         rw [if_neg c56] at H
         have c56b0 := decide_eq_false c56
         clear c56
         replace H := Option.bind_eq_some_iff.mp H
         obtain ⟨⟨t535, t536, t539⟩, A690, H⟩ := H
         replace H : (if x7_4 = 1 then (if (t508.length : Int) = (wrap64 ((t497.length : Int) - 1)) then ((impl_FreeInode.f k4 t535 t536 t539).bind fun t543 => (some (t543 == 1))) else (some false)) else (some false)) = some r := H
         have A69 := Aside0.mk A690
         clear A690
         by_cases c70 : x7_4 = 1
         rotate_left
         ·rw [if_neg c70] at H
          have c70b0 : (x7_4 == 1) = false := beq_eq_false_iff_ne.mpr c70
          have c70b1 : (x7_4 != 1) = true := bne_iff_ne.mpr c70
          obtain rfl := Option.some.inj H
          have hnb108 := NB500_488.out
          have hnc108 := NB488_500.out
          have hnb109 := NB500_489.out
          have hnc109 := NB489_500.out
          have hnb110 := NB500_511.out
          have hnc110 := NB511_500.out
          obtain ⟨hcz111_0, hcz111_1, hcz111_2, hcz111_3, hcz111_4, hcz111_5⟩ := bk6_ BK500.out
          obtain ⟨hfz111_0, hfz111_1, hfz111_2, hfz111_3, hfz111_4, hfz111_5⟩ := bf6_ BK500.out
          go_wp2_with (first | ((with_reducible refine gate_callee (f := 40) rfl ?_); refine goesL_ (some 58) rfl rfl Try.func40 (by kernel_rfl) rfl #[.agg #[.int .i64 1, .int .i64 6, .int .i64 3, .int .i64 1]] rfl tq_0 ?_; (with_reducible refine (spec_PartNew.calls 1 6 3 1 t535 t536 t539 _ A69.out).mono ?_); rintro e w112 ⟨v537, v540, rfl, ho0, ho1, hb⟩; refine ⟨_, rfl, ?_⟩; have z_ := p_ (Kd.R_below tq_74 hb) <| p_ (Kd.R_below tq_73 hb) <| p_ (Kd.R_below tq_72 hb) <| p_ (Kd.R_below tq_71 hb) <| p_ (Kd.R_below tq_70 hb) <| p_ (Kd.R_below tq_69 hb) <| p_ (Kd.R_lower ho0 (below_size tq_2)) <| p_ (Kd.S_lower (Kd.S_newB (Kd.S_newB (Kd.S_newB (Kd.S_newB (Kd.S_new' (Kd.S_new' (Kd.S_new' (Kd.S_new' (Kd.S_new' (Kd.S_new' ho1 (Kd.R_lt tq_74)) (Kd.R_lt tq_73)) (Kd.R_lt tq_72)) (Kd.R_lt tq_71)) (Kd.R_lt tq_70)) (Kd.R_lt tq_69)) (g := gb488) (o := .cells #[.int .i64 t476, .int .i64 t477, .int .i64 t478, .string t479, .slice Ao14 t480.length co14, .slice Ao15 t483.length co15] 49 (0, 0)) tq_16) (g := gb489) (o := .cells #[.int .i64 t486, .string t487] 59 (0, 0)) tq_15) (g := gb500) (o := .cells #[.int .i64 t490, .int .i64 t491, .int .i64 t492, .string t493, .slice Ao22 t494.length co22, .slice Ao23 t497.length co23] 49 (0, 0)) tq_21) (g := gb511) (o := .cells #[.int .i64 t501, .int .i64 t502, .int .i64 t503, .string t504, .slice Ao31 t505.length co31, .slice Ao32 t508.length co32] 49 (0, 0)) tq_25) (below_size tq_2)) <| p_ (blk_below tq_16 hb) <| p_ (blk_below tq_15 hb) <| p_ (blk_below tq_21 hb) <| p_ (blk_below tq_25 hb) <| a_ (below_step tq_2 hb); clear HO_489004 HO_489005 HO_501004 HO_501005 HO_512004 HO_512005 BK488 BK489 BK500 BK511 HB; obtain ⟨HO_489004, HO_489005, HO_501004, HO_501005, HO_512004, HO_512005, HO538, HO541, BK488, BK489, BK500, BK511, HB⟩ := z_; (try clear hb); (try clear hb2); (try clear hk); (try clear hi); (try clear ho0); (try clear ho1)) | ((with_reducible refine gate_dst (N := 9) rfl ?_); (try (refine gate_guard (by rfl) ?_; dsimp only)); refine box_event ?hg (N := 9) ?hd (cs := #[.int .i64 0, .slice none 0 0, .slice none 0 0]) (t := 69) ?hr ?_; (case hd => rfl); (case hg => rfl); (case hr => first | (go_simp; done) | (go_simp; rfl)); intro gb542 hg w113 hbox hb; have z_ := p_ (Kd.R_below tq_74 hb) <| p_ (Kd.R_below tq_73 hb) <| p_ (Kd.R_below tq_72 hb) <| p_ (Kd.R_below tq_71 hb) <| p_ (Kd.R_below tq_70 hb) <| p_ (Kd.R_below tq_69 hb) <| p_ (Kd.R_below tq_203 hb) <| p_ (Kd.S_below tq_202 hb) <| p_ (blk_below tq_16 hb) <| p_ (blk_below tq_15 hb) <| p_ (blk_below tq_21 hb) <| p_ (blk_below tq_25 hb) <| p_ (below_step tq_2 hb) <| p_ (hbox) <| p_ (gb_ hg tq_2) <| p_ (gb_ hg tq_2) <| p_ (ltne_ hg (blk_lt tq_16)) <| p_ (gtne_ hg (blk_lt tq_16)) <| p_ (ltne_ hg (blk_lt tq_15)) <| p_ (gtne_ hg (blk_lt tq_15)) <| p_ (ltne_ hg (blk_lt tq_21)) <| p_ (gtne_ hg (blk_lt tq_21)) <| p_ (ltne_ hg (blk_lt tq_25)) <| a_ (gtne_ hg (blk_lt tq_25)); clear HO_489004 HO_489005 HO_501004 HO_501005 HO_512004 HO_512005 HO538 HO541 BK488 BK489 BK500 BK511 HB; obtain ⟨HO_489004, HO_489005, HO_501004, HO_501005, HO_512004, HO_512005, HO538, HO541, BK488, BK489, BK500, BK511, HB, BK542, GW542, GE542, NB488_542, NB542_488, NB489_542, NB542_489, NB500_542, NB542_500, NB511_542, NB542_511⟩ := z_; clear hb hbox hg; have hnb114 := NB542_488.out; have hnc114 := NB488_542.out; have hnb115 := NB542_489.out; have hnc115 := NB489_542.out; have hnb116 := NB542_500.out; have hnc116 := NB500_542.out; have hnb117 := NB542_511.out; have hnc117 := NB511_542.out; obtain ⟨hcz118_0, hcz118_1, hcz118_2⟩ := bk3_ BK542.out; obtain ⟨hfz118_0, hfz118_1, hfz118_2⟩ := bf3_ BK542.out; obtain ⟨Ao119, co119, eo119⟩ := Kd.R_slice HO538.out; subst eo119; obtain ⟨Ao120, co120, eo120⟩ := Kd.S_slice HO541.out; subst eo120))
          go_ret
          exact ⟨tq_11, tq_120⟩
         rw [if_pos c70] at H
         have c70b0 : (x7_4 == 1) = true := beq_iff_eq.mpr c70
         have c70b1 : (x7_4 != 1) = false := bne_eq_false_iff_eq.mpr c70
         clear c70
         by_cases c71 : (t508.length : Int) = (wrap64 ((t497.length : Int) - 1))
         rotate_left
         ·rw [if_neg c71] at H
          have c71b0 : ((t508.length : Int) == (wrap64 ((t497.length : Int) - 1))) = false := beq_eq_false_iff_ne.mpr c71
          have c71b1 : ((t508.length : Int) != (wrap64 ((t497.length : Int) - 1))) = true := bne_iff_ne.mpr c71
          obtain rfl := Option.some.inj H
          have hnb91 := NB500_488.out
          have hnc91 := NB488_500.out
          have hnb92 := NB500_489.out
          have hnc92 := NB489_500.out
          have hnb93 := NB500_511.out
          have hnc93 := NB511_500.out
          obtain ⟨hcz94_0, hcz94_1, hcz94_2, hcz94_3, hcz94_4, hcz94_5⟩ := bk6_ BK500.out
          obtain ⟨hfz94_0, hfz94_1, hfz94_2, hfz94_3, hfz94_4, hfz94_5⟩ := bf6_ BK500.out
          go_wp2_with (first | ((with_reducible refine gate_callee (f := 40) rfl ?_); refine goesL_ (some 58) rfl rfl Try.func40 (by kernel_rfl) rfl #[.agg #[.int .i64 1, .int .i64 6, .int .i64 3, .int .i64 1]] rfl tq_0 ?_; (with_reducible refine (spec_PartNew.calls 1 6 3 1 t535 t536 t539 _ A69.out).mono ?_); rintro e w95 ⟨v537, v540, rfl, ho0, ho1, hb⟩; refine ⟨_, rfl, ?_⟩; have z_ := p_ (Kd.R_below tq_74 hb) <| p_ (Kd.R_below tq_73 hb) <| p_ (Kd.R_below tq_72 hb) <| p_ (Kd.R_below tq_71 hb) <| p_ (Kd.R_below tq_70 hb) <| p_ (Kd.R_below tq_69 hb) <| p_ (Kd.R_lower ho0 (below_size tq_2)) <| p_ (Kd.S_lower (Kd.S_newB (Kd.S_newB (Kd.S_newB (Kd.S_newB (Kd.S_new' (Kd.S_new' (Kd.S_new' (Kd.S_new' (Kd.S_new' (Kd.S_new' ho1 (Kd.R_lt tq_74)) (Kd.R_lt tq_73)) (Kd.R_lt tq_72)) (Kd.R_lt tq_71)) (Kd.R_lt tq_70)) (Kd.R_lt tq_69)) (g := gb488) (o := .cells #[.int .i64 t476, .int .i64 t477, .int .i64 t478, .string t479, .slice Ao14 t480.length co14, .slice Ao15 t483.length co15] 49 (0, 0)) tq_16) (g := gb489) (o := .cells #[.int .i64 t486, .string t487] 59 (0, 0)) tq_15) (g := gb500) (o := .cells #[.int .i64 t490, .int .i64 t491, .int .i64 t492, .string t493, .slice Ao22 t494.length co22, .slice Ao23 t497.length co23] 49 (0, 0)) tq_21) (g := gb511) (o := .cells #[.int .i64 t501, .int .i64 t502, .int .i64 t503, .string t504, .slice Ao31 t505.length co31, .slice Ao32 t508.length co32] 49 (0, 0)) tq_25) (below_size tq_2)) <| p_ (blk_below tq_16 hb) <| p_ (blk_below tq_15 hb) <| p_ (blk_below tq_21 hb) <| p_ (blk_below tq_25 hb) <| a_ (below_step tq_2 hb); clear HO_489004 HO_489005 HO_501004 HO_501005 HO_512004 HO_512005 BK488 BK489 BK500 BK511 HB; obtain ⟨HO_489004, HO_489005, HO_501004, HO_501005, HO_512004, HO_512005, HO538, HO541, BK488, BK489, BK500, BK511, HB⟩ := z_; (try clear hb); (try clear hb2); (try clear hk); (try clear hi); (try clear ho0); (try clear ho1)) | ((with_reducible refine gate_dst (N := 9) rfl ?_); (try (refine gate_guard (by rfl) ?_; dsimp only)); refine box_event ?hg (N := 9) ?hd (cs := #[.int .i64 0, .slice none 0 0, .slice none 0 0]) (t := 69) ?hr ?_; (case hd => rfl); (case hg => rfl); (case hr => first | (go_simp; done) | (go_simp; rfl)); intro gb542 hg w96 hbox hb; have z_ := p_ (Kd.R_below tq_74 hb) <| p_ (Kd.R_below tq_73 hb) <| p_ (Kd.R_below tq_72 hb) <| p_ (Kd.R_below tq_71 hb) <| p_ (Kd.R_below tq_70 hb) <| p_ (Kd.R_below tq_69 hb) <| p_ (Kd.R_below tq_203 hb) <| p_ (Kd.S_below tq_202 hb) <| p_ (blk_below tq_16 hb) <| p_ (blk_below tq_15 hb) <| p_ (blk_below tq_21 hb) <| p_ (blk_below tq_25 hb) <| p_ (below_step tq_2 hb) <| p_ (hbox) <| p_ (gb_ hg tq_2) <| p_ (gb_ hg tq_2) <| p_ (ltne_ hg (blk_lt tq_16)) <| p_ (gtne_ hg (blk_lt tq_16)) <| p_ (ltne_ hg (blk_lt tq_15)) <| p_ (gtne_ hg (blk_lt tq_15)) <| p_ (ltne_ hg (blk_lt tq_21)) <| p_ (gtne_ hg (blk_lt tq_21)) <| p_ (ltne_ hg (blk_lt tq_25)) <| a_ (gtne_ hg (blk_lt tq_25)); clear HO_489004 HO_489005 HO_501004 HO_501005 HO_512004 HO_512005 HO538 HO541 BK488 BK489 BK500 BK511 HB; obtain ⟨HO_489004, HO_489005, HO_501004, HO_501005, HO_512004, HO_512005, HO538, HO541, BK488, BK489, BK500, BK511, HB, BK542, GW542, GE542, NB488_542, NB542_488, NB489_542, NB542_489, NB500_542, NB542_500, NB511_542, NB542_511⟩ := z_; clear hb hbox hg; have hnb97 := NB542_488.out; have hnc97 := NB488_542.out; have hnb98 := NB542_489.out; have hnc98 := NB489_542.out; have hnb99 := NB542_500.out; have hnc99 := NB500_542.out; have hnb100 := NB542_511.out; have hnc100 := NB511_542.out; obtain ⟨hcz101_0, hcz101_1, hcz101_2⟩ := bk3_ BK542.out; obtain ⟨hfz101_0, hfz101_1, hfz101_2⟩ := bf3_ BK542.out; obtain ⟨Ao102, co102, eo102⟩ := Kd.R_slice HO538.out; subst eo102; obtain ⟨Ao103, co103, eo103⟩ := Kd.S_slice HO541.out; subst eo103; have hnb104 := NB511_488.out; have hnc104 := NB488_511.out; have hnb105 := NB511_489.out; have hnc105 := NB489_511.out; obtain ⟨hcz106_0, hcz106_1, hcz106_2, hcz106_3, hcz106_4, hcz106_5⟩ := bk6_ BK511.out; obtain ⟨hfz106_0, hfz106_1, hfz106_2, hfz106_3, hfz106_4, hfz106_5⟩ := bf6_ BK511.out; obtain ⟨hcz107_0, hcz107_1, hcz107_2, hcz107_3, hcz107_4, hcz107_5⟩ := bk6_ BK500.out; obtain ⟨hfz107_0, hfz107_1, hfz107_2, hfz107_3, hfz107_4, hfz107_5⟩ := bf6_ BK500.out))
          go_ret
          exact ⟨tq_11, tq_120⟩
         rw [if_pos c71] at H
         have c71b0 : ((t508.length : Int) == (wrap64 ((t497.length : Int) - 1))) = true := beq_iff_eq.mpr c71
         have c71b1 : ((t508.length : Int) != (wrap64 ((t497.length : Int) - 1))) = false := bne_eq_false_iff_eq.mpr c71
         clear c71
         replace H := Option.bind_eq_some_iff.mp H
         obtain ⟨t543, A720, H⟩ := H
         replace H : (some (t543 == 1)) = some r := H
         have A72 := Aside0.mk A720
         clear A720
         obtain rfl := Option.some.inj H
         have hnb73 := NB500_488.out
         have hnc73 := NB488_500.out
         have hnb74 := NB500_489.out
         have hnc74 := NB489_500.out
         have hnb75 := NB500_511.out
         have hnc75 := NB511_500.out
         obtain ⟨hcz76_0, hcz76_1, hcz76_2, hcz76_3, hcz76_4, hcz76_5⟩ := bk6_ BK500.out
         obtain ⟨hfz76_0, hfz76_1, hfz76_2, hfz76_3, hfz76_4, hfz76_5⟩ := bf6_ BK500.out
         go_wp2_with (first | ((with_reducible refine gate_callee (f := 40) rfl ?_); refine goesL_ (some 58) rfl rfl Try.func40 (by kernel_rfl) rfl #[.agg #[.int .i64 1, .int .i64 6, .int .i64 3, .int .i64 1]] rfl tq_0 ?_; (with_reducible refine (spec_PartNew.calls 1 6 3 1 t535 t536 t539 _ A69.out).mono ?_); rintro e w77 ⟨v537, v540, rfl, ho0, ho1, hb⟩; refine ⟨_, rfl, ?_⟩; have z_ := p_ (Kd.R_below tq_74 hb) <| p_ (Kd.R_below tq_73 hb) <| p_ (Kd.R_below tq_72 hb) <| p_ (Kd.R_below tq_71 hb) <| p_ (Kd.R_below tq_70 hb) <| p_ (Kd.R_below tq_69 hb) <| p_ (Kd.R_lower ho0 (below_size tq_2)) <| p_ (Kd.S_lower (Kd.S_newB (Kd.S_newB (Kd.S_newB (Kd.S_newB (Kd.S_new' (Kd.S_new' (Kd.S_new' (Kd.S_new' (Kd.S_new' (Kd.S_new' ho1 (Kd.R_lt tq_74)) (Kd.R_lt tq_73)) (Kd.R_lt tq_72)) (Kd.R_lt tq_71)) (Kd.R_lt tq_70)) (Kd.R_lt tq_69)) (g := gb488) (o := .cells #[.int .i64 t476, .int .i64 t477, .int .i64 t478, .string t479, .slice Ao14 t480.length co14, .slice Ao15 t483.length co15] 49 (0, 0)) tq_16) (g := gb489) (o := .cells #[.int .i64 t486, .string t487] 59 (0, 0)) tq_15) (g := gb500) (o := .cells #[.int .i64 t490, .int .i64 t491, .int .i64 t492, .string t493, .slice Ao22 t494.length co22, .slice Ao23 t497.length co23] 49 (0, 0)) tq_21) (g := gb511) (o := .cells #[.int .i64 t501, .int .i64 t502, .int .i64 t503, .string t504, .slice Ao31 t505.length co31, .slice Ao32 t508.length co32] 49 (0, 0)) tq_25) (below_size tq_2)) <| p_ (blk_below tq_16 hb) <| p_ (blk_below tq_15 hb) <| p_ (blk_below tq_21 hb) <| p_ (blk_below tq_25 hb) <| a_ (below_step tq_2 hb); clear HO_489004 HO_489005 HO_501004 HO_501005 HO_512004 HO_512005 BK488 BK489 BK500 BK511 HB; obtain ⟨HO_489004, HO_489005, HO_501004, HO_501005, HO_512004, HO_512005, HO538, HO541, BK488, BK489, BK500, BK511, HB⟩ := z_; (try clear hb); (try clear hb2); (try clear hk); (try clear hi); (try clear ho0); (try clear ho1)) | ((with_reducible refine gate_dst (N := 9) rfl ?_); (try (refine gate_guard (by rfl) ?_; dsimp only)); refine box_event ?hg (N := 9) ?hd (cs := #[.int .i64 0, .slice none 0 0, .slice none 0 0]) (t := 69) ?hr ?_; (case hd => rfl); (case hg => rfl); (case hr => first | (go_simp; done) | (go_simp; rfl)); intro gb542 hg w78 hbox hb; have z_ := p_ (Kd.R_below tq_74 hb) <| p_ (Kd.R_below tq_73 hb) <| p_ (Kd.R_below tq_72 hb) <| p_ (Kd.R_below tq_71 hb) <| p_ (Kd.R_below tq_70 hb) <| p_ (Kd.R_below tq_69 hb) <| p_ (Kd.R_below tq_203 hb) <| p_ (Kd.S_below tq_202 hb) <| p_ (blk_below tq_16 hb) <| p_ (blk_below tq_15 hb) <| p_ (blk_below tq_21 hb) <| p_ (blk_below tq_25 hb) <| p_ (below_step tq_2 hb) <| p_ (hbox) <| p_ (gb_ hg tq_2) <| p_ (gb_ hg tq_2) <| p_ (ltne_ hg (blk_lt tq_16)) <| p_ (gtne_ hg (blk_lt tq_16)) <| p_ (ltne_ hg (blk_lt tq_15)) <| p_ (gtne_ hg (blk_lt tq_15)) <| p_ (ltne_ hg (blk_lt tq_21)) <| p_ (gtne_ hg (blk_lt tq_21)) <| p_ (ltne_ hg (blk_lt tq_25)) <| a_ (gtne_ hg (blk_lt tq_25)); clear HO_489004 HO_489005 HO_501004 HO_501005 HO_512004 HO_512005 HO538 HO541 BK488 BK489 BK500 BK511 HB; obtain ⟨HO_489004, HO_489005, HO_501004, HO_501005, HO_512004, HO_512005, HO538, HO541, BK488, BK489, BK500, BK511, HB, BK542, GW542, GE542, NB488_542, NB542_488, NB489_542, NB542_489, NB500_542, NB542_500, NB511_542, NB542_511⟩ := z_; clear hb hbox hg; have hnb79 := NB542_488.out; have hnc79 := NB488_542.out; have hnb80 := NB542_489.out; have hnc80 := NB489_542.out; have hnb81 := NB542_500.out; have hnc81 := NB500_542.out; have hnb82 := NB542_511.out; have hnc82 := NB511_542.out; obtain ⟨hcz83_0, hcz83_1, hcz83_2⟩ := bk3_ BK542.out; obtain ⟨hfz83_0, hfz83_1, hfz83_2⟩ := bf3_ BK542.out; obtain ⟨Ao84, co84, eo84⟩ := Kd.R_slice HO538.out; subst eo84; obtain ⟨Ao85, co85, eo85⟩ := Kd.S_slice HO541.out; subst eo85; have hnb86 := NB511_488.out; have hnc86 := NB488_511.out; have hnb87 := NB511_489.out; have hnc87 := NB489_511.out; obtain ⟨hcz88_0, hcz88_1, hcz88_2, hcz88_3, hcz88_4, hcz88_5⟩ := bk6_ BK511.out; obtain ⟨hfz88_0, hfz88_1, hfz88_2, hfz88_3, hfz88_4, hfz88_5⟩ := bf6_ BK511.out; obtain ⟨hcz89_0, hcz89_1, hcz89_2, hcz89_3, hcz89_4, hcz89_5⟩ := bk6_ BK500.out; obtain ⟨hfz89_0, hfz89_1, hfz89_2, hfz89_3, hfz89_4, hfz89_5⟩ := bf6_ BK500.out) | (go_at_call 41; (with_reducible refine (impl_FreeInode.calls k4 t535 _ _ t536 _ _ t539 t543 _ ?side1 ?side2 ?side3 ?side4 A72.out).mono ?_); (case side1 => refine (Kd.R_reads' (e := 3) (base := w.heap.size) (ok := fun k_ => True) (n := t536.length) (c := co84) ?_).2.2; exact tq_166); (case side2 => exact (Kd.R_reads' HO538.out).2.1); (case side3 => refine (Kd.S_reads' (e := 49) (base := w.heap.size) (ok := fun k_ => ((((((((((True ∧ some k_ ≠ (.slice Ao14 t480.length co14 : Value).ownBlock) ∧ some k_ ≠ (.slice Ao15 t483.length co15 : Value).ownBlock) ∧ some k_ ≠ (.slice Ao22 t494.length co22 : Value).ownBlock) ∧ some k_ ≠ (.slice Ao23 t497.length co23 : Value).ownBlock) ∧ some k_ ≠ (.slice Ao31 t505.length co31 : Value).ownBlock) ∧ some k_ ≠ (.slice Ao32 t508.length co32 : Value).ownBlock) ∧ k_ ≠ gb488) ∧ k_ ≠ gb489) ∧ k_ ≠ gb500) ∧ k_ ≠ gb511)) (n := t539.length) (c := co85) ?_).2.2; exact tq_165); (case side4 => exact (Kd.S_reads' HO541.out).2.1); rintro e w90 ⟨rfl, hb⟩; have z_ := p_ (Kd.R_below (by (with_reducible repeat (first | apply Kd.R_alloc | apply Kd.R_drewN | apply Kd.R_drew)); exact (Kd.R_mono (Kd.R_far (p := ⟨gb542, 2, none⟩) (Kd.R_far (p := ⟨gb542, 1, none⟩) (Kd.R_far (p := ⟨gb542, 0, none⟩) (Kd.R_types HO_489004.out BK542.out (by decide)) (fun _ hk => hk.2) (.int .i64 t535)) (fun _ hk => hk.2) (.slice Ao84 t536.length co84)) (fun _ hk => hk.2) (.slice Ao85 t539.length co85)) (fun _ h_ => h_.1))) hb) <| p_ (Kd.R_below (by (with_reducible repeat (first | apply Kd.R_alloc | apply Kd.R_drewN | apply Kd.R_drew)); exact (Kd.R_mono (Kd.R_far (p := ⟨gb542, 2, none⟩) (Kd.R_far (p := ⟨gb542, 1, none⟩) (Kd.R_far (p := ⟨gb542, 0, none⟩) (Kd.R_types HO_489005.out BK542.out (by decide)) (fun _ hk => hk.2) (.int .i64 t535)) (fun _ hk => hk.2) (.slice Ao84 t536.length co84)) (fun _ hk => hk.2) (.slice Ao85 t539.length co85)) (fun _ h_ => h_.1))) hb) <| p_ (Kd.R_below (by (with_reducible repeat (first | apply Kd.R_alloc | apply Kd.R_drewN | apply Kd.R_drew)); exact (Kd.R_mono (Kd.R_far (p := ⟨gb542, 2, none⟩) (Kd.R_far (p := ⟨gb542, 1, none⟩) (Kd.R_far (p := ⟨gb542, 0, none⟩) (Kd.R_types HO_501004.out BK542.out (by decide)) (fun _ hk => hk.2) (.int .i64 t535)) (fun _ hk => hk.2) (.slice Ao84 t536.length co84)) (fun _ hk => hk.2) (.slice Ao85 t539.length co85)) (fun _ h_ => h_.1))) hb) <| p_ (Kd.R_below (by (with_reducible repeat (first | apply Kd.R_alloc | apply Kd.R_drewN | apply Kd.R_drew)); exact (Kd.R_mono (Kd.R_far (p := ⟨gb542, 2, none⟩) (Kd.R_far (p := ⟨gb542, 1, none⟩) (Kd.R_far (p := ⟨gb542, 0, none⟩) (Kd.R_types HO_501005.out BK542.out (by decide)) (fun _ hk => hk.2) (.int .i64 t535)) (fun _ hk => hk.2) (.slice Ao84 t536.length co84)) (fun _ hk => hk.2) (.slice Ao85 t539.length co85)) (fun _ h_ => h_.1))) hb) <| p_ (Kd.R_below (by (with_reducible repeat (first | apply Kd.R_alloc | apply Kd.R_drewN | apply Kd.R_drew)); exact (Kd.R_mono (Kd.R_far (p := ⟨gb542, 2, none⟩) (Kd.R_far (p := ⟨gb542, 1, none⟩) (Kd.R_far (p := ⟨gb542, 0, none⟩) (Kd.R_types HO_512004.out BK542.out (by decide)) (fun _ hk => hk.2) (.int .i64 t535)) (fun _ hk => hk.2) (.slice Ao84 t536.length co84)) (fun _ hk => hk.2) (.slice Ao85 t539.length co85)) (fun _ h_ => h_.1))) hb) <| p_ (Kd.R_below (by (with_reducible repeat (first | apply Kd.R_alloc | apply Kd.R_drewN | apply Kd.R_drew)); exact (Kd.R_mono (Kd.R_far (p := ⟨gb542, 2, none⟩) (Kd.R_far (p := ⟨gb542, 1, none⟩) (Kd.R_far (p := ⟨gb542, 0, none⟩) (Kd.R_types HO_512005.out BK542.out (by decide)) (fun _ hk => hk.2) (.int .i64 t535)) (fun _ hk => hk.2) (.slice Ao84 t536.length co84)) (fun _ hk => hk.2) (.slice Ao85 t539.length co85)) (fun _ h_ => h_.1))) hb) <| p_ (Kd.R_below tq_166 hb) <| p_ (Kd.S_below tq_165 hb) <| p_ (blk_below (g := gb488) (o := .cells #[.int .i64 t476, .int .i64 t477, .int .i64 t478, .string t479, .slice Ao14 t480.length co14, .slice Ao15 t483.length co15] 49 (0, 0)) (by (with_reducible repeat (first | refine blk_drewN ?_ _ | refine blk_drew ?_ | refine blk_alloc ?_ _)); refine blk_far ?_ NB488_542.out _; (with_reducible repeat (first | refine blk_drewN ?_ _ | refine blk_drew ?_ | refine blk_alloc ?_ _)); refine blk_far ?_ NB488_542.out _; (with_reducible repeat (first | refine blk_drewN ?_ _ | refine blk_drew ?_ | refine blk_alloc ?_ _)); refine blk_far ?_ NB488_542.out _; (with_reducible repeat (first | refine blk_drewN ?_ _ | refine blk_drew ?_ | refine blk_alloc ?_ _)); exact BK488.out) hb) <| p_ (blk_below (g := gb489) (o := .cells #[.int .i64 t486, .string t487] 59 (0, 0)) (by (with_reducible repeat (first | refine blk_drewN ?_ _ | refine blk_drew ?_ | refine blk_alloc ?_ _)); refine blk_far ?_ NB489_542.out _; (with_reducible repeat (first | refine blk_drewN ?_ _ | refine blk_drew ?_ | refine blk_alloc ?_ _)); refine blk_far ?_ NB489_542.out _; (with_reducible repeat (first | refine blk_drewN ?_ _ | refine blk_drew ?_ | refine blk_alloc ?_ _)); refine blk_far ?_ NB489_542.out _; (with_reducible repeat (first | refine blk_drewN ?_ _ | refine blk_drew ?_ | refine blk_alloc ?_ _)); exact BK489.out) hb) <| p_ (blk_below (g := gb500) (o := .cells #[.int .i64 t490, .int .i64 t491, .int .i64 t492, .string t493, .slice Ao22 t494.length co22, .slice Ao23 t497.length co23] 49 (0, 0)) (by (with_reducible repeat (first | refine blk_drewN ?_ _ | refine blk_drew ?_ | refine blk_alloc ?_ _)); refine blk_far ?_ NB500_542.out _; (with_reducible repeat (first | refine blk_drewN ?_ _ | refine blk_drew ?_ | refine blk_alloc ?_ _)); refine blk_far ?_ NB500_542.out _; (with_reducible repeat (first | refine blk_drewN ?_ _ | refine blk_drew ?_ | refine blk_alloc ?_ _)); refine blk_far ?_ NB500_542.out _; (with_reducible repeat (first | refine blk_drewN ?_ _ | refine blk_drew ?_ | refine blk_alloc ?_ _)); exact BK500.out) hb) <| p_ (blk_below (g := gb511) (o := .cells #[.int .i64 t501, .int .i64 t502, .int .i64 t503, .string t504, .slice Ao31 t505.length co31, .slice Ao32 t508.length co32] 49 (0, 0)) (by (with_reducible repeat (first | refine blk_drewN ?_ _ | refine blk_drew ?_ | refine blk_alloc ?_ _)); refine blk_far ?_ NB511_542.out _; (with_reducible repeat (first | refine blk_drewN ?_ _ | refine blk_drew ?_ | refine blk_alloc ?_ _)); refine blk_far ?_ NB511_542.out _; (with_reducible repeat (first | refine blk_drewN ?_ _ | refine blk_drew ?_ | refine blk_alloc ?_ _)); refine blk_far ?_ NB511_542.out _; (with_reducible repeat (first | refine blk_drewN ?_ _ | refine blk_drew ?_ | refine blk_alloc ?_ _)); exact BK511.out) hb) <| p_ (blk_below (g := gb542) (o := .cells #[.int .i64 t535, .slice Ao84 t536.length co84, .slice Ao85 t539.length co85] 69 (0, 0)) (by (with_reducible repeat (first | refine blk_drewN ?_ _ | refine blk_drew ?_ | refine blk_alloc ?_ _)); refine blk_put (cs := #[.int .i64 t535, .slice Ao84 t536.length co84, .slice none 0 0]) ?_ 2 _ rfl; (with_reducible repeat (first | refine blk_drewN ?_ _ | refine blk_drew ?_ | refine blk_alloc ?_ _)); refine blk_put (cs := #[.int .i64 t535, .slice none 0 0, .slice none 0 0]) ?_ 1 _ rfl; (with_reducible repeat (first | refine blk_drewN ?_ _ | refine blk_drew ?_ | refine blk_alloc ?_ _)); refine blk_put (cs := #[.int .i64 0, .slice none 0 0, .slice none 0 0]) ?_ 0 _ rfl; (with_reducible repeat (first | refine blk_drewN ?_ _ | refine blk_drew ?_ | refine blk_alloc ?_ _)); exact BK542.out) hb) <| a_ (below_step tq_120 hb); clear HO_489004 HO_489005 HO_501004 HO_501005 HO_512004 HO_512005 HO538 HO541 BK488 BK489 BK500 BK511 BK542 HB; obtain ⟨HO_489004, HO_489005, HO_501004, HO_501005, HO_512004, HO_512005, HO538, HO541, BK488, BK489, BK500, BK511, BK542, HB⟩ := z_; (try clear hb); (try clear hb2); (try clear hk); (try clear hi)))
         go_ret
         exact ⟨tq_11, tq_120⟩


end Go.Proofs.Ytcdnfkoahajhhaa.PFnEntries
