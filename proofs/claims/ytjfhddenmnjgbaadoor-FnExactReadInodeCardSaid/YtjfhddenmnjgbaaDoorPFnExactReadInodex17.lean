/- Contracts of Go functions, written by a program of ours over the print of the kit: each says that the call returns what the Lean function beside it computes. Conditions: as each theorem states them. -/
import Derived.Test.YtjfhddenmnjgbaaDoorPkFnExactReadInode
import Derived.Test.YtjfhddenmnjgbaaDoorPFnExactReadInodex0
import Derived.Test.YtjfhddenmnjgbaaDoorPFnExactReadInodex1
import Derived.Test.YtjfhddenmnjgbaaDoorPFnExactReadInodex6
import Derived.Test.YtjfhddenmnjgbaaDoorPFnExactReadInodex7
import Derived.Test.YtjfhddenmnjgbaaDoorPFnExactReadInodex13
import Derived.Test.YtjfhddenmnjgbaaDoorPFnExactReadInodex15
import Derived.Test.YtjfhddenmnjgbaaDoorPFnExactReadInodex16
namespace Go.Proofs.YtjfhddenmnjgbaaDoor.PFnExactReadInode
open Go.RowKit Go.Proofs.YtjfhddenmnjgbaaDoorW.PrintWords Go.Proofs.YtjfhddenmnjgbaaDoorW.PrintLast Go.Proofs.YtjfhddenmnjgbaaDoorW.PrintMore
attribute [local go_sem] max2_int min2_int max_two min_two max_three min_three max_four min_four setCell_drewN   -- for this text's walks alone
set_option linter.unusedVariables false
set_option linter.unusedSimpArgs false

/-! ### laws_FnExactReadInode: function 3 -/
mutual
def laws_FnExactReadInode.j0 : Nat → List ByteArray → Option (Bool)
 | 0, _ => none
 | k + 1, x0 => (laws_toStringS.f k x0).bind fun t384 => ((spec_ReadInode.f k t384).bind fun bt387 => ((laws_toStringS.f k x0).bind fun t399 => ((impl_ReadInode.f k t399).bind fun bt402 => ((laws_eqInode.f k bt402.1 bt402.2.1 bt402.2.2.1 bt402.2.2.2.1 bt402.2.2.2.2.1 bt402.2.2.2.2.2.1 bt387.1 bt387.2.1 bt387.2.2.1 bt387.2.2.2.1 bt387.2.2.2.2.1 bt387.2.2.2.2.2.1).bind fun t414 => (if t414 = true then (laws_FnExactReadInode.j1 k x0 bt387.2.2.2.2.2.2 t399 bt402.2.2.2.2.2.2 (bt402.2.2.2.2.2.2 != bt387.2.2.2.2.2.2) bt387.1 bt387.2.1 bt387.2.2.1 bt387.2.2.2.1 bt387.2.2.2.2.1 bt387.2.2.2.2.2.1 bt402.1 bt402.2.1 bt402.2.2.1 bt402.2.2.2.1 bt402.2.2.2.2.1 bt402.2.2.2.2.2.1) else (laws_FnExactReadInode.j1 k x0 bt387.2.2.2.2.2.2 t399 bt402.2.2.2.2.2.2 true bt387.1 bt387.2.1 bt387.2.2.1 bt387.2.2.2.1 bt387.2.2.2.2.1 bt387.2.2.2.2.2.1 bt402.1 bt402.2.1 bt402.2.2.1 bt402.2.2.2.1 bt402.2.2.2.2.1 bt402.2.2.2.2.2.1))))))
def laws_FnExactReadInode.j1 : Nat → List ByteArray → Bool → List ByteArray → Bool → Bool → Int → Int → Int → ByteArray → List (S42) → List (S47) → Int → Int → Int → ByteArray → List (S42) → List (S47) → Option (Bool)
 | 0, _, _, _, _, _, _, _, _, _, _, _, _, _, _, _, _, _ => none
 | k + 1, x0, x5, x6, x8, x40, x399000, x399001, x399002, x399003, x399004, x399005, x414000, x414001, x414002, x414003, x414004, x414005 => if x40 = true then (some false) else (laws_FnExactReadInode.j2 k x0 x5 x6 x8 x399000 x399001 x399002 x399003 x399004 x399005 x414000 x414001 x414002 x414003 x414004 x414005)
def laws_FnExactReadInode.j2 : Nat → List ByteArray → Bool → List ByteArray → Bool → Int → Int → Int → ByteArray → List (S42) → List (S47) → Int → Int → Int → ByteArray → List (S42) → List (S47) → Option (Bool)
 | 0, _, _, _, _, _, _, _, _, _, _, _, _, _, _, _, _ => none
 | k + 1, x0, x5, x6, x8, x399000, x399001, x399002, x399003, x399004, x399005, x414000, x414001, x414002, x414003, x414004, x414005 => (laws_toStringS.f k x0).bind fun t415 => ((laws_eqStringS.f k x6 t415).bind fun t418 => (if t418 = true then (laws_FnExactReadInode.j3 k x0 x5 x6 x8 x399000 x399001 x399002 x399003 x399004 x399005 x414000 x414001 x414002 x414003 x414004 x414005) else (some false)))
def laws_FnExactReadInode.j3 : Nat → List ByteArray → Bool → List ByteArray → Bool → Int → Int → Int → ByteArray → List (S42) → List (S47) → Int → Int → Int → ByteArray → List (S42) → List (S47) → Option (Bool)
 | 0, _, _, _, _, _, _, _, _, _, _, _, _, _, _, _, _ => none
 | k + 1, x0, x5, x6, x8, x399000, x399001, x399002, x399003, x399004, x399005, x414000, x414001, x414002, x414003, x414004, x414005 => (laws_markStringS.f k x6 1).bind fun bt419 => (if bt419.1 < 0 then (laws_FnExactReadInode.j4 k x0 x5 true x399000 x399001 x399002 x399003 x399004 x399005 x414000 x414001 x414002 x414003 x414004 x414005) else ((laws_eqInode.f k x414000 x414001 x414002 x414003 x414004 x414005 x399000 x399001 x399002 x399003 x399004 x399005).bind fun t421 => (if t421 = true then (laws_FnExactReadInode.j4 k x0 x5 (x8 != x5) x399000 x399001 x399002 x399003 x399004 x399005 x414000 x414001 x414002 x414003 x414004 x414005) else (laws_FnExactReadInode.j4 k x0 x5 true x399000 x399001 x399002 x399003 x399004 x399005 x414000 x414001 x414002 x414003 x414004 x414005))))
def laws_FnExactReadInode.j4 : Nat → List ByteArray → Bool → Bool → Int → Int → Int → ByteArray → List (S42) → List (S47) → Int → Int → Int → ByteArray → List (S42) → List (S47) → Option (Bool)
 | 0, _, _, _, _, _, _, _, _, _, _, _, _, _, _, _ => none
 | k + 1, x0, x5, x61, x399000, x399001, x399002, x399003, x399004, x399005, x414000, x414001, x414002, x414003, x414004, x414005 => if x61 = true then (some false) else (laws_FnExactReadInode.j5 k x0 x5 x399000 x399001 x399002 x399003 x399004 x399005 x414000 x414001 x414002 x414003 x414004 x414005)
def laws_FnExactReadInode.j5 : Nat → List ByteArray → Bool → Int → Int → Int → ByteArray → List (S42) → List (S47) → Int → Int → Int → ByteArray → List (S42) → List (S47) → Option (Bool)
 | 0, _, _, _, _, _, _, _, _, _, _, _, _, _, _ => none
 | k + 1, x0, x5, x399000, x399001, x399002, x399003, x399004, x399005, x414000, x414001, x414002, x414003, x414004, x414005 => (laws_markInode.f k x414000 x414001 x414002 x414003 x414004 x414005 1).bind fun bt422 => ((laws_heldInode.f k x414000 x414001 x414002 x414003 bt422.2.1 bt422.2.2 1).bind fun t425 => (if t425 < 0 then (some false) else (laws_FnExactReadInode.j6 k x0 x5 bt422.1 t425 x399000 x399001 x399002 x399003 x399004 x399005 x414000 x414001 x414002 x414003 bt422.2.1 bt422.2.2)))
def laws_FnExactReadInode.j6 : Nat → List ByteArray → Bool → Int → Int → Int → Int → Int → ByteArray → List (S42) → List (S47) → Int → Int → Int → ByteArray → List (S42) → List (S47) → Option (Bool)
 | 0, _, _, _, _, _, _, _, _, _, _, _, _, _, _, _, _ => none
 | k + 1, x0, x5, x10, x11, x399000, x399001, x399002, x399003, x399004, x399005, x414000, x414001, x414002, x414003, x414004, x414005 => if x11 = x10 then (laws_FnExactReadInode.j7 k x0 x5 x10 x399000 x399001 x399002 x399003 x399004 x399005 x414000 x414001 x414002 x414003 x414004 x414005) else (some false)
def laws_FnExactReadInode.j7 : Nat → List ByteArray → Bool → Int → Int → Int → Int → ByteArray → List (S42) → List (S47) → Int → Int → Int → ByteArray → List (S42) → List (S47) → Option (Bool)
 | 0, _, _, _, _, _, _, _, _, _, _, _, _, _, _, _ => none
 | k + 1, x0, x5, x10, x399000, x399001, x399002, x399003, x399004, x399005, x414000, x414001, x414002, x414003, x414004, x414005 => (laws_toStringS.f k x0).bind fun t426 => ((impl_ReadInode.f k t426).bind fun bt429 => ((laws_eqInode.f k bt429.1 bt429.2.1 bt429.2.2.1 bt429.2.2.2.1 bt429.2.2.2.2.1 bt429.2.2.2.2.2.1 x399000 x399001 x399002 x399003 x399004 x399005).bind fun t441 => (if t441 = true then (laws_FnExactReadInode.j8 k x10 (bt429.2.2.2.2.2.2 != x5) x414000 x414001 x414002 x414003 x414004 x414005) else (laws_FnExactReadInode.j8 k x10 true x414000 x414001 x414002 x414003 x414004 x414005))))
def laws_FnExactReadInode.j8 : Nat → Int → Bool → Int → Int → Int → ByteArray → List (S42) → List (S47) → Option (Bool)
 | 0, _, _, _, _, _, _, _, _ => none
 | k + 1, x10, x87, x414000, x414001, x414002, x414003, x414004, x414005 => if x87 = true then (some false) else (laws_FnExactReadInode.j9 k x10 x414000 x414001 x414002 x414003 x414004 x414005)
def laws_FnExactReadInode.j9 : Nat → Int → Int → Int → Int → ByteArray → List (S42) → List (S47) → Option (Bool)
 | 0, _, _, _, _, _, _, _ => none
 | k + 1, x10, x414000, x414001, x414002, x414003, x414004, x414005 => (laws_heldInode.f k x414000 x414001 x414002 x414003 x414004 x414005 1).bind fun t442 => (if t442 < 0 then (some false) else (if t442 = x10 then (some true) else (some false)))
end
def laws_FnExactReadInode.f (k : Nat) (l0 : List ByteArray) : Option (Bool) := (laws_szStringS.f k l0 1048576).bind fun t383 => (if t383 < 0 then (some true) else (laws_FnExactReadInode.j0 k l0))
theorem laws_FnExactReadInode.mono_l : ∀ k, (∀ y0, LeO (laws_FnExactReadInode.j0 k y0) (laws_FnExactReadInode.j0 (k + 1) y0)) ∧ (∀ y0 y1 y2 y3 y4 y5 y6 y7 y8 y9 y10 y11 y12 y13 y14 y15 y16, LeO (laws_FnExactReadInode.j1 k y0 y1 y2 y3 y4 y5 y6 y7 y8 y9 y10 y11 y12 y13 y14 y15 y16) (laws_FnExactReadInode.j1 (k + 1) y0 y1 y2 y3 y4 y5 y6 y7 y8 y9 y10 y11 y12 y13 y14 y15 y16)) ∧ (∀ y0 y1 y2 y3 y4 y5 y6 y7 y8 y9 y10 y11 y12 y13 y14 y15, LeO (laws_FnExactReadInode.j2 k y0 y1 y2 y3 y4 y5 y6 y7 y8 y9 y10 y11 y12 y13 y14 y15) (laws_FnExactReadInode.j2 (k + 1) y0 y1 y2 y3 y4 y5 y6 y7 y8 y9 y10 y11 y12 y13 y14 y15)) ∧ (∀ y0 y1 y2 y3 y4 y5 y6 y7 y8 y9 y10 y11 y12 y13 y14 y15, LeO (laws_FnExactReadInode.j3 k y0 y1 y2 y3 y4 y5 y6 y7 y8 y9 y10 y11 y12 y13 y14 y15) (laws_FnExactReadInode.j3 (k + 1) y0 y1 y2 y3 y4 y5 y6 y7 y8 y9 y10 y11 y12 y13 y14 y15)) ∧ (∀ y0 y1 y2 y3 y4 y5 y6 y7 y8 y9 y10 y11 y12 y13 y14, LeO (laws_FnExactReadInode.j4 k y0 y1 y2 y3 y4 y5 y6 y7 y8 y9 y10 y11 y12 y13 y14) (laws_FnExactReadInode.j4 (k + 1) y0 y1 y2 y3 y4 y5 y6 y7 y8 y9 y10 y11 y12 y13 y14)) ∧ (∀ y0 y1 y2 y3 y4 y5 y6 y7 y8 y9 y10 y11 y12 y13, LeO (laws_FnExactReadInode.j5 k y0 y1 y2 y3 y4 y5 y6 y7 y8 y9 y10 y11 y12 y13) (laws_FnExactReadInode.j5 (k + 1) y0 y1 y2 y3 y4 y5 y6 y7 y8 y9 y10 y11 y12 y13)) ∧ (∀ y0 y1 y2 y3 y4 y5 y6 y7 y8 y9 y10 y11 y12 y13 y14 y15, LeO (laws_FnExactReadInode.j6 k y0 y1 y2 y3 y4 y5 y6 y7 y8 y9 y10 y11 y12 y13 y14 y15) (laws_FnExactReadInode.j6 (k + 1) y0 y1 y2 y3 y4 y5 y6 y7 y8 y9 y10 y11 y12 y13 y14 y15)) ∧ (∀ y0 y1 y2 y3 y4 y5 y6 y7 y8 y9 y10 y11 y12 y13 y14, LeO (laws_FnExactReadInode.j7 k y0 y1 y2 y3 y4 y5 y6 y7 y8 y9 y10 y11 y12 y13 y14) (laws_FnExactReadInode.j7 (k + 1) y0 y1 y2 y3 y4 y5 y6 y7 y8 y9 y10 y11 y12 y13 y14)) ∧ (∀ y0 y1 y2 y3 y4 y5 y6 y7, LeO (laws_FnExactReadInode.j8 k y0 y1 y2 y3 y4 y5 y6 y7) (laws_FnExactReadInode.j8 (k + 1) y0 y1 y2 y3 y4 y5 y6 y7)) ∧ (∀ y0 y1 y2 y3 y4 y5 y6, LeO (laws_FnExactReadInode.j9 k y0 y1 y2 y3 y4 y5 y6) (laws_FnExactReadInode.j9 (k + 1) y0 y1 y2 y3 y4 y5 y6))
 | 0 => ⟨fun _ r h => by simp [laws_FnExactReadInode.j0] at h, fun _ _ _ _ _ _ _ _ _ _ _ _ _ _ _ _ _ r h => by simp [laws_FnExactReadInode.j1] at h, fun _ _ _ _ _ _ _ _ _ _ _ _ _ _ _ _ r h => by simp [laws_FnExactReadInode.j2] at h, fun _ _ _ _ _ _ _ _ _ _ _ _ _ _ _ _ r h => by simp [laws_FnExactReadInode.j3] at h, fun _ _ _ _ _ _ _ _ _ _ _ _ _ _ _ r h => by simp [laws_FnExactReadInode.j4] at h, fun _ _ _ _ _ _ _ _ _ _ _ _ _ _ r h => by simp [laws_FnExactReadInode.j5] at h, fun _ _ _ _ _ _ _ _ _ _ _ _ _ _ _ _ r h => by simp [laws_FnExactReadInode.j6] at h, fun _ _ _ _ _ _ _ _ _ _ _ _ _ _ _ r h => by simp [laws_FnExactReadInode.j7] at h, fun _ _ _ _ _ _ _ _ r h => by simp [laws_FnExactReadInode.j8] at h, fun _ _ _ _ _ _ _ r h => by simp [laws_FnExactReadInode.j9] at h⟩
 | k + 1 => by
  obtain ⟨ih0, ih1, ih2, ih3, ih4, ih5, ih6, ih7, ih8, ih9⟩ := laws_FnExactReadInode.mono_l k
  refine ⟨?_, ?_, ?_, ?_, ?_, ?_, ?_, ?_, ?_, ?_⟩
  ·intro y0
   unfold laws_FnExactReadInode.j0
   exact mo_8
  ·intro y0 y1 y2 y3 y4 y5 y6 y7 y8 y9 y10 y11 y12 y13 y14 y15 y16
   unfold laws_FnExactReadInode.j1
   exact mo_8
  ·intro y0 y1 y2 y3 y4 y5 y6 y7 y8 y9 y10 y11 y12 y13 y14 y15
   unfold laws_FnExactReadInode.j2
   exact mo_8
  ·intro y0 y1 y2 y3 y4 y5 y6 y7 y8 y9 y10 y11 y12 y13 y14 y15
   unfold laws_FnExactReadInode.j3
   exact mo_8
  ·intro y0 y1 y2 y3 y4 y5 y6 y7 y8 y9 y10 y11 y12 y13 y14
   unfold laws_FnExactReadInode.j4
   exact mo_8
  ·intro y0 y1 y2 y3 y4 y5 y6 y7 y8 y9 y10 y11 y12 y13
   unfold laws_FnExactReadInode.j5
   exact mo_8
  ·intro y0 y1 y2 y3 y4 y5 y6 y7 y8 y9 y10 y11 y12 y13 y14 y15
   unfold laws_FnExactReadInode.j6
   exact mo_8
  ·intro y0 y1 y2 y3 y4 y5 y6 y7 y8 y9 y10 y11 y12 y13 y14
   unfold laws_FnExactReadInode.j7
   exact mo_8
  ·intro y0 y1 y2 y3 y4 y5 y6 y7
   unfold laws_FnExactReadInode.j8
   exact mo_8
  ·intro y0 y1 y2 y3 y4 y5 y6
   unfold laws_FnExactReadInode.j9
   exact mo_8
theorem laws_FnExactReadInode.mono : ∀ a0 k, LeO (laws_FnExactReadInode.f k a0) (laws_FnExactReadInode.f (k + 1) a0) := by
 intro a0 k
 obtain ⟨ih0, ih1, ih2, ih3, ih4, ih5, ih6, ih7, ih8, ih9⟩ := laws_FnExactReadInode.mono_l k
 unfold laws_FnExactReadInode.f
 repeat' first
   | (with_reducible exact ih0 _)
   | (with_reducible exact ih1 ..)
   | (with_reducible exact ih2 ..)
   | (with_reducible exact ih3 ..)
   | (with_reducible exact ih4 ..)
   | (with_reducible exact ih5 ..)
   | (with_reducible exact ih6 ..)
   | (with_reducible exact ih7 ..)
   | (with_reducible exact ih8 ..)
   | (with_reducible exact ih9 ..)
   | (with_reducible exact impl_ReadInode.mono ..)
   | (with_reducible exact laws_eqInode.mono ..)
   | (with_reducible exact laws_eqStringS.mono ..)
   | (with_reducible exact laws_heldInode.mono ..)
   | (with_reducible exact laws_markInode.mono ..)
   | (with_reducible exact laws_markStringS.mono ..)
   | (with_reducible exact laws_szStringS.mono ..)
   | (with_reducible exact laws_toStringS.mono ..)
   | (with_reducible exact spec_ReadInode.mono ..)
   | (with_reducible exact LeO.refl _)
   | (with_reducible exact LeO.none _)
   | (with_reducible refine LeO.ite ?_ ?_)
   | (with_reducible refine LeO.bind ?_ (fun _ => ?_))
   | exact ih0 _
   | exact ih1 ..
   | exact ih2 ..
   | exact ih3 ..
   | exact ih4 ..
   | exact ih5 ..
   | exact ih6 ..
   | exact ih7 ..
   | exact ih8 ..
   | exact ih9 ..
   | exact impl_ReadInode.mono ..
   | exact laws_eqInode.mono ..
   | exact laws_eqStringS.mono ..
   | exact laws_heldInode.mono ..
   | exact laws_markInode.mono ..
   | exact laws_markStringS.mono ..
   | exact laws_szStringS.mono ..
   | exact laws_toStringS.mono ..
   | exact spec_ReadInode.mono ..
   | exact LeO.none _
   | refine LeO.ite ?_ ?_
   | refine LeO.bind ?_ (fun _ => ?_)
set_option maxHeartbeats 8000000 in
set_option maxRecDepth 100000 in
theorem laws_FnExactReadInode.calls (k : Nat) (A0 : Option Addr) (c0 : Nat) (l0 : List ByteArray) (r : Bool) (w : World) (hr0 : Kd.C Kd.string w A0 l0.length l0) (hc0 : l0.length ≤ c0) (h : laws_FnExactReadInode.f k l0 = some r) :
  Calls Tryd.prog 3 #[.slice A0 l0.length c0] w fun e w' => e = .returned (.bool r) ∧ Below w.heap.size w w' := by
 have hu27 := Tryd.underlying27
 have HR0 := Aside0.mk hr0
 have HC0 := Aside0.mk hc0
 clear hr0 hc0
 have HB := Aside0.mk (Below.refl w.heap.size w)
 unfold laws_FnExactReadInode.f at h
 have H := h
 clear h
 obtain ⟨t383, A2, H⟩ := bd_ H
 have HC3 := Aside0.mk H
 clear H
 go_enter Tryd.func3, Tryd.ntmps3
 go_upto_if 18 with (first | ((with_reducible refine gate_callee (f := 6) rfl ?_); refine goesL_ (some 16) rfl rfl Tryd.func6 (by kernel_rfl) rfl #[.slice A0 l0.length c0, .int .i64 1048576] rfl tq_0 ?_; (with_reducible refine (laws_szStringS.calls k _ _ l0 1048576 t383 _ ?side1 ?side2 A2.out).mono ?_); (case side1 => exact tq_85); (case side2 => exact HC0.out); rintro e w' ⟨rfl, ⟨nd, rfl⟩⟩; refine ⟨_, rfl, ?_⟩))
 (try simp only [Act.put, List.setIfInBounds_toArray, List.set_cons_zero, List.set_cons_succ])
 go_cut [] (fun wc => ∃ (kq : Nat), Aside0 (laws_FnExactReadInode.j0 kq l0 = some r) ∧ Aside0 (kq ≤ k) ∧ Aside0 (Below w.heap.size w wc))
 case first =>
  have H := HC3.out
  clear HC3
  by_cases c4 : t383 < 0
  rotate_left
  ·rw [if_neg c4] at H
   have c4b0 := decide_eq_false c4
   clear c4
   (first | rw [c4b0] | (simp only [i64_w, i32_w]; rw [c4b0]) | skip)
   have H' := Aside0.mk H
   clear H
   go_wp2
   go_meet
   case rel => exact ⟨_, H', ⟨tq_13⟩, ⟨th_⟩⟩
  rw [if_pos c4] at H
  have c4b0 := decide_eq_true c4
  clear c4
  (first | rw [c4b0] | (simp only [i64_w, i32_w]; rw [c4b0]) | skip)
  obtain rfl := Option.some.inj H
  go_wp2
  go_ret
  exact ⟨tq_2, th_⟩
 case rest =>
 clear HC3
 try clear p2; try clear c3; try clear c4; try clear c4b0
 obtain ⟨kq, HA, HJ2, HB⟩ := hcut
 cases kq with
 | zero => exact absurd HA.out (by simp [laws_FnExactReadInode.j0])
 | succ kj2 =>
 have H := HA.out
 clear HA
 simp only [laws_FnExactReadInode.j0] at H
 obtain ⟨t384, A5, H⟩ := bd_ H
 obtain ⟨⟨t387, t388, t389, t390, t391, t394, t397⟩, A6, H⟩ := bd_ H
 try dsimp -simprocs only at H
 obtain ⟨t399, A7, H⟩ := bd_ H
 obtain ⟨⟨t402, t403, t404, t405, t406, t409, t412⟩, A8, H⟩ := bd_ H
 try dsimp -simprocs only at H
 have HC9 := Aside0.mk H
 clear H
 go_upto_region 8 with (first | ((with_reducible refine gate_callee (f := 8) rfl ?_); refine goesL_ (some 21) rfl rfl Tryd.func8 (by kernel_rfl) rfl #[.slice A0 l0.length c0] rfl tq_0 ?_; (with_reducible refine (laws_toStringS.calls kj2 _ _ l0 t384 _ ?side1 ?side2 A5.out).mono ?_); (case side1 => exact tq_12); (case side2 => exact HC0.out); rintro e w10 ⟨v385, rfl, ho0, hb⟩; refine ⟨_, rfl, ?_⟩; have z_ := p_ (Kd.R_lower ho0 (below_size th_)) <| a_ (below_step th_ hb); clear HB; obtain ⟨HO386, HB⟩ := z_; (try clear hb); (try clear ho0); obtain ⟨Ao11, co11, eo11⟩ := Kd.R_slice HO386.out; subst eo11) | ((with_reducible refine gate_callee (f := 7) rfl ?_); refine goesL_ (some 22) rfl rfl Tryd.func7 (by kernel_rfl) rfl #[.slice Ao11 t384.length co11] rfl tq_0 ?_; (with_reducible refine (spec_ReadInode.calls kj2 _ _ t384 t387 t388 t389 t390 t391 t394 t397 _ ?side1 ?side2 A6.out).mono ?_); (case side1 => repeat (first | exact (Kd.R_reads' HO386.out).2.2 | (with_reducible refine Kd.C_alloc ?_ _) | (with_reducible refine Kd.C_drewN ?_ _) | (with_reducible refine Kd.C_drew ?_))); (case side2 => exact (Kd.R_reads' HO386.out).2.1); rintro e w12 ⟨v392, v395, rfl, ho0, ho1, hb⟩; refine ⟨_, rfl, ?_⟩; have z_ := p_ (Kd.R_below (raR_ HO386) hb) <| p_ (Kd.R_lower ho0 (below_size th_)) <| p_ (Kd.R_lower ho1 (below_size th_)) <| a_ (below_step th_ hb); clear HO386 HB; obtain ⟨HO386, HO393, HO396, HB⟩ := z_; (try clear hb); (try clear ho0); (try clear ho1)) | ((with_reducible refine gate_dst (N := 4) rfl ?_); refine be_ 4 (cs := #[.int .i64 0, .int .i64 0, .int .i64 0, .string (⟨#[]⟩ : ByteArray), .slice none 0 0, .slice none 0 0]) 27 ?_; intro gb398 hg w13 hbox hb; have z_ := p_ (Kd.R_below (raR_ HO386) hb) <| p_ (Kd.R_below (raR_ HO393) hb) <| p_ (Kd.R_below (raR_ HO396) hb) <| bx0_ th_ hb hbox hg; clear HO386 HO393 HO396 HB; obtain ⟨HO386, HO393, HO396, HB, BK398, GW398, GE398⟩ := z_; clear hb hbox hg; obtain ⟨hcz14_0, hcz14_1, hcz14_2, hcz14_3, hcz14_4, hcz14_5⟩ := bk6_ BK398.out; obtain ⟨hfz14_0, hfz14_1, hfz14_2, hfz14_3, hfz14_4, hfz14_5⟩ := bf6_ BK398.out; obtain ⟨Ao15, co15, eo15⟩ := Kd.R_slice HO393.out; subst eo15; obtain ⟨Ao16, co16, eo16⟩ := Kd.R_slice HO396.out; subst eo16) | ((with_reducible refine gate_callee (f := 8) rfl ?_); refine goesL_ (some 26) rfl rfl Tryd.func8 (by kernel_rfl) rfl #[.slice A0 l0.length c0] rfl tq_0 ?_; (with_reducible refine (laws_toStringS.calls kj2 _ _ l0 t399 _ ?side1 ?side2 A7.out).mono ?_); (case side1 => exact Kd.C_below HR0.out th_); (case side2 => exact HC0.out); rintro e w17 ⟨v400, rfl, ho0, hb⟩; refine ⟨_, rfl, ?_⟩; have z_ := p_ (Kd.R_elder' tq_67 (Kd.R_base ho0) hb) <| p_ (Kd.R_below (by (with_reducible repeat (first | apply Kd.R_alloc | apply Kd.R_drewN | apply Kd.R_drew)); exact (Kd.R_mono (rR_ (rR_ (rR_ (rR_ (rR_ (rR_ (Kd.R_types HO393.out BK398.out (by decide)))))))) (fun _ h_ => h_.1))) hb) <| p_ (Kd.R_below (by (with_reducible repeat (first | apply Kd.R_alloc | apply Kd.R_drewN | apply Kd.R_drew)); exact (Kd.R_mono (rR_ (rR_ (rR_ (rR_ (rR_ (rR_ (Kd.R_types HO396.out BK398.out (by decide)))))))) (fun _ h_ => h_.1))) hb) <| p_ (Kd.R_lower (Kd.R_new' ho0 (Kd.R_lt tq_67)) (below_size th_)) <| p_ (blk_below (g := gb398) (o := .cells #[.int .i64 t387, .int .i64 t388, .int .i64 t389, .string t390, .slice Ao15 t391.length co15, .slice Ao16 t394.length co16] 27 (0, 0)) (by (with_reducible repeat (first | refine blk_drewN ?_ _ | refine blk_drew ?_ | refine blk_alloc ?_ _)); refine blk_put (cs := #[.int .i64 t387, .int .i64 t388, .int .i64 t389, .string t390, .slice Ao15 t391.length co15, .slice none 0 0]) ?_ 5 _ rfl; (with_reducible repeat (first | refine blk_drewN ?_ _ | refine blk_drew ?_ | refine blk_alloc ?_ _)); refine blk_put (cs := #[.int .i64 t387, .int .i64 t388, .int .i64 t389, .string t390, .slice none 0 0, .slice none 0 0]) ?_ 4 _ rfl; (with_reducible repeat (first | refine blk_drewN ?_ _ | refine blk_drew ?_ | refine blk_alloc ?_ _)); refine blk_put (cs := #[.int .i64 t387, .int .i64 t388, .int .i64 t389, .string (⟨#[]⟩ : ByteArray), .slice none 0 0, .slice none 0 0]) ?_ 3 _ rfl; (with_reducible repeat (first | refine blk_drewN ?_ _ | refine blk_drew ?_ | refine blk_alloc ?_ _)); refine blk_put (cs := #[.int .i64 t387, .int .i64 t388, .int .i64 0, .string (⟨#[]⟩ : ByteArray), .slice none 0 0, .slice none 0 0]) ?_ 2 _ rfl; (with_reducible repeat (first | refine blk_drewN ?_ _ | refine blk_drew ?_ | refine blk_alloc ?_ _)); refine blk_put (cs := #[.int .i64 t387, .int .i64 0, .int .i64 0, .string (⟨#[]⟩ : ByteArray), .slice none 0 0, .slice none 0 0]) ?_ 1 _ rfl; (with_reducible repeat (first | refine blk_drewN ?_ _ | refine blk_drew ?_ | refine blk_alloc ?_ _)); refine blk_put (cs := #[.int .i64 0, .int .i64 0, .int .i64 0, .string (⟨#[]⟩ : ByteArray), .slice none 0 0, .slice none 0 0]) ?_ 0 _ rfl; (with_reducible repeat (first | refine blk_drewN ?_ _ | refine blk_drew ?_ | refine blk_alloc ?_ _)); exact BK398.out) hb) <| a_ (below_step th_ hb); clear HO386 HO393 HO396 BK398 HB; obtain ⟨HO386, HO393, HO396, HO401, BK398, HB⟩ := z_; (try clear hb); (try clear hk); (try clear ho0); obtain ⟨Ao18, co18, eo18⟩ := Kd.R_slice HO401.out; subst eo18) | ((with_reducible refine gate_callee (f := 9) rfl ?_); refine goesL_ (some 29) rfl rfl Tryd.func9 (by kernel_rfl) rfl #[.slice Ao18 t399.length co18] rfl tq_0 ?_; (with_reducible refine (impl_ReadInode.calls kj2 _ _ t399 t402 t403 t404 t405 t406 t409 t412 _ ?side1 ?side2 A8.out).mono ?_); (case side1 => repeat (first | exact (Kd.R_reads' HO401.out).2.2 | (with_reducible refine Kd.C_alloc ?_ _) | (with_reducible refine Kd.C_drewN ?_ _) | (with_reducible refine Kd.C_drew ?_))); (case side2 => exact (Kd.R_reads' HO401.out).2.1); rintro e w19 ⟨v407, v410, rfl, ho0, ho1, hb⟩; refine ⟨_, rfl, ?_⟩; have z_ := p_ (Kd.R_below (raR_ HO386) hb) <| p_ (Kd.R_elder' (raR_ HO393) (Kd.R_base ho0) hb) <| p_ (Kd.R_elder' (raR_ HO396) (Kd.R_base ho1) hb) <| p_ (Kd.R_below (raR_ HO401) hb) <| p_ (Kd.R_lower (Kd.R_new' ho0 (Kd.R_lt (raR_ HO393))) (below_size th_)) <| p_ (Kd.R_lower (Kd.R_new' ho1 (Kd.R_lt (raR_ HO396))) (below_size th_)) <| bw1_ (kb_ BK398) th_ hb; clear HO386 HO393 HO396 HO401 BK398 HB; obtain ⟨HO386, HO393, HO396, HO401, HO408, HO411, BK398, HB⟩ := z_; (try clear hb); (try clear ho0); (try clear ho1)) | ((with_reducible refine gate_dst (N := 7) rfl ?_); refine be_ 7 (cs := #[.int .i64 0, .int .i64 0, .int .i64 0, .string (⟨#[]⟩ : ByteArray), .slice none 0 0, .slice none 0 0]) 27 ?_; intro gb413 hg w20 hbox hb; have z_ := p_ (Kd.R_below (raR_ HO386) hb) <| p_ (Kd.R_below (raR_ HO393) hb) <| p_ (Kd.R_below (raR_ HO396) hb) <| p_ (Kd.R_below (raR_ HO401) hb) <| p_ (Kd.R_below (raR_ HO408) hb) <| p_ (Kd.R_below (raR_ HO411) hb) <| bx1_ (kb_ BK398) th_ hb hbox hg; clear HO386 HO393 HO396 HO401 HO408 HO411 BK398 HB; obtain ⟨HO386, HO393, HO396, HO401, HO408, HO411, BK398, HB, BK413, GW413, GE413, NB398_413, NB413_398⟩ := z_; clear hb hbox hg; obtain ⟨n413_398, n398_413⟩ := an2_ NB413_398 NB398_413; obtain ⟨hcz22_0, hcz22_1, hcz22_2, hcz22_3, hcz22_4, hcz22_5⟩ := bk6_ BK413.out; obtain ⟨hfz22_0, hfz22_1, hfz22_2, hfz22_3, hfz22_4, hfz22_5⟩ := bf6_ BK413.out; obtain ⟨Ao23, co23, eo23⟩ := Kd.R_slice HO408.out; subst eo23; obtain ⟨Ao24, co24, eo24⟩ := Kd.R_slice HO411.out; subst eo24))
 (try simp only [Act.put, List.setIfInBounds_toArray, List.set_cons_zero, List.set_cons_succ])
 go_cut [40] (fun v40 wc => ∃ (kq : Nat) (x40_8 : Bool), v40 = .bool x40_8 ∧ Aside0 (laws_FnExactReadInode.j1 kq l0 t397 t399 t412 x40_8 t387 t388 t389 t390 t391 t394 t402 t403 t404 t405 t406 t409 = some r) ∧ Aside0 (kq ≤ kj2) ∧ Aside0 (Kd.R Kd.string 9 wc w.heap.size (fun _ => True) (.slice Ao18 t399.length co18) t399) ∧ Aside0 (Kd.R k42 42 wc w.heap.size (fun k_ => some k_ ≠ ((.slice Ao23 t406.length co23) : Value).ownBlock) (.slice Ao15 t391.length co15) t391) ∧ Aside0 (Kd.R k47 47 wc w.heap.size (fun k_ => some k_ ≠ ((.slice Ao24 t409.length co24) : Value).ownBlock) (.slice Ao16 t394.length co16) t394) ∧ Aside0 (Kd.R k42 42 wc w.heap.size (fun k_ => some k_ ≠ ((.slice Ao15 t391.length co15) : Value).ownBlock) (.slice Ao23 t406.length co23) t406) ∧ Aside0 (Kd.R k47 47 wc w.heap.size (fun k_ => some k_ ≠ ((.slice Ao16 t394.length co16) : Value).ownBlock) (.slice Ao24 t409.length co24) t409) ∧ Aside0 (wc.heap[gb398]? = some (.cells #[.int .i64 t387, .int .i64 t388, .int .i64 t389, .string t390, (.slice Ao15 t391.length co15), (.slice Ao16 t394.length co16)] 27 (0, 0))) ∧ Aside0 (wc.heap[gb413]? = some (.cells #[.int .i64 t402, .int .i64 t403, .int .i64 t404, .string t405, (.slice Ao23 t406.length co23), (.slice Ao24 t409.length co24)] 27 (0, 0))) ∧ Aside0 (Below w.heap.size w wc))
 case first =>
  have H := HC9.out
  clear HC9
  obtain ⟨t414, A25, H⟩ := bd_ H
  by_cases c26 : t414 = true
  ·subst c26
   rw [if_pos rfl] at H
   have H' := Aside0.mk H
   clear H
   obtain ⟨hcz28_0, hcz28_1, hcz28_2, hcz28_3, hcz28_4, hcz28_5⟩ := bk6_ BK413.out
   obtain ⟨hfz28_0, hfz28_1, hfz28_2, hfz28_3, hfz28_4, hfz28_5⟩ := bf6_ BK413.out
   obtain ⟨hcz29_0, hcz29_1, hcz29_2, hcz29_3, hcz29_4, hcz29_5⟩ := bk6_ BK398.out
   obtain ⟨hfz29_0, hfz29_1, hfz29_2, hfz29_3, hfz29_4, hfz29_5⟩ := bf6_ BK398.out
   go_wp2_with (first | ((with_reducible refine gate_callee (f := 10) rfl ?_); refine goesL_ (some 34) rfl rfl Tryd.func10 (by kernel_rfl) rfl #[.agg #[.int .i64 t402, .int .i64 t403, .int .i64 t404, .string t405, .slice Ao23 t406.length co23, .slice Ao24 t409.length co24], .agg #[.int .i64 t387, .int .i64 t388, .int .i64 t389, .string t390, .slice Ao15 t391.length co15, .slice Ao16 t394.length co16]] rfl tq_0 ?_; (with_reducible refine (laws_eqInode.calls kj2 t402 t403 t404 t405 _ _ t406 _ _ t409 t387 t388 t389 t390 _ _ t391 _ _ t394 true _ ?side1 ?side2 ?side3 ?side4 ?side5 ?side6 ?side7 ?side8 A25.out).mono ?_); (case side1 => refine (Kd.R_reads' (e := 42) (base := w.heap.size) (ok := fun k_ => (True ∧ some k_ ≠ (.slice Ao15 t391.length co15 : Value).ownBlock)) (n := t406.length) (c := co23) ?_).2.2; exact tq_31); (case side2 => exact (Kd.R_reads' HO408.out).2.1); (case side3 => refine (Kd.R_reads' (e := 47) (base := w.heap.size) (ok := fun k_ => (True ∧ some k_ ≠ (.slice Ao16 t394.length co16 : Value).ownBlock)) (n := t409.length) (c := co24) ?_).2.2; exact tq_30); (case side4 => exact (Kd.R_reads' HO411.out).2.1); (case side5 => refine (Kd.R_reads' (e := 42) (base := w.heap.size) (ok := fun k_ => (True ∧ some k_ ≠ (.slice Ao23 t406.length co23 : Value).ownBlock)) (n := t391.length) (c := co15) ?_).2.2; exact tq_33); (case side6 => exact (Kd.R_reads' HO393.out).2.1); (case side7 => refine (Kd.R_reads' (e := 47) (base := w.heap.size) (ok := fun k_ => (True ∧ some k_ ≠ (.slice Ao24 t409.length co24 : Value).ownBlock)) (n := t394.length) (c := co16) ?_).2.2; exact tq_32); (case side8 => exact (Kd.R_reads' HO396.out).2.1); rintro e w30 ⟨rfl, hb⟩; refine ⟨_, rfl, ?_⟩; have z_ := p_ (Kd.R_below tq_66 hb) <| p_ (Kd.R_below tq_33 hb) <| p_ (Kd.R_below tq_32 hb) <| p_ (Kd.R_below tq_65 hb) <| p_ (Kd.R_below tq_31 hb) <| p_ (Kd.R_below tq_30 hb) <| p_ (blk_below (g := gb398) (o := .cells #[.int .i64 t387, .int .i64 t388, .int .i64 t389, .string t390, .slice Ao15 t391.length co15, .slice Ao16 t394.length co16] 27 (0, 0)) tq_16 hb) <| p_ (blk_below (g := gb413) (o := .cells #[.int .i64 t402, .int .i64 t403, .int .i64 t404, .string t405, .slice Ao23 t406.length co23, .slice Ao24 t409.length co24] 27 (0, 0)) tq_10 hb) <| a_ (below_step th_ hb); clear HO386 HO393 HO396 HO401 HO408 HO411 BK398 BK413 HB; obtain ⟨HO386, HO393, HO396, HO401, HO408, HO411, BK398, BK413, HB⟩ := z_; (try clear hb); (try clear hk)))
   go_meet
   case rel => exact ⟨_, ((t412 != t397)), tq_3, H', ⟨(by have := HJ2.out; first | omega | exact Nat.le_refl _)⟩, ⟨tq_86⟩, ⟨tq_90⟩, ⟨tq_89⟩, ⟨tq_88⟩, ⟨tq_87⟩, ⟨(kb_ BK398)⟩, ⟨(kb_ BK413)⟩, ⟨th_⟩⟩
  replace c26 := Bool.eq_false_iff.mpr c26
  subst c26
  rw [if_neg nf_] at H
  have H' := Aside0.mk H
  clear H
  obtain ⟨hcz32_0, hcz32_1, hcz32_2, hcz32_3, hcz32_4, hcz32_5⟩ := bk6_ BK413.out
  obtain ⟨hfz32_0, hfz32_1, hfz32_2, hfz32_3, hfz32_4, hfz32_5⟩ := bf6_ BK413.out
  obtain ⟨hcz33_0, hcz33_1, hcz33_2, hcz33_3, hcz33_4, hcz33_5⟩ := bk6_ BK398.out
  obtain ⟨hfz33_0, hfz33_1, hfz33_2, hfz33_3, hfz33_4, hfz33_5⟩ := bf6_ BK398.out
  go_wp2_with (first | ((with_reducible refine gate_callee (f := 10) rfl ?_); refine goesL_ (some 34) rfl rfl Tryd.func10 (by kernel_rfl) rfl #[.agg #[.int .i64 t402, .int .i64 t403, .int .i64 t404, .string t405, .slice Ao23 t406.length co23, .slice Ao24 t409.length co24], .agg #[.int .i64 t387, .int .i64 t388, .int .i64 t389, .string t390, .slice Ao15 t391.length co15, .slice Ao16 t394.length co16]] rfl tq_0 ?_; (with_reducible refine (laws_eqInode.calls kj2 t402 t403 t404 t405 _ _ t406 _ _ t409 t387 t388 t389 t390 _ _ t391 _ _ t394 false _ ?side1 ?side2 ?side3 ?side4 ?side5 ?side6 ?side7 ?side8 A25.out).mono ?_); (case side1 => refine (Kd.R_reads' (e := 42) (base := w.heap.size) (ok := fun k_ => (True ∧ some k_ ≠ (.slice Ao15 t391.length co15 : Value).ownBlock)) (n := t406.length) (c := co23) ?_).2.2; exact tq_31); (case side2 => exact (Kd.R_reads' HO408.out).2.1); (case side3 => refine (Kd.R_reads' (e := 47) (base := w.heap.size) (ok := fun k_ => (True ∧ some k_ ≠ (.slice Ao16 t394.length co16 : Value).ownBlock)) (n := t409.length) (c := co24) ?_).2.2; exact tq_30); (case side4 => exact (Kd.R_reads' HO411.out).2.1); (case side5 => refine (Kd.R_reads' (e := 42) (base := w.heap.size) (ok := fun k_ => (True ∧ some k_ ≠ (.slice Ao23 t406.length co23 : Value).ownBlock)) (n := t391.length) (c := co15) ?_).2.2; exact tq_33); (case side6 => exact (Kd.R_reads' HO393.out).2.1); (case side7 => refine (Kd.R_reads' (e := 47) (base := w.heap.size) (ok := fun k_ => (True ∧ some k_ ≠ (.slice Ao24 t409.length co24 : Value).ownBlock)) (n := t394.length) (c := co16) ?_).2.2; exact tq_32); (case side8 => exact (Kd.R_reads' HO396.out).2.1); rintro e w34 ⟨rfl, hb⟩; refine ⟨_, rfl, ?_⟩; have z_ := p_ (Kd.R_below tq_66 hb) <| p_ (Kd.R_below tq_33 hb) <| p_ (Kd.R_below tq_32 hb) <| p_ (Kd.R_below tq_65 hb) <| p_ (Kd.R_below tq_31 hb) <| p_ (Kd.R_below tq_30 hb) <| p_ (blk_below (g := gb398) (o := .cells #[.int .i64 t387, .int .i64 t388, .int .i64 t389, .string t390, .slice Ao15 t391.length co15, .slice Ao16 t394.length co16] 27 (0, 0)) tq_16 hb) <| p_ (blk_below (g := gb413) (o := .cells #[.int .i64 t402, .int .i64 t403, .int .i64 t404, .string t405, .slice Ao23 t406.length co23, .slice Ao24 t409.length co24] 27 (0, 0)) tq_10 hb) <| a_ (below_step th_ hb); clear HO386 HO393 HO396 HO401 HO408 HO411 BK398 BK413 HB; obtain ⟨HO386, HO393, HO396, HO401, HO408, HO411, BK398, BK413, HB⟩ := z_; (try clear hb); (try clear hk)))
  go_meet
  case rel => exact ⟨_, (true), tq_3, H', ⟨(by have := HJ2.out; first | omega | exact Nat.le_refl _)⟩, ⟨tq_86⟩, ⟨tq_90⟩, ⟨tq_89⟩, ⟨tq_88⟩, ⟨tq_87⟩, ⟨(kb_ BK398)⟩, ⟨(kb_ BK413)⟩, ⟨th_⟩⟩
 case rest =>
 clear HC9
 try clear c1; try clear c2; try clear p2; try clear c3; try clear c4; try clear c4b0; try clear c6; try clear c7; try clear c8; try clear c9; try clear c10; try clear c21; try clear c26; try clear c27; try clear c31; try clear hcz14_0 hcz14_1 hcz14_2 hcz14_3 hcz14_4 hcz14_5; try clear hcz22_0 hcz22_1 hcz22_2 hcz22_3 hcz22_4 hcz22_5; try clear hcz28_0 hcz28_1 hcz28_2 hcz28_3 hcz28_4 hcz28_5; try clear hcz29_0 hcz29_1 hcz29_2 hcz29_3 hcz29_4 hcz29_5; try clear hcz32_0 hcz32_1 hcz32_2 hcz32_3 hcz32_4 hcz32_5; try clear hcz33_0 hcz33_1 hcz33_2 hcz33_3 hcz33_4 hcz33_5; try clear hfz14_0 hfz14_1 hfz14_2 hfz14_3 hfz14_4 hfz14_5; try clear hfz22_0 hfz22_1 hfz22_2 hfz22_3 hfz22_4 hfz22_5; try clear hfz28_0 hfz28_1 hfz28_2 hfz28_3 hfz28_4 hfz28_5; try clear hfz29_0 hfz29_1 hfz29_2 hfz29_3 hfz29_4 hfz29_5; try clear hfz32_0 hfz32_1 hfz32_2 hfz32_3 hfz32_4 hfz32_5; try clear hfz33_0 hfz33_1 hfz33_2 hfz33_3 hfz33_4 hfz33_5; try clear p2
 obtain ⟨kq, x40_8, rfl, HA, HJ8, HO_6, HO_399004, HO_399005, HO_414004, HO_414005, BK398, BK413, HB⟩ := hcut
 cases kq with
 | zero => exact absurd HA.out (by simp [laws_FnExactReadInode.j1])
 | succ kj8 =>
 have H := HA.out
 clear HA
 simp only [laws_FnExactReadInode.j1] at H
 have HC35 := Aside0.mk H
 clear H
 go_upto_if 40 with (fail)
 go_cut [] (fun wc => ∃ (kq : Nat), Aside0 (laws_FnExactReadInode.j2 kq l0 t397 t399 t412 t387 t388 t389 t390 t391 t394 t402 t403 t404 t405 t406 t409 = some r) ∧ Aside0 (kq ≤ kj8) ∧ Aside0 (Kd.R Kd.string 9 wc w.heap.size (fun _ => True) (.slice Ao18 t399.length co18) t399) ∧ Aside0 (Kd.R k42 42 wc w.heap.size (fun k_ => some k_ ≠ ((.slice Ao23 t406.length co23) : Value).ownBlock) (.slice Ao15 t391.length co15) t391) ∧ Aside0 (Kd.R k47 47 wc w.heap.size (fun k_ => some k_ ≠ ((.slice Ao24 t409.length co24) : Value).ownBlock) (.slice Ao16 t394.length co16) t394) ∧ Aside0 (Kd.R k42 42 wc w.heap.size (fun k_ => some k_ ≠ ((.slice Ao15 t391.length co15) : Value).ownBlock) (.slice Ao23 t406.length co23) t406) ∧ Aside0 (Kd.R k47 47 wc w.heap.size (fun k_ => some k_ ≠ ((.slice Ao16 t394.length co16) : Value).ownBlock) (.slice Ao24 t409.length co24) t409) ∧ Aside0 (wc.heap[gb398]? = some (.cells #[.int .i64 t387, .int .i64 t388, .int .i64 t389, .string t390, (.slice Ao15 t391.length co15), (.slice Ao16 t394.length co16)] 27 (0, 0))) ∧ Aside0 (wc.heap[gb413]? = some (.cells #[.int .i64 t402, .int .i64 t403, .int .i64 t404, .string t405, (.slice Ao23 t406.length co23), (.slice Ao24 t409.length co24)] 27 (0, 0))) ∧ Aside0 (Below w.heap.size w wc))
 case first =>
  have H := HC35.out
  clear HC35
  by_cases c36 : x40_8 = true
  ·subst c36
   rw [if_pos rfl] at H
   obtain rfl := Option.some.inj H
   go_wp2
   go_ret
   exact ⟨tq_2, th_⟩
  replace c36 := Bool.eq_false_iff.mpr c36
  subst c36
  rw [if_neg nf_] at H
  have H' := Aside0.mk H
  clear H
  go_wp2
  go_meet
  case rel => exact ⟨_, H', ⟨(by have := HJ2.out; have := HJ8.out; first | omega | exact Nat.le_refl _)⟩, ⟨(raR_ HO_6)⟩, ⟨(raR_ HO_399004)⟩, ⟨(raR_ HO_399005)⟩, ⟨(raR_ HO_414004)⟩, ⟨(raR_ HO_414005)⟩, ⟨(kb_ BK398)⟩, ⟨(kb_ BK413)⟩, ⟨th_⟩⟩
 case rest =>
 clear HC35
 try clear c1; try clear c2; try clear p2; try clear c3; try clear c4; try clear c4b0; try clear c6; try clear c7; try clear c8; try clear c9; try clear c10; try clear c21; try clear c26; try clear c27; try clear c31; try clear c36; try clear hcz14_0 hcz14_1 hcz14_2 hcz14_3 hcz14_4 hcz14_5; try clear hcz22_0 hcz22_1 hcz22_2 hcz22_3 hcz22_4 hcz22_5; try clear hcz28_0 hcz28_1 hcz28_2 hcz28_3 hcz28_4 hcz28_5; try clear hcz29_0 hcz29_1 hcz29_2 hcz29_3 hcz29_4 hcz29_5; try clear hcz32_0 hcz32_1 hcz32_2 hcz32_3 hcz32_4 hcz32_5; try clear hcz33_0 hcz33_1 hcz33_2 hcz33_3 hcz33_4 hcz33_5; try clear hfz14_0 hfz14_1 hfz14_2 hfz14_3 hfz14_4 hfz14_5; try clear hfz22_0 hfz22_1 hfz22_2 hfz22_3 hfz22_4 hfz22_5; try clear hfz28_0 hfz28_1 hfz28_2 hfz28_3 hfz28_4 hfz28_5; try clear hfz29_0 hfz29_1 hfz29_2 hfz29_3 hfz29_4 hfz29_5; try clear hfz32_0 hfz32_1 hfz32_2 hfz32_3 hfz32_4 hfz32_5; try clear hfz33_0 hfz33_1 hfz33_2 hfz33_3 hfz33_4 hfz33_5; try clear p2
 obtain ⟨kq, HA, HJ34, HO_6, HO_399004, HO_399005, HO_414004, HO_414005, BK398, BK413, HB⟩ := hcut
 cases kq with
 | zero => exact absurd HA.out (by simp [laws_FnExactReadInode.j2])
 | succ kj34 =>
 have H := HA.out
 clear HA
 simp only [laws_FnExactReadInode.j2] at H
 obtain ⟨t415, A37, H⟩ := bd_ H
 obtain ⟨t418, A38, H⟩ := bd_ H
 have HC39 := Aside0.mk H
 clear H
 go_upto_if 45 with (first | ((with_reducible refine gate_callee (f := 8) rfl ?_); refine goesL_ (some 43) rfl rfl Tryd.func8 (by kernel_rfl) rfl #[.slice A0 l0.length c0] rfl tq_0 ?_; (with_reducible refine (laws_toStringS.calls kj34 _ _ l0 t415 _ ?side1 ?side2 A37.out).mono ?_); (case side1 => exact tq_12); (case side2 => exact HC0.out); rintro e w40 ⟨v416, rfl, ho0, hb⟩; refine ⟨_, rfl, ?_⟩; have z_ := p_ (Kd.R_elder' (raR_ HO_6) (Kd.R_base ho0) hb) <| p_ (Kd.R_below (raR_ HO_399004) hb) <| p_ (Kd.R_below (raR_ HO_399005) hb) <| p_ (Kd.R_below (raR_ HO_414004) hb) <| p_ (Kd.R_below (raR_ HO_414005) hb) <| p_ (Kd.R_lower (Kd.R_new' ho0 (Kd.R_lt (raR_ HO_6))) (below_size th_)) <| bw2_ (kb_ BK398) (kb_ BK413) th_ hb; clear HO_6 HO_399004 HO_399005 HO_414004 HO_414005 BK398 BK413 HB; obtain ⟨HO_6, HO_399004, HO_399005, HO_414004, HO_414005, HO417, BK398, BK413, HB⟩ := z_; (try clear hb); (try clear ho0); obtain ⟨Ao41, co41, eo41⟩ := Kd.R_slice HO417.out; subst eo41) | ((with_reducible refine gate_callee (f := 11) rfl ?_); refine goesL_ (some 44) rfl rfl Tryd.func11 (by kernel_rfl) rfl #[.slice Ao18 t399.length co18, .slice Ao41 t415.length co41] rfl tq_0 ?_; (with_reducible refine (laws_eqStringS.calls kj34 _ _ t399 _ _ t415 t418 _ ?side1 ?side2 ?side3 ?side4 A38.out).mono ?_); (case side1 => repeat (first | exact (Kd.R_reads' HO_6.out).2.2 | (with_reducible refine Kd.C_alloc ?_ _) | (with_reducible refine Kd.C_drewN ?_ _) | (with_reducible refine Kd.C_drew ?_))); (case side2 => exact (Kd.R_reads' HO_6.out).2.1); (case side3 => repeat (first | exact (Kd.R_reads' HO417.out).2.2 | (with_reducible refine Kd.C_alloc ?_ _) | (with_reducible refine Kd.C_drewN ?_ _) | (with_reducible refine Kd.C_drew ?_))); (case side4 => exact (Kd.R_reads' HO417.out).2.1); rintro e w' ⟨rfl, ⟨nd, rfl⟩⟩; refine ⟨_, rfl, ?_⟩))
 (try simp only [Act.put, List.setIfInBounds_toArray, List.set_cons_zero, List.set_cons_succ])
 go_cut [] (fun wc => ∃ (kq : Nat), Aside0 (laws_FnExactReadInode.j3 kq l0 t397 t399 t412 t387 t388 t389 t390 t391 t394 t402 t403 t404 t405 t406 t409 = some r) ∧ Aside0 (kq ≤ kj34) ∧ Aside0 (Kd.R Kd.string 9 wc w.heap.size (fun _ => True) (.slice Ao18 t399.length co18) t399) ∧ Aside0 (Kd.R k42 42 wc w.heap.size (fun k_ => some k_ ≠ ((.slice Ao23 t406.length co23) : Value).ownBlock) (.slice Ao15 t391.length co15) t391) ∧ Aside0 (Kd.R k47 47 wc w.heap.size (fun k_ => some k_ ≠ ((.slice Ao24 t409.length co24) : Value).ownBlock) (.slice Ao16 t394.length co16) t394) ∧ Aside0 (Kd.R k42 42 wc w.heap.size (fun k_ => some k_ ≠ ((.slice Ao15 t391.length co15) : Value).ownBlock) (.slice Ao23 t406.length co23) t406) ∧ Aside0 (Kd.R k47 47 wc w.heap.size (fun k_ => some k_ ≠ ((.slice Ao16 t394.length co16) : Value).ownBlock) (.slice Ao24 t409.length co24) t409) ∧ Aside0 (wc.heap[gb398]? = some (.cells #[.int .i64 t387, .int .i64 t388, .int .i64 t389, .string t390, (.slice Ao15 t391.length co15), (.slice Ao16 t394.length co16)] 27 (0, 0))) ∧ Aside0 (wc.heap[gb413]? = some (.cells #[.int .i64 t402, .int .i64 t403, .int .i64 t404, .string t405, (.slice Ao23 t406.length co23), (.slice Ao24 t409.length co24)] 27 (0, 0))) ∧ Aside0 (Below w.heap.size w wc))
 case first =>
  have H := HC39.out
  clear HC39
  by_cases c42 : t418 = true
  rotate_left
  ·replace c42 := Bool.eq_false_iff.mpr c42
   subst c42
   rw [if_neg nf_] at H
   obtain rfl := Option.some.inj H
   go_wp2
   go_ret
   exact ⟨tq_2, th_⟩
  subst c42
  rw [if_pos rfl] at H
  have H' := Aside0.mk H
  clear H
  go_wp2
  go_meet
  case rel => exact ⟨_, H', ⟨(by have := HJ2.out; have := HJ8.out; have := HJ34.out; first | omega | exact Nat.le_refl _)⟩, ⟨(by (with_reducible repeat (first | apply Kd.R_alloc | apply Kd.R_drewN | apply Kd.R_drew)); exact Kd.R_mono HO_6.out (fun _ hk => trivial))⟩, ⟨(raR_ HO_399004)⟩, ⟨(raR_ HO_399005)⟩, ⟨(raR_ HO_414004)⟩, ⟨(raR_ HO_414005)⟩, ⟨(kb_ BK398)⟩, ⟨(kb_ BK413)⟩, ⟨th_⟩⟩
 case rest =>
 clear HC39
 try clear c1; try clear c2; try clear p2; try clear c3; try clear c4; try clear c4b0; try clear c6; try clear c7; try clear c8; try clear c9; try clear c10; try clear c11; try clear c21; try clear c26; try clear c27; try clear c31; try clear c36; try clear c42; try clear hcz14_0 hcz14_1 hcz14_2 hcz14_3 hcz14_4 hcz14_5; try clear hcz22_0 hcz22_1 hcz22_2 hcz22_3 hcz22_4 hcz22_5; try clear hcz28_0 hcz28_1 hcz28_2 hcz28_3 hcz28_4 hcz28_5; try clear hcz29_0 hcz29_1 hcz29_2 hcz29_3 hcz29_4 hcz29_5; try clear hcz32_0 hcz32_1 hcz32_2 hcz32_3 hcz32_4 hcz32_5; try clear hcz33_0 hcz33_1 hcz33_2 hcz33_3 hcz33_4 hcz33_5; try clear hfz14_0 hfz14_1 hfz14_2 hfz14_3 hfz14_4 hfz14_5; try clear hfz22_0 hfz22_1 hfz22_2 hfz22_3 hfz22_4 hfz22_5; try clear hfz28_0 hfz28_1 hfz28_2 hfz28_3 hfz28_4 hfz28_5; try clear hfz29_0 hfz29_1 hfz29_2 hfz29_3 hfz29_4 hfz29_5; try clear hfz32_0 hfz32_1 hfz32_2 hfz32_3 hfz32_4 hfz32_5; try clear hfz33_0 hfz33_1 hfz33_2 hfz33_3 hfz33_4 hfz33_5; try clear p2
 obtain ⟨kq, HA, HJ38, HO_6, HO_399004, HO_399005, HO_414004, HO_414005, BK398, BK413, HB⟩ := hcut
 cases kq with
 | zero => exact absurd HA.out (by simp [laws_FnExactReadInode.j3])
 | succ kj38 =>
 have H := HA.out
 clear HA
 simp only [laws_FnExactReadInode.j3] at H
 obtain ⟨⟨t419, t420⟩, A43, H⟩ := bd_ H
 try dsimp -simprocs only at H
 have HC44 := Aside0.mk H
 clear H
 go_upto_region 14 with (first | ((with_reducible refine gate_callee (f := 12) rfl ?_); refine goesL_ (some 48) rfl rfl Tryd.func12 (by kernel_rfl) rfl #[.slice Ao18 t399.length co18, .int .i64 1] rfl tq_0 ?_; (with_reducible refine (laws_markStringS.calls kj38 (fun k_ => some k_ = (.slice Ao18 t399.length co18 : Value).ownBlock) (.slice Ao18 t399.length co18) t399 1 t419 t420 w _ ?side1 ?side2 A43.out).mono ?_); (case side1 => exact tq_72); (case side2 => exact Kd.R_tight rfl HO_6.out); rintro e w45 ⟨rfl, hy0, hb, hkp⟩; refine ⟨_, rfl, ?_⟩; have z_ := p_ (Kd.R_reok rfl hy0 (fun k_ e_ => HO_6.out.1 k_ e_)) <| p_ (Kd.R_mono (ok' := fun k_ => some k_ ≠ (.slice Ao23 t406.length co23 : Value).ownBlock) (Kd.R_keptB ((Kd.R_apart' HO_399004.out (Kd.R_typed HO_6.out) (by decide))) hkp (fun k_ hk_ hs_ => (hk_.2) hs_)) (fun k_ hk_ => hk_.1.1)) <| p_ (Kd.R_mono (ok' := fun k_ => some k_ ≠ (.slice Ao24 t409.length co24 : Value).ownBlock) (Kd.R_keptB ((Kd.R_apart' HO_399005.out (Kd.R_typed HO_6.out) (by decide))) hkp (fun k_ hk_ hs_ => (hk_.2) hs_)) (fun k_ hk_ => hk_.1.1)) <| p_ (Kd.R_mono (ok' := fun k_ => some k_ ≠ (.slice Ao15 t391.length co15 : Value).ownBlock) (Kd.R_keptB ((Kd.R_apart' HO_414004.out (Kd.R_typed HO_6.out) (by decide))) hkp (fun k_ hk_ hs_ => (hk_.2) hs_)) (fun k_ hk_ => hk_.1.1)) <| p_ (Kd.R_mono (ok' := fun k_ => some k_ ≠ (.slice Ao16 t394.length co16 : Value).ownBlock) (Kd.R_keptB ((Kd.R_apart' HO_414005.out (Kd.R_typed HO_6.out) (by decide))) hkp (fun k_ hk_ hs_ => (hk_.2) hs_)) (fun k_ hk_ => hk_.1.1)) <| p_ (blk_kept (kb_ BK398) hkp (fun hs_ => (fun e_ => (Kd.R_ne HO_6.out BK398.out (by decide)) e_) hs_)) <| p_ (blk_kept (kb_ BK413) hkp (fun hs_ => (fun e_ => (Kd.R_ne HO_6.out BK413.out (by decide)) e_) hs_)) <| a_ (hb); clear HO_6 HO_399004 HO_399005 HO_414004 HO_414005 BK398 BK413 HB; obtain ⟨HO_6, HO_399004, HO_399005, HO_414004, HO_414005, BK398, BK413, HB⟩ := z_; (try clear hb); (try clear hkp); (try clear hy0)))
 (try simp only [Act.put, List.setIfInBounds_toArray, List.set_cons_zero, List.set_cons_succ])
 go_cut [61] (fun v61 wc => ∃ (kq : Nat) (x61_43 : Bool), v61 = .bool x61_43 ∧ Aside0 (laws_FnExactReadInode.j4 kq l0 t397 x61_43 t387 t388 t389 t390 t391 t394 t402 t403 t404 t405 t406 t409 = some r) ∧ Aside0 (kq ≤ kj38) ∧ Aside0 (Kd.R k42 42 wc w.heap.size (fun k_ => some k_ ≠ ((.slice Ao23 t406.length co23) : Value).ownBlock) (.slice Ao15 t391.length co15) t391) ∧ Aside0 (Kd.R k47 47 wc w.heap.size (fun k_ => some k_ ≠ ((.slice Ao24 t409.length co24) : Value).ownBlock) (.slice Ao16 t394.length co16) t394) ∧ Aside0 (Kd.R k42 42 wc w.heap.size (fun k_ => some k_ ≠ ((.slice Ao15 t391.length co15) : Value).ownBlock) (.slice Ao23 t406.length co23) t406) ∧ Aside0 (Kd.R k47 47 wc w.heap.size (fun k_ => some k_ ≠ ((.slice Ao16 t394.length co16) : Value).ownBlock) (.slice Ao24 t409.length co24) t409) ∧ Aside0 (wc.heap[gb398]? = some (.cells #[.int .i64 t387, .int .i64 t388, .int .i64 t389, .string t390, (.slice Ao15 t391.length co15), (.slice Ao16 t394.length co16)] 27 (0, 0))) ∧ Aside0 (wc.heap[gb413]? = some (.cells #[.int .i64 t402, .int .i64 t403, .int .i64 t404, .string t405, (.slice Ao23 t406.length co23), (.slice Ao24 t409.length co24)] 27 (0, 0))) ∧ Aside0 (Below w.heap.size w wc))
 case first =>
  have H := HC44.out
  clear HC44
  by_cases c46 : t419 < 0
  ·rw [if_pos c46] at H
   have c46b0 := decide_eq_true c46
   clear c46
   (first | rw [c46b0] | (simp only [i64_w, i32_w]; rw [c46b0]) | skip)
   have H' := Aside0.mk H
   clear H
   go_wp2
   go_meet
   case rel => exact ⟨_, (true), tq_3, H', ⟨tq_62⟩, ⟨(raR_ HO_399004)⟩, ⟨(raR_ HO_399005)⟩, ⟨(raR_ HO_414004)⟩, ⟨(raR_ HO_414005)⟩, ⟨(kb_ BK398)⟩, ⟨(kb_ BK413)⟩, ⟨th_⟩⟩
  rw [if_neg c46] at H
  have c46b0 := decide_eq_false c46
  clear c46
  (first | rw [c46b0] | (simp only [i64_w, i32_w]; rw [c46b0]) | skip)
  obtain ⟨t421, A47, H⟩ := bd_ H
  by_cases c48 : t421 = true
  ·subst c48
   rw [if_pos rfl] at H
   have H' := Aside0.mk H
   clear H
   obtain ⟨hcz50_0, hcz50_1, hcz50_2, hcz50_3, hcz50_4, hcz50_5⟩ := bk6_ BK413.out
   obtain ⟨hfz50_0, hfz50_1, hfz50_2, hfz50_3, hfz50_4, hfz50_5⟩ := bf6_ BK413.out
   obtain ⟨hcz51_0, hcz51_1, hcz51_2, hcz51_3, hcz51_4, hcz51_5⟩ := bk6_ BK398.out
   obtain ⟨hfz51_0, hfz51_1, hfz51_2, hfz51_3, hfz51_4, hfz51_5⟩ := bf6_ BK398.out
   go_wp2_with (first | (go_at_call 10; (with_reducible refine (laws_eqInode.calls kj38 t402 t403 t404 t405 _ _ t406 _ _ t409 t387 t388 t389 t390 _ _ t391 _ _ t394 true _ ?side1 ?side2 ?side3 ?side4 ?side5 ?side6 ?side7 ?side8 A47.out).mono ?_); (case side1 => exact tq_18); (case side2 => exact (Kd.R_reads' HO_414004.out).2.1); (case side3 => exact tq_17); (case side4 => exact (Kd.R_reads' HO_414005.out).2.1); (case side5 => exact tq_76); (case side6 => exact (Kd.R_reads' HO_399004.out).2.1); (case side7 => exact tq_75); (case side8 => exact (Kd.R_reads' HO_399005.out).2.1); rintro e w52 ⟨rfl, hb⟩; have z_ := p_ (Kd.R_below (raR_ HO_6) hb) <| p_ (Kd.R_below (raR_ HO_399004) hb) <| p_ (Kd.R_below (raR_ HO_399005) hb) <| p_ (Kd.R_below (raR_ HO_414004) hb) <| p_ (Kd.R_below (raR_ HO_414005) hb) <| bw2_ (kb_ BK398) (kb_ BK413) th_ hb; clear HO_6 HO_399004 HO_399005 HO_414004 HO_414005 BK398 BK413 HB; obtain ⟨HO_6, HO_399004, HO_399005, HO_414004, HO_414005, BK398, BK413, HB⟩ := z_; (try clear hb)))
   go_meet
   case rel => exact ⟨_, ((t412 != t397)), tq_3, H', ⟨tq_62⟩, ⟨(raR_ HO_399004)⟩, ⟨(raR_ HO_399005)⟩, ⟨(raR_ HO_414004)⟩, ⟨(raR_ HO_414005)⟩, ⟨(kb_ BK398)⟩, ⟨(kb_ BK413)⟩, ⟨th_⟩⟩
  replace c48 := Bool.eq_false_iff.mpr c48
  subst c48
  rw [if_neg nf_] at H
  have H' := Aside0.mk H
  clear H
  obtain ⟨hcz54_0, hcz54_1, hcz54_2, hcz54_3, hcz54_4, hcz54_5⟩ := bk6_ BK413.out
  obtain ⟨hfz54_0, hfz54_1, hfz54_2, hfz54_3, hfz54_4, hfz54_5⟩ := bf6_ BK413.out
  obtain ⟨hcz55_0, hcz55_1, hcz55_2, hcz55_3, hcz55_4, hcz55_5⟩ := bk6_ BK398.out
  obtain ⟨hfz55_0, hfz55_1, hfz55_2, hfz55_3, hfz55_4, hfz55_5⟩ := bf6_ BK398.out
  go_wp2_with (first | (go_at_call 10; (with_reducible refine (laws_eqInode.calls kj38 t402 t403 t404 t405 _ _ t406 _ _ t409 t387 t388 t389 t390 _ _ t391 _ _ t394 false _ ?side1 ?side2 ?side3 ?side4 ?side5 ?side6 ?side7 ?side8 A47.out).mono ?_); (case side1 => exact tq_18); (case side2 => exact (Kd.R_reads' HO_414004.out).2.1); (case side3 => exact tq_17); (case side4 => exact (Kd.R_reads' HO_414005.out).2.1); (case side5 => exact tq_76); (case side6 => exact (Kd.R_reads' HO_399004.out).2.1); (case side7 => exact tq_75); (case side8 => exact (Kd.R_reads' HO_399005.out).2.1); rintro e w56 ⟨rfl, hb⟩; have z_ := p_ (Kd.R_below (raR_ HO_6) hb) <| p_ (Kd.R_below (raR_ HO_399004) hb) <| p_ (Kd.R_below (raR_ HO_399005) hb) <| p_ (Kd.R_below (raR_ HO_414004) hb) <| p_ (Kd.R_below (raR_ HO_414005) hb) <| bw2_ (kb_ BK398) (kb_ BK413) th_ hb; clear HO_6 HO_399004 HO_399005 HO_414004 HO_414005 BK398 BK413 HB; obtain ⟨HO_6, HO_399004, HO_399005, HO_414004, HO_414005, BK398, BK413, HB⟩ := z_; (try clear hb)))
  go_meet
  case rel => exact ⟨_, (true), tq_3, H', ⟨tq_62⟩, ⟨(raR_ HO_399004)⟩, ⟨(raR_ HO_399005)⟩, ⟨(raR_ HO_414004)⟩, ⟨(raR_ HO_414005)⟩, ⟨(kb_ BK398)⟩, ⟨(kb_ BK413)⟩, ⟨th_⟩⟩
 case rest =>
 clear HC44
 try clear c1; try clear c2; try clear p2; try clear c3; try clear c4; try clear c4b0; try clear c5; try clear c6; try clear c7; try clear c8; try clear c9; try clear c10; try clear c11; try clear c12; try clear c21; try clear c26; try clear c27; try clear c31; try clear c36; try clear c42; try clear c46; try clear c46b0; try clear c48; try clear c49; try clear c53; try clear hcz14_0 hcz14_1 hcz14_2 hcz14_3 hcz14_4 hcz14_5; try clear hcz22_0 hcz22_1 hcz22_2 hcz22_3 hcz22_4 hcz22_5; try clear hcz28_0 hcz28_1 hcz28_2 hcz28_3 hcz28_4 hcz28_5; try clear hcz29_0 hcz29_1 hcz29_2 hcz29_3 hcz29_4 hcz29_5; try clear hcz32_0 hcz32_1 hcz32_2 hcz32_3 hcz32_4 hcz32_5; try clear hcz33_0 hcz33_1 hcz33_2 hcz33_3 hcz33_4 hcz33_5; try clear hcz50_0 hcz50_1 hcz50_2 hcz50_3 hcz50_4 hcz50_5; try clear hcz51_0 hcz51_1 hcz51_2 hcz51_3 hcz51_4 hcz51_5; try clear hcz54_0 hcz54_1 hcz54_2 hcz54_3 hcz54_4 hcz54_5; try clear hcz55_0 hcz55_1 hcz55_2 hcz55_3 hcz55_4 hcz55_5; try clear hfz14_0 hfz14_1 hfz14_2 hfz14_3 hfz14_4 hfz14_5; try clear hfz22_0 hfz22_1 hfz22_2 hfz22_3 hfz22_4 hfz22_5; try clear hfz28_0 hfz28_1 hfz28_2 hfz28_3 hfz28_4 hfz28_5; try clear hfz29_0 hfz29_1 hfz29_2 hfz29_3 hfz29_4 hfz29_5; try clear hfz32_0 hfz32_1 hfz32_2 hfz32_3 hfz32_4 hfz32_5; try clear hfz33_0 hfz33_1 hfz33_2 hfz33_3 hfz33_4 hfz33_5; try clear hfz50_0 hfz50_1 hfz50_2 hfz50_3 hfz50_4 hfz50_5; try clear hfz51_0 hfz51_1 hfz51_2 hfz51_3 hfz51_4 hfz51_5; try clear hfz54_0 hfz54_1 hfz54_2 hfz54_3 hfz54_4 hfz54_5; try clear hfz55_0 hfz55_1 hfz55_2 hfz55_3 hfz55_4 hfz55_5; try clear p2
 obtain ⟨kq, x61_43, rfl, HA, HJ43, HO_399004, HO_399005, HO_414004, HO_414005, BK398, BK413, HB⟩ := hcut
 cases kq with
 | zero => exact absurd HA.out (by simp [laws_FnExactReadInode.j4])
 | succ kj43 =>
 have H := HA.out
 clear HA
 simp only [laws_FnExactReadInode.j4] at H
 have HC57 := Aside0.mk H
 clear H
 go_upto_if 61 with (fail)
 go_cut [] (fun wc => ∃ (kq : Nat), Aside0 (laws_FnExactReadInode.j5 kq l0 t397 t387 t388 t389 t390 t391 t394 t402 t403 t404 t405 t406 t409 = some r) ∧ Aside0 (kq ≤ kj43) ∧ Aside0 (Kd.R k42 42 wc w.heap.size (fun k_ => some k_ ≠ ((.slice Ao23 t406.length co23) : Value).ownBlock) (.slice Ao15 t391.length co15) t391) ∧ Aside0 (Kd.R k47 47 wc w.heap.size (fun k_ => some k_ ≠ ((.slice Ao24 t409.length co24) : Value).ownBlock) (.slice Ao16 t394.length co16) t394) ∧ Aside0 (Kd.R k42 42 wc w.heap.size (fun k_ => some k_ ≠ ((.slice Ao15 t391.length co15) : Value).ownBlock) (.slice Ao23 t406.length co23) t406) ∧ Aside0 (Kd.R k47 47 wc w.heap.size (fun k_ => some k_ ≠ ((.slice Ao16 t394.length co16) : Value).ownBlock) (.slice Ao24 t409.length co24) t409) ∧ Aside0 (wc.heap[gb398]? = some (.cells #[.int .i64 t387, .int .i64 t388, .int .i64 t389, .string t390, (.slice Ao15 t391.length co15), (.slice Ao16 t394.length co16)] 27 (0, 0))) ∧ Aside0 (wc.heap[gb413]? = some (.cells #[.int .i64 t402, .int .i64 t403, .int .i64 t404, .string t405, (.slice Ao23 t406.length co23), (.slice Ao24 t409.length co24)] 27 (0, 0))) ∧ Aside0 (Below w.heap.size w wc))
 case first =>
  have H := HC57.out
  clear HC57
  by_cases c58 : x61_43 = true
  ·subst c58
   rw [if_pos rfl] at H
   obtain rfl := Option.some.inj H
   go_wp2
   go_ret
   exact ⟨tq_2, th_⟩
  replace c58 := Bool.eq_false_iff.mpr c58
  subst c58
  rw [if_neg nf_] at H
  have H' := Aside0.mk H
  clear H
  go_wp2
  go_meet
  case rel => exact ⟨_, H', ⟨(by have := HJ2.out; have := HJ8.out; have := HJ34.out; have := HJ38.out; have := HJ43.out; first | omega | exact Nat.le_refl _)⟩, ⟨(raR_ HO_399004)⟩, ⟨(raR_ HO_399005)⟩, ⟨(raR_ HO_414004)⟩, ⟨(raR_ HO_414005)⟩, ⟨(kb_ BK398)⟩, ⟨(kb_ BK413)⟩, ⟨th_⟩⟩
 case rest =>
 clear HC57
 try clear c1; try clear c2; try clear p2; try clear c3; try clear c4; try clear c4b0; try clear c5; try clear c6; try clear c7; try clear c8; try clear c9; try clear c10; try clear c11; try clear c12; try clear c21; try clear c26; try clear c27; try clear c31; try clear c36; try clear c42; try clear c46; try clear c46b0; try clear c48; try clear c49; try clear c53; try clear c58; try clear hcz14_0 hcz14_1 hcz14_2 hcz14_3 hcz14_4 hcz14_5; try clear hcz22_0 hcz22_1 hcz22_2 hcz22_3 hcz22_4 hcz22_5; try clear hcz28_0 hcz28_1 hcz28_2 hcz28_3 hcz28_4 hcz28_5; try clear hcz29_0 hcz29_1 hcz29_2 hcz29_3 hcz29_4 hcz29_5; try clear hcz32_0 hcz32_1 hcz32_2 hcz32_3 hcz32_4 hcz32_5; try clear hcz33_0 hcz33_1 hcz33_2 hcz33_3 hcz33_4 hcz33_5; try clear hcz50_0 hcz50_1 hcz50_2 hcz50_3 hcz50_4 hcz50_5; try clear hcz51_0 hcz51_1 hcz51_2 hcz51_3 hcz51_4 hcz51_5; try clear hcz54_0 hcz54_1 hcz54_2 hcz54_3 hcz54_4 hcz54_5; try clear hcz55_0 hcz55_1 hcz55_2 hcz55_3 hcz55_4 hcz55_5; try clear hfz14_0 hfz14_1 hfz14_2 hfz14_3 hfz14_4 hfz14_5; try clear hfz22_0 hfz22_1 hfz22_2 hfz22_3 hfz22_4 hfz22_5; try clear hfz28_0 hfz28_1 hfz28_2 hfz28_3 hfz28_4 hfz28_5; try clear hfz29_0 hfz29_1 hfz29_2 hfz29_3 hfz29_4 hfz29_5; try clear hfz32_0 hfz32_1 hfz32_2 hfz32_3 hfz32_4 hfz32_5; try clear hfz33_0 hfz33_1 hfz33_2 hfz33_3 hfz33_4 hfz33_5; try clear hfz50_0 hfz50_1 hfz50_2 hfz50_3 hfz50_4 hfz50_5; try clear hfz51_0 hfz51_1 hfz51_2 hfz51_3 hfz51_4 hfz51_5; try clear hfz54_0 hfz54_1 hfz54_2 hfz54_3 hfz54_4 hfz54_5; try clear hfz55_0 hfz55_1 hfz55_2 hfz55_3 hfz55_4 hfz55_5; try clear p2
 obtain ⟨kq, HA, HJ56, HO_399004, HO_399005, HO_414004, HO_414005, BK398, BK413, HB⟩ := hcut
 cases kq with
 | zero => exact absurd HA.out (by simp [laws_FnExactReadInode.j5])
 | succ kj56 =>
 have H := HA.out
 clear HA
 simp only [laws_FnExactReadInode.j5] at H
 obtain ⟨⟨t422, t423, t424⟩, A59, H⟩ := bd_ H
 try dsimp -simprocs only at H
 obtain ⟨t425, A60, H⟩ := bd_ H
 have HC61 := Aside0.mk H
 clear H
 obtain ⟨hcz63_0, hcz63_1, hcz63_2, hcz63_3, hcz63_4, hcz63_5⟩ := bk6_ BK413.out
 obtain ⟨hfz63_0, hfz63_1, hfz63_2, hfz63_3, hfz63_4, hfz63_5⟩ := bf6_ BK413.out
 go_upto_if 69 with (first | ((with_reducible refine gate_callee (f := 13) rfl ?_); refine goesL_ (some 64) rfl rfl Tryd.func13 (by kernel_rfl) rfl #[.agg #[.int .i64 t402, .int .i64 t403, .int .i64 t404, .string t405, .slice Ao23 t406.length co23, .slice Ao24 t409.length co24], .int .i64 1] rfl tq_0 ?_; (with_reducible refine (laws_markInode.calls kj56 t402 t403 t404 t405 (fun k_ => some k_ = (.slice Ao23 t406.length co23 : Value).ownBlock) (.slice Ao23 t406.length co23) t406 (fun k_ => some k_ = (.slice Ao24 t409.length co24 : Value).ownBlock) (.slice Ao24 t409.length co24) t409 1 t422 t423 t424 w _ ?side1 ?side2 ?side3 A59.out).mono ?_); (case side1 => exact tq_72); (case side2 => exact Kd.R_tight rfl HO_414004.out); (case side3 => exact Kd.R_tight rfl HO_414005.out); rintro e w64 ⟨rfl, hy0, hy1, hb, hkp⟩; refine ⟨_, rfl, ?_⟩; have z_ := p_ (Kd.R_mono (ok' := fun k_ => some k_ ≠ (.slice Ao23 t406.length co23 : Value).ownBlock) (Kd.R_keptB ((Kd.R_apart' HO_399004.out (Kd.R_typed HO_414005.out) (by decide))) hkp (fun k_ hk_ hs_ => Or.elim hs_ (fun e_ => (hk_.1) e_) (fun e_ => (hk_.2) e_))) (fun k_ hk_ => hk_.1.1)) <| p_ (Kd.R_mono (ok' := fun k_ => some k_ ≠ (.slice Ao24 t409.length co24 : Value).ownBlock) (Kd.R_keptB ((Kd.R_apart' HO_399005.out (Kd.R_typed HO_414004.out) (by decide))) hkp (fun k_ hk_ hs_ => Or.elim hs_ (fun e_ => (hk_.2) e_) (fun e_ => (hk_.1) e_))) (fun k_ hk_ => hk_.1.1)) <| p_ (Kd.R_reok rfl hy0 (fun k_ e_ => HO_414004.out.1 k_ e_)) <| p_ (Kd.R_reok rfl hy1 (fun k_ e_ => HO_414005.out.1 k_ e_)) <| p_ (blk_kept (kb_ BK398) hkp (fun hs_ => Or.elim hs_ (fun e_ => (fun e_ => (Kd.R_ne HO_414004.out BK398.out (by decide)) e_) e_) (fun e_ => (fun e_ => (Kd.R_ne HO_414005.out BK398.out (by decide)) e_) e_))) <| p_ (blk_kept (kb_ BK413) hkp (fun hs_ => Or.elim hs_ (fun e_ => (fun e_ => (Kd.R_ne HO_414004.out BK413.out (by decide)) e_) e_) (fun e_ => (fun e_ => (Kd.R_ne HO_414005.out BK413.out (by decide)) e_) e_))) <| a_ (hb); clear HO_399004 HO_399005 HO_414004 HO_414005 BK398 BK413 HB; obtain ⟨HO_399004, HO_399005, HO_414004, HO_414005, BK398, BK413, HB⟩ := z_; (try clear hb); (try clear hkp); (try clear hy0); (try clear hy1); obtain ⟨hcz65_0, hcz65_1, hcz65_2, hcz65_3, hcz65_4, hcz65_5⟩ := bk6_ BK413.out; obtain ⟨hfz65_0, hfz65_1, hfz65_2, hfz65_3, hfz65_4, hfz65_5⟩ := bf6_ BK413.out) | ((with_reducible refine gate_callee (f := 14) rfl ?_); refine goesL_ (some 67) rfl rfl Tryd.func14 (by kernel_rfl) rfl #[.agg #[.int .i64 t402, .int .i64 t403, .int .i64 t404, .string t405, .slice Ao23 t423.length co23, .slice Ao24 t424.length co24], .int .i64 1] rfl (by (try simp only [List.map_toArray, List.map_cons, List.map_nil]); first | done | (rw [show t423.length = t406.length from (Kd.R_reads' HO_414004.out).1.symm, show t424.length = t409.length from (Kd.R_reads' HO_414005.out).1.symm] <;> rfl) | rfl | (simp only [List.length_drop, List.length_take]; rfl)) ?_; (with_reducible refine (laws_heldInode.calls kj56 t402 t403 t404 t405 _ _ t423 _ _ t424 1 t425 _ ?side1 ?side2 ?side3 ?side4 A60.out).mono ?_); (case side1 => exact tq_18); (case side2 => rw [show t423.length = t406.length from (Kd.R_reads' HO_414004.out).1.symm]; exact (Kd.R_reads' HO_414004.out).2.1); (case side3 => exact tq_17); (case side4 => rw [show t424.length = t409.length from (Kd.R_reads' HO_414005.out).1.symm]; exact (Kd.R_reads' HO_414005.out).2.1); rintro e w66 ⟨rfl, hb⟩; refine ⟨_, rfl, ?_⟩; have z_ := p_ (Kd.R_below (raR_ HO_399004) hb) <| p_ (Kd.R_below (raR_ HO_399005) hb) <| p_ (Kd.R_below (raR_ HO_414004) hb) <| p_ (Kd.R_below (raR_ HO_414005) hb) <| bw2_ (kb_ BK398) (kb_ BK413) th_ hb; clear HO_399004 HO_399005 HO_414004 HO_414005 BK398 BK413 HB; obtain ⟨HO_399004, HO_399005, HO_414004, HO_414005, BK398, BK413, HB⟩ := z_; (try clear hb)))
 (try simp only [Act.put, List.setIfInBounds_toArray, List.set_cons_zero, List.set_cons_succ])
 go_cut [] (fun wc => ∃ (kq : Nat), Aside0 (laws_FnExactReadInode.j6 kq l0 t397 t422 t425 t387 t388 t389 t390 t391 t394 t402 t403 t404 t405 t423 t424 = some r) ∧ Aside0 (kq ≤ kj56) ∧ Aside0 (Kd.R k42 42 wc w.heap.size (fun k_ => some k_ ≠ ((.slice Ao23 t406.length co23) : Value).ownBlock) (.slice Ao15 t391.length co15) t391) ∧ Aside0 (Kd.R k47 47 wc w.heap.size (fun k_ => some k_ ≠ ((.slice Ao24 t409.length co24) : Value).ownBlock) (.slice Ao16 t394.length co16) t394) ∧ Aside0 (Kd.R k42 42 wc w.heap.size (fun k_ => some k_ ≠ ((.slice Ao15 t391.length co15) : Value).ownBlock) (.slice Ao23 t406.length co23) t423) ∧ Aside0 (Kd.R k47 47 wc w.heap.size (fun k_ => some k_ ≠ ((.slice Ao16 t394.length co16) : Value).ownBlock) (.slice Ao24 t409.length co24) t424) ∧ Aside0 (wc.heap[gb398]? = some (.cells #[.int .i64 t387, .int .i64 t388, .int .i64 t389, .string t390, (.slice Ao15 t391.length co15), (.slice Ao16 t394.length co16)] 27 (0, 0))) ∧ Aside0 (wc.heap[gb413]? = some (.cells #[.int .i64 t402, .int .i64 t403, .int .i64 t404, .string t405, (.slice Ao23 t406.length co23), (.slice Ao24 t409.length co24)] 27 (0, 0))) ∧ Aside0 (Below w.heap.size w wc))
 case first =>
  have H := HC61.out
  clear HC61
  by_cases c67 : t425 < 0
  ·rw [if_pos c67] at H
   have c67b0 := decide_eq_true c67
   clear c67
   (first | rw [c67b0] | (simp only [i64_w, i32_w]; rw [c67b0]) | skip)
   obtain rfl := Option.some.inj H
   go_wp2
   go_ret
   exact ⟨tq_2, th_⟩
  rw [if_neg c67] at H
  have c67b0 := decide_eq_false c67
  clear c67
  (first | rw [c67b0] | (simp only [i64_w, i32_w]; rw [c67b0]) | skip)
  have H' := Aside0.mk H
  clear H
  go_wp2
  go_meet
  case rel => exact ⟨_, H', ⟨(by have := HJ2.out; have := HJ8.out; have := HJ34.out; have := HJ38.out; have := HJ43.out; have := HJ56.out; first | omega | exact Nat.le_refl _)⟩, ⟨(raR_ HO_399004)⟩, ⟨(raR_ HO_399005)⟩, ⟨(raR_ HO_414004)⟩, ⟨(raR_ HO_414005)⟩, ⟨(kb_ BK398)⟩, ⟨(kb_ BK413)⟩, ⟨th_⟩⟩
 case rest =>
 clear HC61
 try clear c1; try clear c2; try clear p2; try clear c3; try clear c4; try clear c4b0; try clear c5; try clear c6; try clear c7; try clear c8; try clear c9; try clear c10; try clear c11; try clear c12; try clear c13; try clear c14; try clear c21; try clear c26; try clear c27; try clear c31; try clear c36; try clear c42; try clear c46; try clear c46b0; try clear c48; try clear c49; try clear c53; try clear c58; try clear c62; try clear c67; try clear c67b0; try clear hcz14_0 hcz14_1 hcz14_2 hcz14_3 hcz14_4 hcz14_5; try clear hcz22_0 hcz22_1 hcz22_2 hcz22_3 hcz22_4 hcz22_5; try clear hcz28_0 hcz28_1 hcz28_2 hcz28_3 hcz28_4 hcz28_5; try clear hcz29_0 hcz29_1 hcz29_2 hcz29_3 hcz29_4 hcz29_5; try clear hcz32_0 hcz32_1 hcz32_2 hcz32_3 hcz32_4 hcz32_5; try clear hcz33_0 hcz33_1 hcz33_2 hcz33_3 hcz33_4 hcz33_5; try clear hcz50_0 hcz50_1 hcz50_2 hcz50_3 hcz50_4 hcz50_5; try clear hcz51_0 hcz51_1 hcz51_2 hcz51_3 hcz51_4 hcz51_5; try clear hcz54_0 hcz54_1 hcz54_2 hcz54_3 hcz54_4 hcz54_5; try clear hcz55_0 hcz55_1 hcz55_2 hcz55_3 hcz55_4 hcz55_5; try clear hcz63_0 hcz63_1 hcz63_2 hcz63_3 hcz63_4 hcz63_5; try clear hcz65_0 hcz65_1 hcz65_2 hcz65_3 hcz65_4 hcz65_5; try clear hfz14_0 hfz14_1 hfz14_2 hfz14_3 hfz14_4 hfz14_5; try clear hfz22_0 hfz22_1 hfz22_2 hfz22_3 hfz22_4 hfz22_5; try clear hfz28_0 hfz28_1 hfz28_2 hfz28_3 hfz28_4 hfz28_5; try clear hfz29_0 hfz29_1 hfz29_2 hfz29_3 hfz29_4 hfz29_5; try clear hfz32_0 hfz32_1 hfz32_2 hfz32_3 hfz32_4 hfz32_5; try clear hfz33_0 hfz33_1 hfz33_2 hfz33_3 hfz33_4 hfz33_5; try clear hfz50_0 hfz50_1 hfz50_2 hfz50_3 hfz50_4 hfz50_5; try clear hfz51_0 hfz51_1 hfz51_2 hfz51_3 hfz51_4 hfz51_5; try clear hfz54_0 hfz54_1 hfz54_2 hfz54_3 hfz54_4 hfz54_5; try clear hfz55_0 hfz55_1 hfz55_2 hfz55_3 hfz55_4 hfz55_5; try clear hfz63_0 hfz63_1 hfz63_2 hfz63_3 hfz63_4 hfz63_5; try clear hfz65_0 hfz65_1 hfz65_2 hfz65_3 hfz65_4 hfz65_5; try clear p2
 obtain ⟨kq, HA, HJ60, HO_399004, HO_399005, HO_414004, HO_414005, BK398, BK413, HB⟩ := hcut
 have hl414004_60 := (Kd.R_reads' HO_414004.out).1
 rw [hl414004_60] at HO_414004
 (try simp only [hl414004_60])
 (try simp only [hl414004_60] at BK398)
 (try simp only [hl414004_60] at BK413)
 (try simp only [hl414004_60] at HO_399004)
 (try simp only [hl414004_60] at HO_399005)
 (try simp only [hl414004_60] at HO_414005)
 have hl414005_60 := (Kd.R_reads' HO_414005.out).1
 rw [hl414005_60] at HO_414005
 (try simp only [hl414005_60])
 (try simp only [hl414005_60] at BK398)
 (try simp only [hl414005_60] at BK413)
 (try simp only [hl414005_60] at HO_399004)
 (try simp only [hl414005_60] at HO_399005)
 (try simp only [hl414005_60] at HO_414004)
 cases kq with
 | zero => exact absurd HA.out (by simp [laws_FnExactReadInode.j6])
 | succ kj60 =>
 have H := HA.out
 clear HA
 simp only [laws_FnExactReadInode.j6] at H
 have HC68 := Aside0.mk H
 clear H
 go_upto_if 72 with (fail)
 go_cut [] (fun wc => ∃ (kq : Nat), Aside0 (laws_FnExactReadInode.j7 kq l0 t397 t422 t387 t388 t389 t390 t391 t394 t402 t403 t404 t405 t423 t424 = some r) ∧ Aside0 (kq ≤ kj60) ∧ Aside0 (Kd.R k42 42 wc w.heap.size (fun k_ => some k_ ≠ ((.slice Ao23 t423.length co23) : Value).ownBlock) (.slice Ao15 t391.length co15) t391) ∧ Aside0 (Kd.R k47 47 wc w.heap.size (fun k_ => some k_ ≠ ((.slice Ao24 t424.length co24) : Value).ownBlock) (.slice Ao16 t394.length co16) t394) ∧ Aside0 (Kd.R k42 42 wc w.heap.size (fun k_ => some k_ ≠ ((.slice Ao15 t391.length co15) : Value).ownBlock) (.slice Ao23 t423.length co23) t423) ∧ Aside0 (Kd.R k47 47 wc w.heap.size (fun k_ => some k_ ≠ ((.slice Ao16 t394.length co16) : Value).ownBlock) (.slice Ao24 t424.length co24) t424) ∧ Aside0 (wc.heap[gb398]? = some (.cells #[.int .i64 t387, .int .i64 t388, .int .i64 t389, .string t390, (.slice Ao15 t391.length co15), (.slice Ao16 t394.length co16)] 27 (0, 0))) ∧ Aside0 (wc.heap[gb413]? = some (.cells #[.int .i64 t402, .int .i64 t403, .int .i64 t404, .string t405, (.slice Ao23 t423.length co23), (.slice Ao24 t424.length co24)] 27 (0, 0))) ∧ Aside0 (Below w.heap.size w wc))
 case first =>
  have H := HC68.out
  clear HC68
  by_cases c69 : t425 = t422
  rotate_left
  ·rw [if_neg c69] at H
   have c69b0 := beq_eq_false_iff_ne.mpr c69
   have c69b1 := bne_iff_ne.mpr c69
   (first | rw [c69b0] | (simp only [i64_w, i32_w]; rw [c69b0]) | skip)
   obtain rfl := Option.some.inj H
   go_wp2
   go_ret
   exact ⟨tq_2, th_⟩
  rw [if_pos c69] at H
  have c69b0 := beq_iff_eq.mpr c69
  have c69b1 := bne_eq_false_iff_eq.mpr c69
  clear c69
  (first | rw [c69b0] | (simp only [i64_w, i32_w]; rw [c69b0]) | skip)
  have H' := Aside0.mk H
  clear H
  go_wp2
  go_meet
  case rel => exact ⟨_, H', ⟨(by have := HJ2.out; have := HJ8.out; have := HJ34.out; have := HJ38.out; have := HJ43.out; have := HJ56.out; have := HJ60.out; first | omega | exact Nat.le_refl _)⟩, ⟨tq_45⟩, ⟨tq_44⟩, ⟨tq_43⟩, ⟨tq_42⟩, ⟨tq_36⟩, ⟨tq_35⟩, ⟨th_⟩⟩
 case rest =>
 clear HC68
 try clear c1; try clear c2; try clear p2; try clear c3; try clear c4; try clear c4b0; try clear c5; try clear c6; try clear c7; try clear c8; try clear c9; try clear c10; try clear c11; try clear c12; try clear c13; try clear c14; try clear c21; try clear c26; try clear c27; try clear c31; try clear c36; try clear c42; try clear c46; try clear c46b0; try clear c48; try clear c49; try clear c53; try clear c58; try clear c62; try clear c67; try clear c67b0; try clear c69; try clear c69b0; try clear c69b1; try clear hcz14_0 hcz14_1 hcz14_2 hcz14_3 hcz14_4 hcz14_5; try clear hcz22_0 hcz22_1 hcz22_2 hcz22_3 hcz22_4 hcz22_5; try clear hcz28_0 hcz28_1 hcz28_2 hcz28_3 hcz28_4 hcz28_5; try clear hcz29_0 hcz29_1 hcz29_2 hcz29_3 hcz29_4 hcz29_5; try clear hcz32_0 hcz32_1 hcz32_2 hcz32_3 hcz32_4 hcz32_5; try clear hcz33_0 hcz33_1 hcz33_2 hcz33_3 hcz33_4 hcz33_5; try clear hcz50_0 hcz50_1 hcz50_2 hcz50_3 hcz50_4 hcz50_5; try clear hcz51_0 hcz51_1 hcz51_2 hcz51_3 hcz51_4 hcz51_5; try clear hcz54_0 hcz54_1 hcz54_2 hcz54_3 hcz54_4 hcz54_5; try clear hcz55_0 hcz55_1 hcz55_2 hcz55_3 hcz55_4 hcz55_5; try clear hcz63_0 hcz63_1 hcz63_2 hcz63_3 hcz63_4 hcz63_5; try clear hcz65_0 hcz65_1 hcz65_2 hcz65_3 hcz65_4 hcz65_5; try clear hfz14_0 hfz14_1 hfz14_2 hfz14_3 hfz14_4 hfz14_5; try clear hfz22_0 hfz22_1 hfz22_2 hfz22_3 hfz22_4 hfz22_5; try clear hfz28_0 hfz28_1 hfz28_2 hfz28_3 hfz28_4 hfz28_5; try clear hfz29_0 hfz29_1 hfz29_2 hfz29_3 hfz29_4 hfz29_5; try clear hfz32_0 hfz32_1 hfz32_2 hfz32_3 hfz32_4 hfz32_5; try clear hfz33_0 hfz33_1 hfz33_2 hfz33_3 hfz33_4 hfz33_5; try clear hfz50_0 hfz50_1 hfz50_2 hfz50_3 hfz50_4 hfz50_5; try clear hfz51_0 hfz51_1 hfz51_2 hfz51_3 hfz51_4 hfz51_5; try clear hfz54_0 hfz54_1 hfz54_2 hfz54_3 hfz54_4 hfz54_5; try clear hfz55_0 hfz55_1 hfz55_2 hfz55_3 hfz55_4 hfz55_5; try clear hfz63_0 hfz63_1 hfz63_2 hfz63_3 hfz63_4 hfz63_5; try clear hfz65_0 hfz65_1 hfz65_2 hfz65_3 hfz65_4 hfz65_5; try clear p2
 obtain ⟨kq, HA, HJ67, HO_399004, HO_399005, HO_414004, HO_414005, BK398, BK413, HB⟩ := hcut
 cases kq with
 | zero => exact absurd HA.out (by simp [laws_FnExactReadInode.j7])
 | succ kj67 =>
 have H := HA.out
 clear HA
 simp only [laws_FnExactReadInode.j7] at H
 obtain ⟨t426, A70, H⟩ := bd_ H
 obtain ⟨⟨t429, t430, t431, t432, t433, t436, t439⟩, A71, H⟩ := bd_ H
 try dsimp -simprocs only at H
 have HC72 := Aside0.mk H
 clear H
 go_upto_region 25 with (first | ((with_reducible refine gate_callee (f := 8) rfl ?_); refine goesL_ (some 75) rfl rfl Tryd.func8 (by kernel_rfl) rfl #[.slice A0 l0.length c0] rfl tq_0 ?_; (with_reducible refine (laws_toStringS.calls kj67 _ _ l0 t426 _ ?side1 ?side2 A70.out).mono ?_); (case side1 => exact tq_12); (case side2 => exact HC0.out); rintro e w73 ⟨v427, rfl, ho0, hb⟩; refine ⟨_, rfl, ?_⟩; have z_ := p_ (Kd.R_below (raR_ HO_399004) hb) <| p_ (Kd.R_below (raR_ HO_399005) hb) <| p_ (Kd.R_below (raR_ HO_414004) hb) <| p_ (Kd.R_below (raR_ HO_414005) hb) <| p_ (Kd.R_lower ho0 (below_size th_)) <| bw2_ (kb_ BK398) (kb_ BK413) th_ hb; clear HO_399004 HO_399005 HO_414004 HO_414005 BK398 BK413 HB; obtain ⟨HO_399004, HO_399005, HO_414004, HO_414005, HO428, BK398, BK413, HB⟩ := z_; (try clear hb); (try clear ho0); obtain ⟨Ao74, co74, eo74⟩ := Kd.R_slice HO428.out; subst eo74) | ((with_reducible refine gate_callee (f := 9) rfl ?_); refine goesL_ (some 76) rfl rfl Tryd.func9 (by kernel_rfl) rfl #[.slice Ao74 t426.length co74] rfl tq_0 ?_; (with_reducible refine (impl_ReadInode.calls kj67 _ _ t426 t429 t430 t431 t432 t433 t436 t439 _ ?side1 ?side2 A71.out).mono ?_); (case side1 => repeat (first | exact (Kd.R_reads' HO428.out).2.2 | (with_reducible refine Kd.C_alloc ?_ _) | (with_reducible refine Kd.C_drewN ?_ _) | (with_reducible refine Kd.C_drew ?_))); (case side2 => exact (Kd.R_reads' HO428.out).2.1); rintro e w75 ⟨v434, v437, rfl, ho0, ho1, hb⟩; refine ⟨_, rfl, ?_⟩; have z_ := p_ (Kd.R_elder' (raR_ HO_399004) (Kd.R_base ho0) hb) <| p_ (Kd.R_elder' (raR_ HO_399005) (Kd.R_base ho1) hb) <| p_ (Kd.R_elder' (raR_ HO_414004) (Kd.R_base ho0) hb) <| p_ (Kd.R_elder' (raR_ HO_414005) (Kd.R_base ho1) hb) <| p_ (Kd.R_below (raR_ HO428) hb) <| p_ (Kd.R_lower (Kd.R_new' (Kd.R_new' ho0 (Kd.R_lt (raR_ HO_399004))) (Kd.R_lt (raR_ HO_414004))) (below_size th_)) <| p_ (Kd.R_lower (Kd.R_new' (Kd.R_new' ho1 (Kd.R_lt (raR_ HO_399005))) (Kd.R_lt (raR_ HO_414005))) (below_size th_)) <| bw2_ (kb_ BK398) (kb_ BK413) th_ hb; clear HO_399004 HO_399005 HO_414004 HO_414005 HO428 BK398 BK413 HB; obtain ⟨HO_399004, HO_399005, HO_414004, HO_414005, HO428, HO435, HO438, BK398, BK413, HB⟩ := z_; (try clear hb); (try clear ho0); (try clear ho1)) | ((with_reducible refine gate_dst (N := 12) rfl ?_); refine be_ 12 (cs := #[.int .i64 0, .int .i64 0, .int .i64 0, .string (⟨#[]⟩ : ByteArray), .slice none 0 0, .slice none 0 0]) 27 ?_; intro gb440 hg w76 hbox hb; have z_ := p_ (Kd.R_below (raR_ HO_399004) hb) <| p_ (Kd.R_below (raR_ HO_399005) hb) <| p_ (Kd.R_below (raR_ HO_414004) hb) <| p_ (Kd.R_below (raR_ HO_414005) hb) <| p_ (Kd.R_below (raR_ HO428) hb) <| p_ (Kd.R_below (raR_ HO435) hb) <| p_ (Kd.R_below (raR_ HO438) hb) <| bx2_ (kb_ BK398) (kb_ BK413) th_ hb hbox hg; clear HO_399004 HO_399005 HO_414004 HO_414005 HO428 HO435 HO438 BK398 BK413 HB; obtain ⟨HO_399004, HO_399005, HO_414004, HO_414005, HO428, HO435, HO438, BK398, BK413, HB, BK440, GW440, GE440, NB398_440, NB440_398, NB413_440, NB440_413⟩ := z_; clear hb hbox hg; obtain ⟨n440_398, n398_440, n440_413, n413_440⟩ := an4_ NB440_398 NB398_440 NB440_413 NB413_440; obtain ⟨hcz79_0, hcz79_1, hcz79_2, hcz79_3, hcz79_4, hcz79_5⟩ := bk6_ BK440.out; obtain ⟨hfz79_0, hfz79_1, hfz79_2, hfz79_3, hfz79_4, hfz79_5⟩ := bf6_ BK440.out; obtain ⟨Ao80, co80, eo80⟩ := Kd.R_slice HO435.out; subst eo80; obtain ⟨Ao81, co81, eo81⟩ := Kd.R_slice HO438.out; subst eo81))
 (try simp only [Act.put, List.setIfInBounds_toArray, List.set_cons_zero, List.set_cons_succ])
 go_cut [87] (fun v87 wc => ∃ (kq : Nat) (x87_71 : Bool), v87 = .bool x87_71 ∧ Aside0 (laws_FnExactReadInode.j8 kq t422 x87_71 t402 t403 t404 t405 t423 t424 = some r) ∧ Aside0 (kq ≤ kj67) ∧ Aside0 (Kd.R k42 42 wc w.heap.size (fun k_ => some k_ ≠ ((.slice Ao23 t423.length co23) : Value).ownBlock ∧ some k_ ≠ ((.slice Ao80 t433.length co80) : Value).ownBlock) (.slice Ao15 t391.length co15) t391) ∧ Aside0 (Kd.R k47 47 wc w.heap.size (fun k_ => some k_ ≠ ((.slice Ao24 t424.length co24) : Value).ownBlock ∧ some k_ ≠ ((.slice Ao81 t436.length co81) : Value).ownBlock) (.slice Ao16 t394.length co16) t394) ∧ Aside0 (Kd.R k42 42 wc w.heap.size (fun k_ => some k_ ≠ ((.slice Ao15 t391.length co15) : Value).ownBlock ∧ some k_ ≠ ((.slice Ao80 t433.length co80) : Value).ownBlock) (.slice Ao23 t423.length co23) t423) ∧ Aside0 (Kd.R k47 47 wc w.heap.size (fun k_ => some k_ ≠ ((.slice Ao16 t394.length co16) : Value).ownBlock ∧ some k_ ≠ ((.slice Ao81 t436.length co81) : Value).ownBlock) (.slice Ao24 t424.length co24) t424) ∧ Aside0 (Kd.R k42 42 wc w.heap.size (fun k_ => some k_ ≠ ((.slice Ao15 t391.length co15) : Value).ownBlock ∧ some k_ ≠ ((.slice Ao23 t423.length co23) : Value).ownBlock) (.slice Ao80 t433.length co80) t433) ∧ Aside0 (Kd.R k47 47 wc w.heap.size (fun k_ => some k_ ≠ ((.slice Ao16 t394.length co16) : Value).ownBlock ∧ some k_ ≠ ((.slice Ao24 t424.length co24) : Value).ownBlock) (.slice Ao81 t436.length co81) t436) ∧ Aside0 (wc.heap[gb398]? = some (.cells #[.int .i64 t387, .int .i64 t388, .int .i64 t389, .string t390, (.slice Ao15 t391.length co15), (.slice Ao16 t394.length co16)] 27 (0, 0))) ∧ Aside0 (wc.heap[gb413]? = some (.cells #[.int .i64 t402, .int .i64 t403, .int .i64 t404, .string t405, (.slice Ao23 t423.length co23), (.slice Ao24 t424.length co24)] 27 (0, 0))) ∧ Aside0 (wc.heap[gb440]? = some (.cells #[.int .i64 t429, .int .i64 t430, .int .i64 t431, .string t432, (.slice Ao80 t433.length co80), (.slice Ao81 t436.length co81)] 27 (0, 0))) ∧ Aside0 (Below w.heap.size w wc))
 case first =>
  have H := HC72.out
  clear HC72
  obtain ⟨t441, A82, H⟩ := bd_ H
  by_cases c83 : t441 = true
  ·subst c83
   rw [if_pos rfl] at H
   have H' := Aside0.mk H
   clear H
   obtain ⟨hcz86_0, hcz86_1, hcz86_2, hcz86_3, hcz86_4, hcz86_5⟩ := bk6_ BK440.out
   obtain ⟨hfz86_0, hfz86_1, hfz86_2, hfz86_3, hfz86_4, hfz86_5⟩ := bf6_ BK440.out
   obtain ⟨hcz88_0, hcz88_1, hcz88_2, hcz88_3, hcz88_4, hcz88_5⟩ := bk6_ BK398.out
   obtain ⟨hfz88_0, hfz88_1, hfz88_2, hfz88_3, hfz88_4, hfz88_5⟩ := bf6_ BK398.out
   go_wp2_with (first | ((with_reducible refine gate_callee (f := 10) rfl ?_); refine goesL_ (some 81) rfl rfl Tryd.func10 (by kernel_rfl) rfl #[.agg #[.int .i64 t429, .int .i64 t430, .int .i64 t431, .string t432, .slice Ao80 t433.length co80, .slice Ao81 t436.length co81], .agg #[.int .i64 t387, .int .i64 t388, .int .i64 t389, .string t390, .slice Ao15 t391.length co15, .slice Ao16 t394.length co16]] rfl tq_0 ?_; (with_reducible refine (laws_eqInode.calls kj67 t429 t430 t431 t432 _ _ t433 _ _ t436 t387 t388 t389 t390 _ _ t391 _ _ t394 true _ ?side1 ?side2 ?side3 ?side4 ?side5 ?side6 ?side7 ?side8 A82.out).mono ?_); (case side1 => refine (Kd.R_reads' (e := 42) (base := w.heap.size) (ok := fun k_ => ((True ∧ some k_ ≠ (.slice Ao15 t391.length co15 : Value).ownBlock) ∧ some k_ ≠ (.slice Ao23 t423.length co23 : Value).ownBlock)) (n := t433.length) (c := co80) ?_).2.2; exact tq_29); (case side2 => exact (Kd.R_reads' HO435.out).2.1); (case side3 => refine (Kd.R_reads' (e := 47) (base := w.heap.size) (ok := fun k_ => ((True ∧ some k_ ≠ (.slice Ao16 t394.length co16 : Value).ownBlock) ∧ some k_ ≠ (.slice Ao24 t424.length co24 : Value).ownBlock)) (n := t436.length) (c := co81) ?_).2.2; exact tq_28); (case side4 => exact (Kd.R_reads' HO438.out).2.1); (case side5 => refine (Kd.R_reads' (e := 42) (base := w.heap.size) (ok := fun k_ => (some k_ ≠ (.slice Ao23 t423.length co23 : Value).ownBlock ∧ some k_ ≠ (.slice Ao80 t433.length co80 : Value).ownBlock)) (n := t391.length) (c := co15) ?_).2.2; exact tq_27); (case side6 => exact (Kd.R_reads' HO_399004.out).2.1); (case side7 => refine (Kd.R_reads' (e := 47) (base := w.heap.size) (ok := fun k_ => (some k_ ≠ (.slice Ao24 t424.length co24 : Value).ownBlock ∧ some k_ ≠ (.slice Ao81 t436.length co81 : Value).ownBlock)) (n := t394.length) (c := co16) ?_).2.2; exact tq_26); (case side8 => exact (Kd.R_reads' HO_399005.out).2.1); rintro e w89 ⟨rfl, hb⟩; refine ⟨_, rfl, ?_⟩; have z_ := p_ (Kd.R_below tq_27 hb) <| p_ (Kd.R_below tq_26 hb) <| p_ (Kd.R_below tq_61 hb) <| p_ (Kd.R_below tq_60 hb) <| p_ (Kd.R_below tq_64 hb) <| p_ (Kd.R_below tq_29 hb) <| p_ (Kd.R_below tq_28 hb) <| p_ (blk_below (g := gb398) (o := .cells #[.int .i64 t387, .int .i64 t388, .int .i64 t389, .string t390, .slice Ao15 t391.length co15, .slice Ao16 t394.length co16] 27 (0, 0)) tq_15 hb) <| p_ (blk_below (g := gb413) (o := .cells #[.int .i64 t402, .int .i64 t403, .int .i64 t404, .string t405, .slice Ao23 t423.length co23, .slice Ao24 t424.length co24] 27 (0, 0)) tq_14 hb) <| p_ (blk_below (g := gb440) (o := .cells #[.int .i64 t429, .int .i64 t430, .int .i64 t431, .string t432, .slice Ao80 t433.length co80, .slice Ao81 t436.length co81] 27 (0, 0)) tq_9 hb) <| a_ (below_step th_ hb); clear HO_399004 HO_399005 HO_414004 HO_414005 HO428 HO435 HO438 BK398 BK413 BK440 HB; obtain ⟨HO_399004, HO_399005, HO_414004, HO_414005, HO428, HO435, HO438, BK398, BK413, BK440, HB⟩ := z_; (try clear hb)))
   go_meet
   case rel => exact ⟨_, ((t439 != t397)), tq_3, H', ⟨tq_73⟩, ⟨tq_45⟩, ⟨tq_44⟩, ⟨tq_43⟩, ⟨tq_42⟩, ⟨tq_69⟩, ⟨tq_68⟩, ⟨tq_36⟩, ⟨tq_35⟩, ⟨tq_54⟩, ⟨th_⟩⟩
  replace c83 := Bool.eq_false_iff.mpr c83
  subst c83
  rw [if_neg nf_] at H
  have H' := Aside0.mk H
  clear H
  obtain ⟨hcz92_0, hcz92_1, hcz92_2, hcz92_3, hcz92_4, hcz92_5⟩ := bk6_ BK440.out
  obtain ⟨hfz92_0, hfz92_1, hfz92_2, hfz92_3, hfz92_4, hfz92_5⟩ := bf6_ BK440.out
  obtain ⟨hcz94_0, hcz94_1, hcz94_2, hcz94_3, hcz94_4, hcz94_5⟩ := bk6_ BK398.out
  obtain ⟨hfz94_0, hfz94_1, hfz94_2, hfz94_3, hfz94_4, hfz94_5⟩ := bf6_ BK398.out
  go_wp2_with (first | ((with_reducible refine gate_callee (f := 10) rfl ?_); refine goesL_ (some 81) rfl rfl Tryd.func10 (by kernel_rfl) rfl #[.agg #[.int .i64 t429, .int .i64 t430, .int .i64 t431, .string t432, .slice Ao80 t433.length co80, .slice Ao81 t436.length co81], .agg #[.int .i64 t387, .int .i64 t388, .int .i64 t389, .string t390, .slice Ao15 t391.length co15, .slice Ao16 t394.length co16]] rfl tq_0 ?_; (with_reducible refine (laws_eqInode.calls kj67 t429 t430 t431 t432 _ _ t433 _ _ t436 t387 t388 t389 t390 _ _ t391 _ _ t394 false _ ?side1 ?side2 ?side3 ?side4 ?side5 ?side6 ?side7 ?side8 A82.out).mono ?_); (case side1 => refine (Kd.R_reads' (e := 42) (base := w.heap.size) (ok := fun k_ => ((True ∧ some k_ ≠ (.slice Ao15 t391.length co15 : Value).ownBlock) ∧ some k_ ≠ (.slice Ao23 t423.length co23 : Value).ownBlock)) (n := t433.length) (c := co80) ?_).2.2; exact tq_29); (case side2 => exact (Kd.R_reads' HO435.out).2.1); (case side3 => refine (Kd.R_reads' (e := 47) (base := w.heap.size) (ok := fun k_ => ((True ∧ some k_ ≠ (.slice Ao16 t394.length co16 : Value).ownBlock) ∧ some k_ ≠ (.slice Ao24 t424.length co24 : Value).ownBlock)) (n := t436.length) (c := co81) ?_).2.2; exact tq_28); (case side4 => exact (Kd.R_reads' HO438.out).2.1); (case side5 => refine (Kd.R_reads' (e := 42) (base := w.heap.size) (ok := fun k_ => (some k_ ≠ (.slice Ao23 t423.length co23 : Value).ownBlock ∧ some k_ ≠ (.slice Ao80 t433.length co80 : Value).ownBlock)) (n := t391.length) (c := co15) ?_).2.2; exact tq_27); (case side6 => exact (Kd.R_reads' HO_399004.out).2.1); (case side7 => refine (Kd.R_reads' (e := 47) (base := w.heap.size) (ok := fun k_ => (some k_ ≠ (.slice Ao24 t424.length co24 : Value).ownBlock ∧ some k_ ≠ (.slice Ao81 t436.length co81 : Value).ownBlock)) (n := t394.length) (c := co16) ?_).2.2; exact tq_26); (case side8 => exact (Kd.R_reads' HO_399005.out).2.1); rintro e w95 ⟨rfl, hb⟩; refine ⟨_, rfl, ?_⟩; have z_ := p_ (Kd.R_below tq_27 hb) <| p_ (Kd.R_below tq_26 hb) <| p_ (Kd.R_below tq_61 hb) <| p_ (Kd.R_below tq_60 hb) <| p_ (Kd.R_below tq_64 hb) <| p_ (Kd.R_below tq_29 hb) <| p_ (Kd.R_below tq_28 hb) <| p_ (blk_below (g := gb398) (o := .cells #[.int .i64 t387, .int .i64 t388, .int .i64 t389, .string t390, .slice Ao15 t391.length co15, .slice Ao16 t394.length co16] 27 (0, 0)) tq_15 hb) <| p_ (blk_below (g := gb413) (o := .cells #[.int .i64 t402, .int .i64 t403, .int .i64 t404, .string t405, .slice Ao23 t423.length co23, .slice Ao24 t424.length co24] 27 (0, 0)) tq_14 hb) <| p_ (blk_below (g := gb440) (o := .cells #[.int .i64 t429, .int .i64 t430, .int .i64 t431, .string t432, .slice Ao80 t433.length co80, .slice Ao81 t436.length co81] 27 (0, 0)) tq_9 hb) <| a_ (below_step th_ hb); clear HO_399004 HO_399005 HO_414004 HO_414005 HO428 HO435 HO438 BK398 BK413 BK440 HB; obtain ⟨HO_399004, HO_399005, HO_414004, HO_414005, HO428, HO435, HO438, BK398, BK413, BK440, HB⟩ := z_; (try clear hb)))
  go_meet
  case rel => exact ⟨_, (true), tq_3, H', ⟨tq_73⟩, ⟨tq_45⟩, ⟨tq_44⟩, ⟨tq_43⟩, ⟨tq_42⟩, ⟨tq_69⟩, ⟨tq_68⟩, ⟨tq_36⟩, ⟨tq_35⟩, ⟨tq_54⟩, ⟨th_⟩⟩
 case rest =>
 clear HC72
 try clear c1; try clear c2; try clear p2; try clear c3; try clear c4; try clear c4b0; try clear c5; try clear c6; try clear c7; try clear c8; try clear c9; try clear c10; try clear c11; try clear c12; try clear c13; try clear c14; try clear c21; try clear c26; try clear c27; try clear c31; try clear c36; try clear c42; try clear c46; try clear c46b0; try clear c48; try clear c49; try clear c53; try clear c58; try clear c62; try clear c67; try clear c67b0; try clear c69; try clear c69b0; try clear c69b1; try clear c77; try clear c78; try clear c83; try clear c84; try clear c85; try clear c87; try clear c90; try clear c91; try clear c93; try clear hcz14_0 hcz14_1 hcz14_2 hcz14_3 hcz14_4 hcz14_5; try clear hcz22_0 hcz22_1 hcz22_2 hcz22_3 hcz22_4 hcz22_5; try clear hcz28_0 hcz28_1 hcz28_2 hcz28_3 hcz28_4 hcz28_5; try clear hcz29_0 hcz29_1 hcz29_2 hcz29_3 hcz29_4 hcz29_5; try clear hcz32_0 hcz32_1 hcz32_2 hcz32_3 hcz32_4 hcz32_5; try clear hcz33_0 hcz33_1 hcz33_2 hcz33_3 hcz33_4 hcz33_5; try clear hcz50_0 hcz50_1 hcz50_2 hcz50_3 hcz50_4 hcz50_5; try clear hcz51_0 hcz51_1 hcz51_2 hcz51_3 hcz51_4 hcz51_5; try clear hcz54_0 hcz54_1 hcz54_2 hcz54_3 hcz54_4 hcz54_5; try clear hcz55_0 hcz55_1 hcz55_2 hcz55_3 hcz55_4 hcz55_5; try clear hcz63_0 hcz63_1 hcz63_2 hcz63_3 hcz63_4 hcz63_5; try clear hcz65_0 hcz65_1 hcz65_2 hcz65_3 hcz65_4 hcz65_5; try clear hcz79_0 hcz79_1 hcz79_2 hcz79_3 hcz79_4 hcz79_5; try clear hcz86_0 hcz86_1 hcz86_2 hcz86_3 hcz86_4 hcz86_5; try clear hcz88_0 hcz88_1 hcz88_2 hcz88_3 hcz88_4 hcz88_5; try clear hcz92_0 hcz92_1 hcz92_2 hcz92_3 hcz92_4 hcz92_5; try clear hcz94_0 hcz94_1 hcz94_2 hcz94_3 hcz94_4 hcz94_5; try clear hfz14_0 hfz14_1 hfz14_2 hfz14_3 hfz14_4 hfz14_5; try clear hfz22_0 hfz22_1 hfz22_2 hfz22_3 hfz22_4 hfz22_5; try clear hfz28_0 hfz28_1 hfz28_2 hfz28_3 hfz28_4 hfz28_5; try clear hfz29_0 hfz29_1 hfz29_2 hfz29_3 hfz29_4 hfz29_5; try clear hfz32_0 hfz32_1 hfz32_2 hfz32_3 hfz32_4 hfz32_5; try clear hfz33_0 hfz33_1 hfz33_2 hfz33_3 hfz33_4 hfz33_5; try clear hfz50_0 hfz50_1 hfz50_2 hfz50_3 hfz50_4 hfz50_5; try clear hfz51_0 hfz51_1 hfz51_2 hfz51_3 hfz51_4 hfz51_5; try clear hfz54_0 hfz54_1 hfz54_2 hfz54_3 hfz54_4 hfz54_5; try clear hfz55_0 hfz55_1 hfz55_2 hfz55_3 hfz55_4 hfz55_5; try clear hfz63_0 hfz63_1 hfz63_2 hfz63_3 hfz63_4 hfz63_5; try clear hfz65_0 hfz65_1 hfz65_2 hfz65_3 hfz65_4 hfz65_5; try clear hfz79_0 hfz79_1 hfz79_2 hfz79_3 hfz79_4 hfz79_5; try clear hfz86_0 hfz86_1 hfz86_2 hfz86_3 hfz86_4 hfz86_5; try clear hfz88_0 hfz88_1 hfz88_2 hfz88_3 hfz88_4 hfz88_5; try clear hfz92_0 hfz92_1 hfz92_2 hfz92_3 hfz92_4 hfz92_5; try clear hfz94_0 hfz94_1 hfz94_2 hfz94_3 hfz94_4 hfz94_5; try clear p2
 obtain ⟨kq, x87_71, rfl, HA, HJ71, HO_399004, HO_399005, HO_414004, HO_414005, HO_441004, HO_441005, BK398, BK413, BK440, HB⟩ := hcut
 cases kq with
 | zero => exact absurd HA.out (by simp [laws_FnExactReadInode.j8])
 | succ kj71 =>
 have H := HA.out
 clear HA
 simp only [laws_FnExactReadInode.j8] at H
 have HC96 := Aside0.mk H
 clear H
 go_upto_if 87 with (fail)
 go_cut [] (fun wc => ∃ (kq : Nat), Aside0 (laws_FnExactReadInode.j9 kq t422 t402 t403 t404 t405 t423 t424 = some r) ∧ Aside0 (kq ≤ kj71) ∧ Aside0 (Kd.R k42 42 wc w.heap.size (fun k_ => some k_ ≠ ((.slice Ao23 t423.length co23) : Value).ownBlock ∧ some k_ ≠ ((.slice Ao80 t433.length co80) : Value).ownBlock) (.slice Ao15 t391.length co15) t391) ∧ Aside0 (Kd.R k47 47 wc w.heap.size (fun k_ => some k_ ≠ ((.slice Ao24 t424.length co24) : Value).ownBlock ∧ some k_ ≠ ((.slice Ao81 t436.length co81) : Value).ownBlock) (.slice Ao16 t394.length co16) t394) ∧ Aside0 (Kd.R k42 42 wc w.heap.size (fun k_ => some k_ ≠ ((.slice Ao15 t391.length co15) : Value).ownBlock ∧ some k_ ≠ ((.slice Ao80 t433.length co80) : Value).ownBlock) (.slice Ao23 t423.length co23) t423) ∧ Aside0 (Kd.R k47 47 wc w.heap.size (fun k_ => some k_ ≠ ((.slice Ao16 t394.length co16) : Value).ownBlock ∧ some k_ ≠ ((.slice Ao81 t436.length co81) : Value).ownBlock) (.slice Ao24 t424.length co24) t424) ∧ Aside0 (Kd.R k42 42 wc w.heap.size (fun k_ => some k_ ≠ ((.slice Ao15 t391.length co15) : Value).ownBlock ∧ some k_ ≠ ((.slice Ao23 t423.length co23) : Value).ownBlock) (.slice Ao80 t433.length co80) t433) ∧ Aside0 (Kd.R k47 47 wc w.heap.size (fun k_ => some k_ ≠ ((.slice Ao16 t394.length co16) : Value).ownBlock ∧ some k_ ≠ ((.slice Ao24 t424.length co24) : Value).ownBlock) (.slice Ao81 t436.length co81) t436) ∧ Aside0 (wc.heap[gb398]? = some (.cells #[.int .i64 t387, .int .i64 t388, .int .i64 t389, .string t390, (.slice Ao15 t391.length co15), (.slice Ao16 t394.length co16)] 27 (0, 0))) ∧ Aside0 (wc.heap[gb413]? = some (.cells #[.int .i64 t402, .int .i64 t403, .int .i64 t404, .string t405, (.slice Ao23 t423.length co23), (.slice Ao24 t424.length co24)] 27 (0, 0))) ∧ Aside0 (wc.heap[gb440]? = some (.cells #[.int .i64 t429, .int .i64 t430, .int .i64 t431, .string t432, (.slice Ao80 t433.length co80), (.slice Ao81 t436.length co81)] 27 (0, 0))) ∧ Aside0 (Below w.heap.size w wc))
 case first =>
  have H := HC96.out
  clear HC96
  by_cases c97 : x87_71 = true
  ·subst c97
   rw [if_pos rfl] at H
   obtain rfl := Option.some.inj H
   go_wp2
   go_ret
   exact ⟨tq_2, th_⟩
  replace c97 := Bool.eq_false_iff.mpr c97
  subst c97
  rw [if_neg nf_] at H
  have H' := Aside0.mk H
  clear H
  go_wp2
  go_meet
  case rel => exact ⟨_, H', ⟨(by have := HJ2.out; have := HJ8.out; have := HJ34.out; have := HJ38.out; have := HJ43.out; have := HJ56.out; have := HJ60.out; have := HJ67.out; have := HJ71.out; first | omega | exact Nat.le_refl _)⟩, ⟨tq_45⟩, ⟨tq_44⟩, ⟨tq_43⟩, ⟨tq_42⟩, ⟨(by (try simp only [hl414004_60]); (try simp only [hl414005_60]); (with_reducible repeat (first | apply Kd.R_alloc | apply Kd.R_drewN | apply Kd.R_drew)); exact HO_441004.out)⟩, ⟨(by (try simp only [hl414004_60]); (try simp only [hl414005_60]); (with_reducible repeat (first | apply Kd.R_alloc | apply Kd.R_drewN | apply Kd.R_drew)); exact HO_441005.out)⟩, ⟨tq_36⟩, ⟨tq_35⟩, ⟨tq_54⟩, ⟨th_⟩⟩
 case rest =>
 clear HC96
 try clear c1; try clear c2; try clear p2; try clear c3; try clear c4; try clear c4b0; try clear c5; try clear c6; try clear c7; try clear c8; try clear c9; try clear c10; try clear c11; try clear c12; try clear c13; try clear c14; try clear c21; try clear c26; try clear c27; try clear c31; try clear c36; try clear c42; try clear c46; try clear c46b0; try clear c48; try clear c49; try clear c53; try clear c58; try clear c62; try clear c67; try clear c67b0; try clear c69; try clear c69b0; try clear c69b1; try clear c77; try clear c78; try clear c83; try clear c84; try clear c85; try clear c87; try clear c90; try clear c91; try clear c93; try clear c97; try clear hcz14_0 hcz14_1 hcz14_2 hcz14_3 hcz14_4 hcz14_5; try clear hcz22_0 hcz22_1 hcz22_2 hcz22_3 hcz22_4 hcz22_5; try clear hcz28_0 hcz28_1 hcz28_2 hcz28_3 hcz28_4 hcz28_5; try clear hcz29_0 hcz29_1 hcz29_2 hcz29_3 hcz29_4 hcz29_5; try clear hcz32_0 hcz32_1 hcz32_2 hcz32_3 hcz32_4 hcz32_5; try clear hcz33_0 hcz33_1 hcz33_2 hcz33_3 hcz33_4 hcz33_5; try clear hcz50_0 hcz50_1 hcz50_2 hcz50_3 hcz50_4 hcz50_5; try clear hcz51_0 hcz51_1 hcz51_2 hcz51_3 hcz51_4 hcz51_5; try clear hcz54_0 hcz54_1 hcz54_2 hcz54_3 hcz54_4 hcz54_5; try clear hcz55_0 hcz55_1 hcz55_2 hcz55_3 hcz55_4 hcz55_5; try clear hcz63_0 hcz63_1 hcz63_2 hcz63_3 hcz63_4 hcz63_5; try clear hcz65_0 hcz65_1 hcz65_2 hcz65_3 hcz65_4 hcz65_5; try clear hcz79_0 hcz79_1 hcz79_2 hcz79_3 hcz79_4 hcz79_5; try clear hcz86_0 hcz86_1 hcz86_2 hcz86_3 hcz86_4 hcz86_5; try clear hcz88_0 hcz88_1 hcz88_2 hcz88_3 hcz88_4 hcz88_5; try clear hcz92_0 hcz92_1 hcz92_2 hcz92_3 hcz92_4 hcz92_5; try clear hcz94_0 hcz94_1 hcz94_2 hcz94_3 hcz94_4 hcz94_5; try clear hfz14_0 hfz14_1 hfz14_2 hfz14_3 hfz14_4 hfz14_5; try clear hfz22_0 hfz22_1 hfz22_2 hfz22_3 hfz22_4 hfz22_5; try clear hfz28_0 hfz28_1 hfz28_2 hfz28_3 hfz28_4 hfz28_5; try clear hfz29_0 hfz29_1 hfz29_2 hfz29_3 hfz29_4 hfz29_5; try clear hfz32_0 hfz32_1 hfz32_2 hfz32_3 hfz32_4 hfz32_5; try clear hfz33_0 hfz33_1 hfz33_2 hfz33_3 hfz33_4 hfz33_5; try clear hfz50_0 hfz50_1 hfz50_2 hfz50_3 hfz50_4 hfz50_5; try clear hfz51_0 hfz51_1 hfz51_2 hfz51_3 hfz51_4 hfz51_5; try clear hfz54_0 hfz54_1 hfz54_2 hfz54_3 hfz54_4 hfz54_5; try clear hfz55_0 hfz55_1 hfz55_2 hfz55_3 hfz55_4 hfz55_5; try clear hfz63_0 hfz63_1 hfz63_2 hfz63_3 hfz63_4 hfz63_5; try clear hfz65_0 hfz65_1 hfz65_2 hfz65_3 hfz65_4 hfz65_5; try clear hfz79_0 hfz79_1 hfz79_2 hfz79_3 hfz79_4 hfz79_5; try clear hfz86_0 hfz86_1 hfz86_2 hfz86_3 hfz86_4 hfz86_5; try clear hfz88_0 hfz88_1 hfz88_2 hfz88_3 hfz88_4 hfz88_5; try clear hfz92_0 hfz92_1 hfz92_2 hfz92_3 hfz92_4 hfz92_5; try clear hfz94_0 hfz94_1 hfz94_2 hfz94_3 hfz94_4 hfz94_5; try clear p2
 obtain ⟨kq, HA, HJ95, HO_399004, HO_399005, HO_414004, HO_414005, HO_441004, HO_441005, BK398, BK413, BK440, HB⟩ := hcut
 cases kq with
 | zero => exact absurd HA.out (by simp [laws_FnExactReadInode.j9])
 | succ kj95 =>
 have H := HA.out
 clear HA
 simp only [laws_FnExactReadInode.j9] at H
 obtain ⟨t442, A98, H⟩ := bd_ H
 by_cases c99 : t442 < 0
 ·rw [if_pos c99] at H
  have c99b0 := decide_eq_true c99
  clear c99
  obtain rfl := Option.some.inj H
  obtain ⟨hcz102_0, hcz102_1, hcz102_2, hcz102_3, hcz102_4, hcz102_5⟩ := bk6_ BK413.out
  obtain ⟨hfz102_0, hfz102_1, hfz102_2, hfz102_3, hfz102_4, hfz102_5⟩ := bf6_ BK413.out
  go_wp2_with (first | ((with_reducible refine gate_callee (f := 14) rfl ?_); refine goesL_ (some 90) rfl rfl Tryd.func14 (by kernel_rfl) rfl #[.agg #[.int .i64 t402, .int .i64 t403, .int .i64 t404, .string t405, .slice Ao23 t423.length co23, .slice Ao24 t424.length co24], .int .i64 1] rfl tq_0 ?_; (with_reducible refine (laws_heldInode.calls kj95 t402 t403 t404 t405 _ _ t423 _ _ t424 1 t442 _ ?side1 ?side2 ?side3 ?side4 A98.out).mono ?_); (case side1 => exact tq_18); (case side2 => exact (Kd.R_reads' HO_414004.out).2.1); (case side3 => exact tq_17); (case side4 => exact (Kd.R_reads' HO_414005.out).2.1); rintro e w103 ⟨rfl, hb⟩; refine ⟨_, rfl, ?_⟩; have z_ := p_ (Kd.R_below (raR_ HO_399004) hb) <| p_ (Kd.R_below (raR_ HO_399005) hb) <| p_ (Kd.R_below (raR_ HO_414004) hb) <| p_ (Kd.R_below (raR_ HO_414005) hb) <| p_ (Kd.R_below (raR_ HO_441004) hb) <| p_ (Kd.R_below (raR_ HO_441005) hb) <| bw3_ (kb_ BK398) (kb_ BK413) (kb_ BK440) th_ hb; clear HO_399004 HO_399005 HO_414004 HO_414005 HO_441004 HO_441005 BK398 BK413 BK440 HB; obtain ⟨HO_399004, HO_399005, HO_414004, HO_414005, HO_441004, HO_441005, BK398, BK413, BK440, HB⟩ := z_; (try clear hb)))
  go_ret
  exact ⟨tq_2, th_⟩
 rw [if_neg c99] at H
 have c99b0 := decide_eq_false c99
 clear c99
 by_cases c104 : t442 = t422
 rotate_left
 ·rw [if_neg c104] at H
  have c104b0 := beq_eq_false_iff_ne.mpr c104
  have c104b1 := bne_iff_ne.mpr c104
  obtain rfl := Option.some.inj H
  obtain ⟨hcz111_0, hcz111_1, hcz111_2, hcz111_3, hcz111_4, hcz111_5⟩ := bk6_ BK413.out
  obtain ⟨hfz111_0, hfz111_1, hfz111_2, hfz111_3, hfz111_4, hfz111_5⟩ := bf6_ BK413.out
  go_wp2_with (first | ((with_reducible refine gate_callee (f := 14) rfl ?_); refine goesL_ (some 90) rfl rfl Tryd.func14 (by kernel_rfl) rfl #[.agg #[.int .i64 t402, .int .i64 t403, .int .i64 t404, .string t405, .slice Ao23 t423.length co23, .slice Ao24 t424.length co24], .int .i64 1] rfl tq_0 ?_; (with_reducible refine (laws_heldInode.calls kj95 t402 t403 t404 t405 _ _ t423 _ _ t424 1 t442 _ ?side1 ?side2 ?side3 ?side4 A98.out).mono ?_); (case side1 => exact tq_18); (case side2 => exact (Kd.R_reads' HO_414004.out).2.1); (case side3 => exact tq_17); (case side4 => exact (Kd.R_reads' HO_414005.out).2.1); rintro e w112 ⟨rfl, hb⟩; refine ⟨_, rfl, ?_⟩; have z_ := p_ (Kd.R_below (raR_ HO_399004) hb) <| p_ (Kd.R_below (raR_ HO_399005) hb) <| p_ (Kd.R_below (raR_ HO_414004) hb) <| p_ (Kd.R_below (raR_ HO_414005) hb) <| p_ (Kd.R_below (raR_ HO_441004) hb) <| p_ (Kd.R_below (raR_ HO_441005) hb) <| bw3_ (kb_ BK398) (kb_ BK413) (kb_ BK440) th_ hb; clear HO_399004 HO_399005 HO_414004 HO_414005 HO_441004 HO_441005 BK398 BK413 BK440 HB; obtain ⟨HO_399004, HO_399005, HO_414004, HO_414005, HO_441004, HO_441005, BK398, BK413, BK440, HB⟩ := z_; (try clear hb)))
  go_ret
  exact ⟨tq_2, th_⟩
 rw [if_pos c104] at H
 have c104b0 := beq_iff_eq.mpr c104
 have c104b1 := bne_eq_false_iff_eq.mpr c104
 clear c104
 obtain rfl := Option.some.inj H
 obtain ⟨hcz107_0, hcz107_1, hcz107_2, hcz107_3, hcz107_4, hcz107_5⟩ := bk6_ BK413.out
 obtain ⟨hfz107_0, hfz107_1, hfz107_2, hfz107_3, hfz107_4, hfz107_5⟩ := bf6_ BK413.out
 go_wp2_with (first | ((with_reducible refine gate_callee (f := 14) rfl ?_); refine goesL_ (some 90) rfl rfl Tryd.func14 (by kernel_rfl) rfl #[.agg #[.int .i64 t402, .int .i64 t403, .int .i64 t404, .string t405, .slice Ao23 t423.length co23, .slice Ao24 t424.length co24], .int .i64 1] rfl tq_0 ?_; (with_reducible refine (laws_heldInode.calls kj95 t402 t403 t404 t405 _ _ t423 _ _ t424 1 t442 _ ?side1 ?side2 ?side3 ?side4 A98.out).mono ?_); (case side1 => exact tq_18); (case side2 => exact (Kd.R_reads' HO_414004.out).2.1); (case side3 => exact tq_17); (case side4 => exact (Kd.R_reads' HO_414005.out).2.1); rintro e w108 ⟨rfl, hb⟩; refine ⟨_, rfl, ?_⟩; have z_ := p_ (Kd.R_below (raR_ HO_399004) hb) <| p_ (Kd.R_below (raR_ HO_399005) hb) <| p_ (Kd.R_below (raR_ HO_414004) hb) <| p_ (Kd.R_below (raR_ HO_414005) hb) <| p_ (Kd.R_below (raR_ HO_441004) hb) <| p_ (Kd.R_below (raR_ HO_441005) hb) <| bw3_ (kb_ BK398) (kb_ BK413) (kb_ BK440) th_ hb; clear HO_399004 HO_399005 HO_414004 HO_414005 HO_441004 HO_441005 BK398 BK413 BK440 HB; obtain ⟨HO_399004, HO_399005, HO_414004, HO_414005, HO_441004, HO_441005, BK398, BK413, BK440, HB⟩ := z_; (try clear hb)))
 go_ret
 exact ⟨tq_2, th_⟩

end Go.Proofs.YtjfhddenmnjgbaaDoor.PFnExactReadInode
