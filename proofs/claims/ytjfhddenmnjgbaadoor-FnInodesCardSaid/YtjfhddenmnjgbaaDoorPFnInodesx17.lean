/- Contracts of Go functions, written by a program of ours over the print of the kit: each says that the call returns what the Lean function beside it computes. Conditions: as each theorem states them. -/
import Derived.Test.YtjfhddenmnjgbaaDoorPkFnInodes
import Derived.Test.YtjfhddenmnjgbaaDoorPFnInodesx0
import Derived.Test.YtjfhddenmnjgbaaDoorPFnInodesx1
import Derived.Test.YtjfhddenmnjgbaaDoorPFnInodesx2
import Derived.Test.YtjfhddenmnjgbaaDoorPFnInodesx3
import Derived.Test.YtjfhddenmnjgbaaDoorPFnInodesx4
import Derived.Test.YtjfhddenmnjgbaaDoorPFnInodesx6
import Derived.Test.YtjfhddenmnjgbaaDoorPFnInodesx7
import Derived.Test.YtjfhddenmnjgbaaDoorPFnInodesx9
import Derived.Test.YtjfhddenmnjgbaaDoorPFnInodesx10
import Derived.Test.YtjfhddenmnjgbaaDoorPFnInodesx13
import Derived.Test.YtjfhddenmnjgbaaDoorPFnInodesx15
import Derived.Test.YtjfhddenmnjgbaaDoorPFnInodesx16
namespace Go.Proofs.YtjfhddenmnjgbaaDoor.PFnInodes
open Go.RowKit Go.Proofs.YtjfhddenmnjgbaaDoorW.PrintWords Go.Proofs.YtjfhddenmnjgbaaDoorW.PrintLast Go.Proofs.YtjfhddenmnjgbaaDoorW.PrintMore
attribute [local go_sem] max2_int min2_int max_two min_two max_three min_three max_four min_four setCell_drewN   -- for this text's walks alone
set_option linter.unusedVariables false
set_option linter.unusedSimpArgs false

attribute [local go_sem high] eqA42 eqA47
/-! ### laws_FnInodes: function 4 -/
mutual
def laws_FnInodes.j0 : Nat → List Int → Option (Bool)
 | 0, _ => none
 | k + 1, x0 => (spec_DrawInodeWords.f k x0).bind fun bt492 => ((impl_InodeWords.f k bt492.1 bt492.2.1 bt492.2.2.1 bt492.2.2.2.1 bt492.2.2.2.2.1 bt492.2.2.2.2.2).bind fun t503 => ((spec_InodeOk.f k bt492.1 bt492.2.1 bt492.2.2.1 bt492.2.2.2.1 bt492.2.2.2.2.1 bt492.2.2.2.2.2).bind fun t506 => (if t506 = true then (laws_FnInodes.j1 k t503 bt492.1 bt492.2.1 bt492.2.2.1 bt492.2.2.2.1 bt492.2.2.2.2.1 bt492.2.2.2.2.2) else (if (t503.length : Int) = 0 then ((impl_InodeOk.f k bt492.1 bt492.2.1 bt492.2.2.1 bt492.2.2.2.1 bt492.2.2.2.2.1 bt492.2.2.2.2.2).bind fun t507 => (if t507 = true then (some false) else ((impl_PagesFor.f 33).bind fun t508 => (some (t508 == 2))))) else (some false)))))
def laws_FnInodes.j1 : Nat → List ByteArray → Int → Int → Int → ByteArray → List (S42) → List (S47) → Option (Bool)
 | 0, _, _, _, _, _, _, _ => none
 | k + 1, x4, x503000, x503001, x503002, x503003, x503004, x503005 => (impl_ReadInode.f k x4).bind fun bt509 => (laws_FnInodes.l0 k x4 bt509.2.2.2.2.2.2 0 x503000 x503001 x503002 x503003 x503004 x503005 bt509.1 bt509.2.1 bt509.2.2.1 bt509.2.2.2.1 bt509.2.2.2.2.1 bt509.2.2.2.2.2.1)
def laws_FnInodes.l0 : Nat → List ByteArray → Bool → Int → Int → Int → Int → ByteArray → List (S42) → List (S47) → Int → Int → Int → ByteArray → List (S42) → List (S47) → Option (Bool)
 | 0, _, _, _, _, _, _, _, _, _, _, _, _, _, _, _ => none
 | k + 1, x4, x6, x7, x503000, x503001, x503002, x503003, x503004, x503005, x521000, x521001, x521002, x521003, x521004, x521005 => if x7 < (x503004.length : Int) then (laws_FnInodes.j3 k x4 x6 x7 x503000 x503001 x503002 x503003 x503004 x503005 x521000 x521001 x521002 x521003 x521004 x521005) else (laws_FnInodes.l1 k x4 x6 0 x503000 x503001 x503002 x503003 x503004 x503005 x521000 x521001 x521002 x521003 x521004 x521005)
def laws_FnInodes.j3 : Nat → List ByteArray → Bool → Int → Int → Int → Int → ByteArray → List (S42) → List (S47) → Int → Int → Int → ByteArray → List (S42) → List (S47) → Option (Bool)
 | 0, _, _, _, _, _, _, _, _, _, _, _, _, _, _, _ => none
 | k + 1, x4, x6, x7, x503000, x503001, x503002, x503003, x503004, x503005, x521000, x521001, x521002, x521003, x521004, x521005 => if 0 ≤ x7 then (if x7 < (x503004.length : Int) then ((impl_RecWord.f k ((rd_T42 x503004 x7).f0) ((rd_T42 x503004 x7).f1) ((rd_T42 x503004 x7).f2)).bind fun t522 => ((impl_ReadRec.f k t522).bind fun bt523 => (if bt523.2.2.2 = true then (if (!(bt523.1 == ((rd_T42 x503004 x7).f0)) || (!(bt523.2.1 == ((rd_T42 x503004 x7).f1)) || (!(bt523.2.2.1.toList == (((rd_T42 x503004 x7).f2).toList))))) = true then (some false) else (laws_FnInodes.l0 k x4 x6 (wrap64 (x7 + 1)) x503000 x503001 x503002 x503003 x503004 x503005 x521000 x521001 x521002 x521003 x521004 x521005)) else (some false)))) else (none)) else (none)
def laws_FnInodes.l1 : Nat → List ByteArray → Bool → Int → Int → Int → Int → ByteArray → List (S42) → List (S47) → Int → Int → Int → ByteArray → List (S42) → List (S47) → Option (Bool)
 | 0, _, _, _, _, _, _, _, _, _, _, _, _, _, _, _ => none
 | k + 1, x4, x6, x10, x503000, x503001, x503002, x503003, x503004, x503005, x521000, x521001, x521002, x521003, x521004, x521005 => if x10 < (x503005.length : Int) then (laws_FnInodes.j5 k x4 x6 x10 x503000 x503001 x503002 x503003 x503004 x503005 x521000 x521001 x521002 x521003 x521004 x521005) else (if (x4.length : Int) = 8 then (if x6 = true then ((laws_sameInode.f k x521000 x521001 x521002 x521003 x521004 x521005 x503000 x503001 x503002 x503003 x503004 x503005).bind fun t529 => (if t529 = true then ((impl_InodeOk.f k x503000 x503001 x503002 x503003 x503004 x503005).bind fun t530 => (if t530 = true then ((impl_PagesFor.f x503001).bind fun t531 => (some ((x503004.length : Int) == t531))) else (some false))) else (some false))) else (some false)) else (some false))
def laws_FnInodes.j5 : Nat → List ByteArray → Bool → Int → Int → Int → Int → ByteArray → List (S42) → List (S47) → Int → Int → Int → ByteArray → List (S42) → List (S47) → Option (Bool)
 | 0, _, _, _, _, _, _, _, _, _, _, _, _, _, _, _ => none
 | k + 1, x4, x6, x10, x503000, x503001, x503002, x503003, x503004, x503005, x521000, x521001, x521002, x521003, x521004, x521005 => if 0 ≤ x10 then (if x10 < (x503005.length : Int) then ((impl_EntryWord.f k ((rd_T47 x503005 x10).f0) ((rd_T47 x503005 x10).f1)).bind fun t533 => ((impl_ReadEntry.f k t533).bind fun bt534 => (if bt534.2.2 = true then (if (!(bt534.1 == ((rd_T47 x503005 x10).f0)) || (!(bt534.2.1.toList == (((rd_T47 x503005 x10).f1).toList)))) = true then (some false) else ((impl_NameOk.f k bt534.2.1).bind fun t539 => (if t539 = true then (laws_FnInodes.l1 k x4 x6 (wrap64 (x10 + 1)) x503000 x503001 x503002 x503003 x503004 x503005 x521000 x521001 x521002 x521003 x521004 x521005) else (some false)))) else (some false)))) else (none)) else (none)
end
def laws_FnInodes.f (k : Nat) (l0 : List Int) : Option (Bool) := (laws_big.f l0).bind fun t491 => (if t491 = true then (some true) else (laws_FnInodes.j0 k l0))
theorem laws_FnInodes.mono_l : ∀ k, (∀ y0, LeO (laws_FnInodes.j0 k y0) (laws_FnInodes.j0 (k + 1) y0)) ∧ (∀ y0 y1 y2 y3 y4 y5 y6, LeO (laws_FnInodes.j1 k y0 y1 y2 y3 y4 y5 y6) (laws_FnInodes.j1 (k + 1) y0 y1 y2 y3 y4 y5 y6)) ∧ (∀ y0 y1 y2 y3 y4 y5 y6 y7 y8 y9 y10 y11 y12 y13 y14, LeO (laws_FnInodes.l0 k y0 y1 y2 y3 y4 y5 y6 y7 y8 y9 y10 y11 y12 y13 y14) (laws_FnInodes.l0 (k + 1) y0 y1 y2 y3 y4 y5 y6 y7 y8 y9 y10 y11 y12 y13 y14)) ∧ (∀ y0 y1 y2 y3 y4 y5 y6 y7 y8 y9 y10 y11 y12 y13 y14, LeO (laws_FnInodes.j3 k y0 y1 y2 y3 y4 y5 y6 y7 y8 y9 y10 y11 y12 y13 y14) (laws_FnInodes.j3 (k + 1) y0 y1 y2 y3 y4 y5 y6 y7 y8 y9 y10 y11 y12 y13 y14)) ∧ (∀ y0 y1 y2 y3 y4 y5 y6 y7 y8 y9 y10 y11 y12 y13 y14, LeO (laws_FnInodes.l1 k y0 y1 y2 y3 y4 y5 y6 y7 y8 y9 y10 y11 y12 y13 y14) (laws_FnInodes.l1 (k + 1) y0 y1 y2 y3 y4 y5 y6 y7 y8 y9 y10 y11 y12 y13 y14)) ∧ (∀ y0 y1 y2 y3 y4 y5 y6 y7 y8 y9 y10 y11 y12 y13 y14, LeO (laws_FnInodes.j5 k y0 y1 y2 y3 y4 y5 y6 y7 y8 y9 y10 y11 y12 y13 y14) (laws_FnInodes.j5 (k + 1) y0 y1 y2 y3 y4 y5 y6 y7 y8 y9 y10 y11 y12 y13 y14))
 | 0 => ⟨fun _ r h => by simp [laws_FnInodes.j0] at h, fun _ _ _ _ _ _ _ r h => by simp [laws_FnInodes.j1] at h, fun _ _ _ _ _ _ _ _ _ _ _ _ _ _ _ r h => by simp [laws_FnInodes.l0] at h, fun _ _ _ _ _ _ _ _ _ _ _ _ _ _ _ r h => by simp [laws_FnInodes.j3] at h, fun _ _ _ _ _ _ _ _ _ _ _ _ _ _ _ r h => by simp [laws_FnInodes.l1] at h, fun _ _ _ _ _ _ _ _ _ _ _ _ _ _ _ r h => by simp [laws_FnInodes.j5] at h⟩
 | k + 1 => by
  obtain ⟨ih0, ih1, ih2, ih3, ih4, ih5⟩ := laws_FnInodes.mono_l k
  refine ⟨?_, ?_, ?_, ?_, ?_, ?_⟩
  ·intro y0
   unfold laws_FnInodes.j0
   exact mo_6
  ·intro y0 y1 y2 y3 y4 y5 y6
   unfold laws_FnInodes.j1
   exact mo_6
  ·intro y0 y1 y2 y3 y4 y5 y6 y7 y8 y9 y10 y11 y12 y13 y14
   unfold laws_FnInodes.l0
   exact mo_6
  ·intro y0 y1 y2 y3 y4 y5 y6 y7 y8 y9 y10 y11 y12 y13 y14
   unfold laws_FnInodes.j3
   exact mo_6
  ·intro y0 y1 y2 y3 y4 y5 y6 y7 y8 y9 y10 y11 y12 y13 y14
   unfold laws_FnInodes.l1
   exact mo_6
  ·intro y0 y1 y2 y3 y4 y5 y6 y7 y8 y9 y10 y11 y12 y13 y14
   unfold laws_FnInodes.j5
   exact mo_6
theorem laws_FnInodes.mono : ∀ a0 k, LeO (laws_FnInodes.f k a0) (laws_FnInodes.f (k + 1) a0) := by
 intro a0 k
 obtain ⟨ih0, ih1, ih2, ih3, ih4, ih5⟩ := laws_FnInodes.mono_l k
 unfold laws_FnInodes.f
 repeat' first
   | (with_reducible exact ih0 _)
   | (with_reducible exact ih1 ..)
   | (with_reducible exact ih2 ..)
   | (with_reducible exact ih3 ..)
   | (with_reducible exact ih4 ..)
   | (with_reducible exact ih5 ..)
   | (with_reducible exact impl_EntryWord.mono ..)
   | (with_reducible exact impl_InodeOk.mono ..)
   | (with_reducible exact impl_InodeWords.mono ..)
   | (with_reducible exact impl_NameOk.mono ..)
   | (with_reducible exact impl_ReadEntry.mono ..)
   | (with_reducible exact impl_ReadInode.mono ..)
   | (with_reducible exact impl_ReadRec.mono ..)
   | (with_reducible exact impl_RecWord.mono ..)
   | (with_reducible exact laws_sameInode.mono ..)
   | (with_reducible exact spec_DrawInodeWords.mono ..)
   | (with_reducible exact spec_InodeOk.mono ..)
   | (with_reducible exact LeO.refl _)
   | (with_reducible exact LeO.none _)
   | (with_reducible refine LeO.ite ?_ ?_)
   | (with_reducible refine LeO.bind ?_ (fun _ => ?_))
   | exact ih0 _
   | exact ih1 ..
   | exact ih2 ..
   | exact ih3 ..
   | exact ih4 ..
   | exact ih5 ..
   | exact impl_EntryWord.mono ..
   | exact impl_InodeOk.mono ..
   | exact impl_InodeWords.mono ..
   | exact impl_NameOk.mono ..
   | exact impl_ReadEntry.mono ..
   | exact impl_ReadInode.mono ..
   | exact impl_ReadRec.mono ..
   | exact impl_RecWord.mono ..
   | exact laws_sameInode.mono ..
   | exact spec_DrawInodeWords.mono ..
   | exact spec_InodeOk.mono ..
   | exact LeO.none _
   | refine LeO.ite ?_ ?_
   | refine LeO.bind ?_ (fun _ => ?_)
def laws_FnInodes.T12 : Bool × List (List Nat × List Nat) := (true, [([], []), ([0], [0]), ([1], [1]), ([2], [2]), ([2], [2]), ([4, 2], [2, 4]), ([2], [2]), ([5, 6, 2], [2, 5, 6]), ([7, 2], [2, 7]), ([3, 8, 2], [2, 3, 8]), ([2, 9], [2, 9])])
def laws_FnInodes.B12 : List Nat := [0, 1, 3, 7, 7, 23, 7, 119, 247, 511, 1023]
theorem laws_FnInodes.tab12 : rtab .any (opsOf Tryd.f4 12) = laws_FnInodes.T12 := by kernel_rfl
theorem laws_FnInodes.bits12 : waitsOk laws_FnInodes.T12.2 laws_FnInodes.B12 = true := by kernel_rfl
def laws_FnInodes.T18 : Bool × List (List Nat × List Nat) := (true, [([], []), ([0], [0]), ([1], [1]), ([2], [2]), ([2], [2]), ([4, 2], [2, 4]), ([2], [2]), ([5, 6, 2], [2, 5, 6]), ([7, 2], [2, 7]), ([3, 8, 2], [2, 3, 8]), ([2, 9], [2, 9]), ([10, 2], [10]), ([11], [11]), ([12, 11], [11, 12]), ([13, 11, 11], [11, 13]), ([14, 11], [11, 14]), ([11, 15], [11, 15])])
def laws_FnInodes.B18 : List Nat := [0, 1, 3, 7, 7, 23, 7, 119, 247, 511, 1023, 2047, 4095, 8191, 16383, 32767, 65535]
theorem laws_FnInodes.tab18 : rtab .any (opsOf Tryd.f4 18) = laws_FnInodes.T18 := by kernel_rfl
theorem laws_FnInodes.bits18 : waitsOk laws_FnInodes.T18.2 laws_FnInodes.B18 = true := by kernel_rfl
def laws_FnInodes.T20 : Bool × List (List Nat × List Nat) := (true, [([], []), ([0], [0]), ([1], [1]), ([2], [2]), ([3], [3]), ([3, 4], [3, 4]), ([5, 3], [5]), ([6], [6]), ([6], [6]), ([7, 8, 6, 6], [6, 7, 8]), ([6, 9], [6, 9]), ([10, 9], [10]), ([11], [11]), ([12, 11, 11], [11, 12]), ([11, 13], [11, 13]), ([14, 13], [14]), ([15], [15]), ([16, 15], [15, 16]), ([17, 15], [15, 17]), ([15], [15]), ([19, 15], [15, 19]), ([20, 15, 15], [15, 20]), ([18, 21, 15], [15, 18, 21]), ([15, 22], [15, 22]), ([23, 21, 0, 1, 2, 3, 4, 5, 6, 7, 8, 9, 10, 11, 12, 13, 14, 15, 16, 17, 18, 19, 20, 21, 22, 23], [23])])
def laws_FnInodes.B20 : List Nat := [0, 1, 3, 7, 15, 31, 63, 127, 127, 511, 1023, 2047, 4095, 8191, 16383, 32767, 65535, 131071, 262143, 65535, 589823, 1638399, 4194303, 8388607, 16777215]
theorem laws_FnInodes.tab20 : rtab .any (opsOf Tryd.f4 20) = laws_FnInodes.T20 := by kernel_rfl
theorem laws_FnInodes.bits20 : waitsOk laws_FnInodes.T20.2 laws_FnInodes.B20 = true := by kernel_rfl
set_option maxHeartbeats 8000000 in
set_option maxRecDepth 100000 in
theorem laws_FnInodes.calls (k : Nat) (A0 : Option Addr) (c0 : Nat) (l0 : List Int) (r : Bool) (w : World) (hr0 : Kd.C (Kd.int .u8) w A0 l0.length l0) (hc0 : l0.length ≤ c0) (h : laws_FnInodes.f k l0 = some r) :
  Calls Tryd.prog 4 #[.slice A0 l0.length c0] w fun e w' => e = .returned (.bool r) ∧ Below w.heap.size w w' := by
 have hu27 := Tryd.underlying27
 have hu42 := Tryd.underlying42
 have hu47 := Tryd.underlying47
 have HR0 := Aside0.mk hr0
 have HC0 := Aside0.mk hc0
 clear hr0 hc0
 have HB := Aside0.mk (Below.refl w.heap.size w)
 unfold laws_FnInodes.f at h
 have H := h
 clear h
 obtain ⟨t491, A2, H⟩ := bd_ H
 have HC3 := Aside0.mk H
 clear H
 go_enter Tryd.func4, Tryd.ntmps4
 go_upto_if 14 with (first | ((with_reducible refine gate_callee (f := 15) rfl ?_); refine goesL_ (some 14) rfl rfl Tryd.func15 (by kernel_rfl) rfl #[.slice A0 l0.length c0] rfl tq_0 ?_; (with_reducible refine (laws_big.calls _ _ l0 t491 _ ?side1 ?side2 A2.out).mono ?_); (case side1 => exact tq_112); (case side2 => exact HC0.out); rintro e w' ⟨rfl, ⟨nd, rfl⟩⟩; refine ⟨_, rfl, ?_⟩))
 (try simp only [Act.put, List.setIfInBounds_toArray, List.set_cons_zero, List.set_cons_succ])
 go_cut [] (fun wc => ∃ (kq : Nat), Aside0 (laws_FnInodes.j0 kq l0 = some r) ∧ Aside0 (kq ≤ k) ∧ Aside0 (Below w.heap.size w wc))
 case first =>
  have H := HC3.out
  clear HC3
  by_cases c4 : t491 = true
  ·subst c4
   rw [if_pos rfl] at H
   obtain rfl := Option.some.inj H
   go_wp2
   go_ret
   exact ⟨tq_3, th_⟩
  replace c4 := Bool.eq_false_iff.mpr c4
  subst c4
  rw [if_neg nf_] at H
  have H' := Aside0.mk H
  clear H
  go_wp2
  go_meet
  case rel => exact ⟨_, H', ⟨tq_46⟩, ⟨th_⟩⟩
 case rest =>
 clear HC3
 try clear c1; try clear p2; try clear c4
 obtain ⟨kq, HA, HJ2, HB⟩ := hcut
 cases kq with
 | zero => exact absurd HA.out (by simp [laws_FnInodes.j0])
 | succ kj2 =>
 have H := HA.out
 clear HA
 simp only [laws_FnInodes.j0] at H
 obtain ⟨⟨t492, t493, t494, t495, t496, t499⟩, A5, H⟩ := bd_ H
 try dsimp -simprocs only at H
 obtain ⟨t503, A6, H⟩ := bd_ H
 obtain ⟨t506, A7, H⟩ := bd_ H
 have HC8 := Aside0.mk H
 clear H
 go_upto_if 21 with (first | ((with_reducible refine gate_callee (f := 16) rfl ?_); refine goesL_ (some 16) rfl rfl Tryd.func16 (by kernel_rfl) rfl #[.slice A0 l0.length c0] rfl tq_0 ?_; (with_reducible refine (spec_DrawInodeWords.calls kj2 _ _ l0 t492 t493 t494 t495 t496 t499 _ ?side1 ?side2 A5.out).mono ?_); (case side1 => exact tq_79); (case side2 => exact HC0.out); rintro e w9 ⟨v497, v500, rfl, ho0, ho1, hb⟩; refine ⟨_, rfl, ?_⟩; have z_ := p_ (Kd.R_lower ho0 (below_size th_)) <| p_ (Kd.R_lower ho1 (below_size th_)) <| a_ (below_step th_ hb); clear HB; obtain ⟨HO498, HO501, HB⟩ := z_; (try clear hb); (try clear ho0); (try clear ho1)) | ((with_reducible refine gate_dst (N := 3) rfl ?_); (try (refine gate_guard (by rfl) ?_; dsimp only)); refine be_ 3 (cs := #[.int .i64 0, .int .i64 0, .int .i64 0, .string (⟨#[]⟩ : ByteArray), .slice none 0 0, .slice none 0 0]) 27 ?_; intro gb502 hg w10 hbox hb; have z_ := p_ (Kd.R_below (raR_ HO498) hb) <| p_ (Kd.R_below (raR_ HO501) hb) <| bx0_ th_ hb hbox hg; clear HO498 HO501 HB; obtain ⟨HO498, HO501, HB, BK502, GW502, GE502⟩ := z_; clear hb hbox hg; obtain ⟨hcz11_0, hcz11_1, hcz11_2, hcz11_3, hcz11_4, hcz11_5⟩ := bk6_ BK502.out; obtain ⟨hfz11_0, hfz11_1, hfz11_2, hfz11_3, hfz11_4, hfz11_5⟩ := bf6_ BK502.out; obtain ⟨Ao12, co12, eo12⟩ := Kd.R_slice HO498.out; subst eo12; obtain ⟨Ao13, co13, eo13⟩ := Kd.R_slice HO501.out; subst eo13) | ((with_reducible refine gate_callee (f := 17) rfl ?_); refine goesL_ (some 18) rfl rfl Tryd.func17 (by kernel_rfl) rfl #[.agg #[.int .i64 t492, .int .i64 t493, .int .i64 t494, .string t495, .slice Ao12 t496.length co12, .slice Ao13 t499.length co13]] rfl tq_0 ?_; (with_reducible refine (impl_InodeWords.calls kj2 t492 t493 t494 t495 _ _ t496 _ _ t499 t503 _ ?side1 ?side2 ?side3 ?side4 A6.out).mono ?_); (case side1 => refine (Kd.R_reads' (e := 42) (base := w.heap.size) (ok := fun k_ => True) (n := t496.length) (c := co12) ?_).2.2; exact tq_103); (case side2 => exact (Kd.R_reads' HO498.out).2.1); (case side3 => refine (Kd.R_reads' (e := 47) (base := w.heap.size) (ok := fun k_ => True) (n := t499.length) (c := co13) ?_).2.2; exact tq_102); (case side4 => exact (Kd.R_reads' HO501.out).2.1); rintro e w14 ⟨v504, rfl, ho0, hb⟩; refine ⟨_, rfl, ?_⟩; have z_ := p_ (Kd.R_below tq_103 hb) <| p_ (Kd.R_below tq_102 hb) <| p_ (Kd.R_lower ho0 (below_size th_)) <| p_ (blk_below (g := gb502) (o := .cells #[.int .i64 t492, .int .i64 t493, .int .i64 t494, .string t495, .slice Ao12 t496.length co12, .slice Ao13 t499.length co13] 27 (0, 0)) (by (with_reducible repeat (first | refine blk_drewN ?_ _ | refine blk_drew ?_ | refine blk_alloc ?_ _)); refine blk_put (cs := #[.int .i64 t492, .int .i64 t493, .int .i64 t494, .string t495, .slice Ao12 t496.length co12, .slice none 0 0]) ?_ 5 _ rfl; (with_reducible repeat (first | refine blk_drewN ?_ _ | refine blk_drew ?_ | refine blk_alloc ?_ _)); refine blk_put (cs := #[.int .i64 t492, .int .i64 t493, .int .i64 t494, .string t495, .slice none 0 0, .slice none 0 0]) ?_ 4 _ rfl; (with_reducible repeat (first | refine blk_drewN ?_ _ | refine blk_drew ?_ | refine blk_alloc ?_ _)); refine blk_put (cs := #[.int .i64 t492, .int .i64 t493, .int .i64 t494, .string (⟨#[]⟩ : ByteArray), .slice none 0 0, .slice none 0 0]) ?_ 3 _ rfl; (with_reducible repeat (first | refine blk_drewN ?_ _ | refine blk_drew ?_ | refine blk_alloc ?_ _)); refine blk_put (cs := #[.int .i64 t492, .int .i64 t493, .int .i64 0, .string (⟨#[]⟩ : ByteArray), .slice none 0 0, .slice none 0 0]) ?_ 2 _ rfl; (with_reducible repeat (first | refine blk_drewN ?_ _ | refine blk_drew ?_ | refine blk_alloc ?_ _)); refine blk_put (cs := #[.int .i64 t492, .int .i64 0, .int .i64 0, .string (⟨#[]⟩ : ByteArray), .slice none 0 0, .slice none 0 0]) ?_ 1 _ rfl; (with_reducible repeat (first | refine blk_drewN ?_ _ | refine blk_drew ?_ | refine blk_alloc ?_ _)); refine blk_put (cs := #[.int .i64 0, .int .i64 0, .int .i64 0, .string (⟨#[]⟩ : ByteArray), .slice none 0 0, .slice none 0 0]) ?_ 0 _ rfl; (with_reducible repeat (first | refine blk_drewN ?_ _ | refine blk_drew ?_ | refine blk_alloc ?_ _)); exact BK502.out) hb) <| a_ (below_step th_ hb); clear HO498 HO501 BK502 HB; obtain ⟨HO498, HO501, HO505, BK502, HB⟩ := z_; (try clear hb); (try clear hk); (try clear ho0); obtain ⟨hcz15_0, hcz15_1, hcz15_2, hcz15_3, hcz15_4, hcz15_5⟩ := bk6_ BK502.out; obtain ⟨hfz15_0, hfz15_1, hfz15_2, hfz15_3, hfz15_4, hfz15_5⟩ := bf6_ BK502.out) | ((with_reducible refine gate_callee (f := 18) rfl ?_); refine goesL_ (some 20) rfl rfl Tryd.func18 (by kernel_rfl) rfl #[.agg #[.int .i64 t492, .int .i64 t493, .int .i64 t494, .string t495, .slice Ao12 t496.length co12, .slice Ao13 t499.length co13]] rfl tq_0 ?_; (with_reducible refine (spec_InodeOk.calls kj2 t492 t493 t494 t495 _ _ t496 _ _ t499 t506 _ ?side1 ?side2 ?side3 ?side4 A7.out).mono ?_); (case side1 => exact tq_96); (case side2 => exact (Kd.R_reads' HO498.out).2.1); (case side3 => exact tq_95); (case side4 => exact (Kd.R_reads' HO501.out).2.1); rintro e w16 ⟨rfl, hb⟩; refine ⟨_, rfl, ?_⟩; have z_ := p_ (Kd.R_below (raR_ HO498) hb) <| p_ (Kd.R_below (raR_ HO501) hb) <| p_ (Kd.R_below (raR_ HO505) hb) <| bw1_ (kb_ BK502) th_ hb; clear HO498 HO501 HO505 BK502 HB; obtain ⟨HO498, HO501, HO505, BK502, HB⟩ := z_; (try clear hb)))
 (try simp only [Act.put, List.setIfInBounds_toArray, List.set_cons_zero, List.set_cons_succ])
 go_cut [] (fun wc => ∃ (kq : Nat), Aside0 (laws_FnInodes.j1 kq t503 t492 t493 t494 t495 t496 t499 = some r) ∧ Aside0 (kq ≤ kj2) ∧ Aside0 (Kd.R Kd.string 9 wc w.heap.size (fun _ => True) v504 t503) ∧ Aside0 (Kd.R k42 42 wc w.heap.size (fun _ => True) (.slice Ao12 t496.length co12) t496) ∧ Aside0 (Kd.R k47 47 wc w.heap.size (fun _ => True) (.slice Ao13 t499.length co13) t499) ∧ Aside0 (wc.heap[gb502]? = some (.cells #[.int .i64 t492, .int .i64 t493, .int .i64 t494, .string t495, (.slice Ao12 t496.length co12), (.slice Ao13 t499.length co13)] 27 (0, 0))) ∧ Aside0 (Below w.heap.size w wc))
 case first =>
  have H := HC8.out
  clear HC8
  by_cases c17 : t506 = true
  ·subst c17
   rw [if_pos rfl] at H
   have H' := Aside0.mk H
   clear H
   go_wp2
   go_meet
   case rel => exact ⟨_, H', ⟨(by have := HJ2.out; first | omega | exact Nat.le_refl _)⟩, ⟨(raR_ HO505)⟩, ⟨(raR_ HO498)⟩, ⟨(raR_ HO501)⟩, ⟨(kb_ BK502)⟩, ⟨th_⟩⟩
  replace c17 := Bool.eq_false_iff.mpr c17
  subst c17
  rw [if_neg nf_] at H
  by_cases c18 : (t503.length : Int) = 0
  rotate_left
  ·rw [if_neg c18] at H
   have c18b0 := beq_eq_false_iff_ne.mpr c18
   have c18b1 := bne_iff_ne.mpr c18
   have c18b2 : ¬ (t503 = []) := fun h_ => c18 (by rw [h_]; rfl)
   (first | rw [c18b0] | (simp only [i64_w, i32_w]; rw [c18b0]) | skip)
   obtain rfl := Option.some.inj H
   obtain ⟨Ao28, co28, eo28⟩ := Kd.R_slice HO505.out
   subst eo28
   go_wp2
   go_ret
   exact ⟨tq_3, th_⟩
  rw [if_pos c18] at H
  have c18b0 := beq_iff_eq.mpr c18
  have c18b1 := bne_eq_false_iff_eq.mpr c18
  clear c18
  (first | rw [c18b0] | (simp only [i64_w, i32_w]; rw [c18b0]) | skip)
  obtain ⟨t507, A19, H⟩ := bd_ H
  by_cases c20 : t507 = true
  ·subst c20
   rw [if_pos rfl] at H
   obtain rfl := Option.some.inj H
   obtain ⟨Ao21, co21, eo21⟩ := Kd.R_slice HO505.out
   subst eo21
   obtain ⟨hcz22_0, hcz22_1, hcz22_2, hcz22_3, hcz22_4, hcz22_5⟩ := bk6_ BK502.out
   obtain ⟨hfz22_0, hfz22_1, hfz22_2, hfz22_3, hfz22_4, hfz22_5⟩ := bf6_ BK502.out
   go_wp2_with (first | (go_at_call 19; (with_reducible refine (impl_InodeOk.calls kj2 t492 t493 t494 t495 _ _ t496 _ _ t499 true _ ?side1 ?side2 ?side3 ?side4 A19.out).mono ?_); (case side1 => exact tq_96); (case side2 => exact (Kd.R_reads' HO498.out).2.1); (case side3 => exact tq_95); (case side4 => exact (Kd.R_reads' HO501.out).2.1); rintro e w23 ⟨rfl, hb⟩; have z_ := p_ (Kd.R_below (raR_ HO498) hb) <| p_ (Kd.R_below (raR_ HO501) hb) <| p_ (Kd.R_below (raR_ HO505) hb) <| bw1_ (kb_ BK502) th_ hb; clear HO498 HO501 HO505 BK502 HB; obtain ⟨HO498, HO501, HO505, BK502, HB⟩ := z_; (try clear hb)))
   go_ret
   exact ⟨tq_3, th_⟩
  replace c20 := Bool.eq_false_iff.mpr c20
  subst c20
  rw [if_neg nf_] at H
  obtain ⟨t508, A24, H⟩ := bd_ H
  obtain rfl := Option.some.inj H
  obtain ⟨Ao25, co25, eo25⟩ := Kd.R_slice HO505.out
  subst eo25
  obtain ⟨hcz26_0, hcz26_1, hcz26_2, hcz26_3, hcz26_4, hcz26_5⟩ := bk6_ BK502.out
  obtain ⟨hfz26_0, hfz26_1, hfz26_2, hfz26_3, hfz26_4, hfz26_5⟩ := bf6_ BK502.out
  go_wp2_with (first | (go_at_call 19; (with_reducible refine (impl_InodeOk.calls kj2 t492 t493 t494 t495 _ _ t496 _ _ t499 false _ ?side1 ?side2 ?side3 ?side4 A19.out).mono ?_); (case side1 => exact tq_96); (case side2 => exact (Kd.R_reads' HO498.out).2.1); (case side3 => exact tq_95); (case side4 => exact (Kd.R_reads' HO501.out).2.1); rintro e w27 ⟨rfl, hb⟩; have z_ := p_ (Kd.R_below (raR_ HO498) hb) <| p_ (Kd.R_below (raR_ HO501) hb) <| p_ (Kd.R_below (raR_ HO505) hb) <| bw1_ (kb_ BK502) th_ hb; clear HO498 HO501 HO505 BK502 HB; obtain ⟨HO498, HO501, HO505, BK502, HB⟩ := z_; (try clear hb)) | (go_at_call 20; (with_reducible refine (impl_PagesFor.calls 33 t508 _ A24.out).mono ?_); rintro e w' ⟨rfl, ⟨nd, rfl⟩⟩))
  go_ret
  exact ⟨tq_3, th_⟩
 case rest =>
 clear HC8
 try clear c1; try clear c2; try clear p2; try clear c4; try clear c15; try clear c16; try clear c17; try clear c18; try clear c18b0; try clear c18b1; try clear c18b2; try clear c20; try clear hcz11_0 hcz11_1 hcz11_2 hcz11_3 hcz11_4 hcz11_5; try clear hcz15_0 hcz15_1 hcz15_2 hcz15_3 hcz15_4 hcz15_5; try clear hcz22_0 hcz22_1 hcz22_2 hcz22_3 hcz22_4 hcz22_5; try clear hcz26_0 hcz26_1 hcz26_2 hcz26_3 hcz26_4 hcz26_5; try clear hfz11_0 hfz11_1 hfz11_2 hfz11_3 hfz11_4 hfz11_5; try clear hfz15_0 hfz15_1 hfz15_2 hfz15_3 hfz15_4 hfz15_5; try clear hfz22_0 hfz22_1 hfz22_2 hfz22_3 hfz22_4 hfz22_5; try clear hfz26_0 hfz26_1 hfz26_2 hfz26_3 hfz26_4 hfz26_5; try clear p2
 obtain ⟨kq, HA, HJ7, HO_4, HO_503004, HO_503005, BK502, HB⟩ := hcut
 cases kq with
 | zero => exact absurd HA.out (by simp [laws_FnInodes.j1])
 | succ kj7 =>
 have H := HA.out
 clear HA
 simp only [laws_FnInodes.j1] at H
 obtain ⟨⟨t509, t510, t511, t512, t513, t516, t519⟩, A29, H⟩ := bd_ H
 try dsimp -simprocs only at H
 have H' := Aside0.mk H
 clear H
 obtain ⟨Ao30, co30, eo30⟩ := Kd.R_slice HO_4.out
 subst eo30
 go_wp2_with (first | ((with_reducible refine gate_callee (f := 9) rfl ?_); refine goesL_ (some 36) rfl rfl Tryd.func9 (by kernel_rfl) rfl #[.slice Ao30 t503.length co30] rfl tq_0 ?_; (with_reducible refine (impl_ReadInode.calls kj7 _ _ t503 t509 t510 t511 t512 t513 t516 t519 _ ?side1 ?side2 A29.out).mono ?_); (case side1 => repeat (first | exact (Kd.R_reads' HO_4.out).2.2 | (with_reducible refine Kd.C_alloc ?_ _) | (with_reducible refine Kd.C_drewN ?_ _) | (with_reducible refine Kd.C_drew ?_))); (case side2 => exact (Kd.R_reads' HO_4.out).2.1); rintro e w31 ⟨v514, v517, rfl, ho0, ho1, hb⟩; refine ⟨_, rfl, ?_⟩; have z_ := p_ (Kd.R_below (raR_ HO_4) hb) <| p_ (Kd.R_elder' (raR_ HO_503004) (Kd.R_base ho0) hb) <| p_ (Kd.R_elder' (raR_ HO_503005) (Kd.R_base ho1) hb) <| p_ (Kd.R_lower (Kd.R_new' ho0 (Kd.R_lt (raR_ HO_503004))) (below_size th_)) <| p_ (Kd.R_lower (Kd.R_new' ho1 (Kd.R_lt (raR_ HO_503005))) (below_size th_)) <| bw1_ (kb_ BK502) th_ hb; clear HO_4 HO_503004 HO_503005 BK502 HB; obtain ⟨HO_4, HO_503004, HO_503005, HO515, HO518, BK502, HB⟩ := z_; (try clear hb); (try clear ho0); (try clear ho1)) | ((with_reducible refine gate_dst (N := 5) rfl ?_); (try (refine gate_guard (by rfl) ?_; dsimp only)); refine be_ 5 (cs := #[.int .i64 0, .int .i64 0, .int .i64 0, .string (⟨#[]⟩ : ByteArray), .slice none 0 0, .slice none 0 0]) 27 ?_; intro gb520 hg w32 hbox hb; have z_ := p_ (Kd.R_below (raR_ HO_4) hb) <| p_ (Kd.R_below (raR_ HO_503004) hb) <| p_ (Kd.R_below (raR_ HO_503005) hb) <| p_ (Kd.R_below (raR_ HO515) hb) <| p_ (Kd.R_below (raR_ HO518) hb) <| bx1_ (kb_ BK502) th_ hb hbox hg; clear HO_4 HO_503004 HO_503005 HO515 HO518 BK502 HB; obtain ⟨HO_4, HO_503004, HO_503005, HO515, HO518, BK502, HB, BK520, GW520, GE520, NB502_520, NB520_502⟩ := z_; clear hb hbox hg; obtain ⟨n520_502, n502_520⟩ := an2_ NB520_502 NB502_520; obtain ⟨hcz34_0, hcz34_1, hcz34_2, hcz34_3, hcz34_4, hcz34_5⟩ := bk6_ BK520.out; obtain ⟨hfz34_0, hfz34_1, hfz34_2, hfz34_3, hfz34_4, hfz34_5⟩ := bf6_ BK520.out; obtain ⟨Ao35, co35, eo35⟩ := Kd.R_slice HO515.out; subst eo35; obtain ⟨Ao36, co36, eo36⟩ := Kd.R_slice HO518.out; subst eo36))
 go_loopg [7] kj7 (fun kq v7 w' => ∃ (x7_3 : Int), v7 = .int .i64 x7_3 ∧ Aside0 (laws_FnInodes.l0 kq t503 t519 x7_3 t492 t493 t494 t495 t496 t499 t509 t510 t511 t512 t513 t516 = some r) ∧ Aside0 (kq ≤ kj7) ∧ Aside0 (Kd.R Kd.string 9 w' w.heap.size (fun _ => True) (.slice Ao30 t503.length co30) t503) ∧ Aside0 (Kd.R k42 42 w' w.heap.size (fun k_ => some k_ ≠ ((.slice Ao35 t513.length co35) : Value).ownBlock) (.slice Ao12 t496.length co12) t496) ∧ Aside0 (Kd.R k47 47 w' w.heap.size (fun k_ => some k_ ≠ ((.slice Ao36 t516.length co36) : Value).ownBlock) (.slice Ao13 t499.length co13) t499) ∧ Aside0 (Kd.R k42 42 w' w.heap.size (fun k_ => some k_ ≠ ((.slice Ao12 t496.length co12) : Value).ownBlock) (.slice Ao35 t513.length co35) t513) ∧ Aside0 (Kd.R k47 47 w' w.heap.size (fun k_ => some k_ ≠ ((.slice Ao13 t499.length co13) : Value).ownBlock) (.slice Ao36 t516.length co36) t516) ∧ Aside0 (w'.heap[gb502]? = some (.cells #[.int .i64 t492, .int .i64 t493, .int .i64 t494, .string t495, (.slice Ao12 t496.length co12), (.slice Ao13 t499.length co13)] 27 (0, 0))) ∧ Aside0 (w'.heap[gb520]? = some (.cells #[.int .i64 t509, .int .i64 t510, .int .i64 t511, .string t512, (.slice Ao35 t513.length co35), (.slice Ao36 t516.length co36)] 27 (0, 0))) ∧ Aside0 (Below w.heap.size w w'))
 case atStart => exact ⟨(0), tq_13, H', ⟨Nat.le_refl _⟩, ⟨(by (with_reducible repeat (first | apply Kd.R_alloc | apply Kd.R_drewN | apply Kd.R_drew)); exact Kd.R_mono (rR_ (rR_ (rR_ (rR_ (rR_ (rR_ (Kd.R_types HO_4.out BK520.out (by decide)))))))) (fun _ hk => trivial))⟩, ⟨(by (with_reducible repeat (first | apply Kd.R_alloc | apply Kd.R_drewN | apply Kd.R_drew)); exact Kd.R_mono (rR_ (rR_ (rR_ (rR_ (rR_ (rR_ (Kd.R_types HO_503004.out BK520.out (by decide)))))))) (fun _ hk => hk.1.2))⟩, ⟨(by (with_reducible repeat (first | apply Kd.R_alloc | apply Kd.R_drewN | apply Kd.R_drew)); exact Kd.R_mono (rR_ (rR_ (rR_ (rR_ (rR_ (rR_ (Kd.R_types HO_503005.out BK520.out (by decide)))))))) (fun _ hk => hk.1.2))⟩, ⟨(by (with_reducible repeat (first | apply Kd.R_alloc | apply Kd.R_drewN | apply Kd.R_drew)); exact Kd.R_mono (rR_ (rR_ (rR_ (rR_ (rR_ (rR_ (Kd.R_types HO515.out BK520.out (by decide)))))))) (fun _ hk => hk.1.2))⟩, ⟨(by (with_reducible repeat (first | apply Kd.R_alloc | apply Kd.R_drewN | apply Kd.R_drew)); exact Kd.R_mono (rR_ (rR_ (rR_ (rR_ (rR_ (rR_ (Kd.R_types HO518.out BK520.out (by decide)))))))) (fun _ hk => hk.1.2))⟩, ⟨tb_⟩, ⟨tb_⟩, ⟨th_⟩⟩
 case round =>
 clear H'
 try clear c1; try clear c2; try clear p2; try clear c3; try clear c4; try clear c9; try clear c15; try clear c16; try clear c17; try clear c18; try clear c18b0; try clear c18b1; try clear c18b2; try clear c20; try clear c33; try clear hcz11_0 hcz11_1 hcz11_2 hcz11_3 hcz11_4 hcz11_5; try clear hcz15_0 hcz15_1 hcz15_2 hcz15_3 hcz15_4 hcz15_5; try clear hcz22_0 hcz22_1 hcz22_2 hcz22_3 hcz22_4 hcz22_5; try clear hcz26_0 hcz26_1 hcz26_2 hcz26_3 hcz26_4 hcz26_5; try clear hcz34_0 hcz34_1 hcz34_2 hcz34_3 hcz34_4 hcz34_5; try clear hfz11_0 hfz11_1 hfz11_2 hfz11_3 hfz11_4 hfz11_5; try clear hfz15_0 hfz15_1 hfz15_2 hfz15_3 hfz15_4 hfz15_5; try clear hfz22_0 hfz22_1 hfz22_2 hfz22_3 hfz22_4 hfz22_5; try clear hfz26_0 hfz26_1 hfz26_2 hfz26_3 hfz26_4 hfz26_5; try clear hfz34_0 hfz34_1 hfz34_2 hfz34_3 hfz34_4 hfz34_5; try clear p2
 obtain ⟨x7_3, rfl, HA, HK3, HO_4, HO_503004, HO_503005, HO_521004, HO_521005, BK502, BK520, HB⟩ := hrel
 cases gk with
 | zero => exact absurd HA.out (by simp [laws_FnInodes.l0])
 | succ k3 =>
 have H := HA.out
 clear HA
 simp only [laws_FnInodes.l0] at H
 have HC37 := Aside0.mk H
 clear H
 obtain ⟨hcz39_0, hcz39_1, hcz39_2, hcz39_3, hcz39_4, hcz39_5⟩ := bk6_ BK502.out
 obtain ⟨hfz39_0, hfz39_1, hfz39_2, hfz39_3, hfz39_4, hfz39_5⟩ := bf6_ BK502.out
 go_upto_if 43 with (fail)
 go_cut [] (fun wc => ∃ (kq : Nat), Aside0 (laws_FnInodes.j3 kq t503 t519 x7_3 t492 t493 t494 t495 t496 t499 t509 t510 t511 t512 t513 t516 = some r) ∧ Aside0 (kq ≤ k3) ∧ Aside0 (Kd.R Kd.string 9 wc w.heap.size (fun _ => True) (.slice Ao30 t503.length co30) t503) ∧ Aside0 (Kd.R k42 42 wc w.heap.size (fun k_ => some k_ ≠ ((.slice Ao35 t513.length co35) : Value).ownBlock) (.slice Ao12 t496.length co12) t496) ∧ Aside0 (Kd.R k47 47 wc w.heap.size (fun k_ => some k_ ≠ ((.slice Ao36 t516.length co36) : Value).ownBlock) (.slice Ao13 t499.length co13) t499) ∧ Aside0 (Kd.R k42 42 wc w.heap.size (fun k_ => some k_ ≠ ((.slice Ao12 t496.length co12) : Value).ownBlock) (.slice Ao35 t513.length co35) t513) ∧ Aside0 (Kd.R k47 47 wc w.heap.size (fun k_ => some k_ ≠ ((.slice Ao13 t499.length co13) : Value).ownBlock) (.slice Ao36 t516.length co36) t516) ∧ Aside0 (wc.heap[gb502]? = some (.cells #[.int .i64 t492, .int .i64 t493, .int .i64 t494, .string t495, (.slice Ao12 t496.length co12), (.slice Ao13 t499.length co13)] 27 (0, 0))) ∧ Aside0 (wc.heap[gb520]? = some (.cells #[.int .i64 t509, .int .i64 t510, .int .i64 t511, .string t512, (.slice Ao35 t513.length co35), (.slice Ao36 t516.length co36)] 27 (0, 0))) ∧ Aside0 (Below w.heap.size w wc))
 case first =>
  have H := HC37.out
  clear HC37
  by_cases c40 : x7_3 < (t496.length : Int)
  ·rw [if_pos c40] at H
   have c40b0 := decide_eq_true c40
   clear c40
   (first | rw [c40b0] | (simp only [i64_w, i32_w]; rw [c40b0]) | skip)
   have H' := Aside0.mk H
   clear H
   go_wp2
   go_meet
   case rel => exact ⟨_, H', ⟨(by have := HJ2.out; have := HJ7.out; have := HK3.out; first | omega | exact Nat.le_refl _)⟩, ⟨(raR_ HO_4)⟩, ⟨(raR_ HO_503004)⟩, ⟨(raR_ HO_503005)⟩, ⟨(raR_ HO_521004)⟩, ⟨(raR_ HO_521005)⟩, ⟨(kb_ BK502)⟩, ⟨(kb_ BK520)⟩, ⟨th_⟩⟩
  rw [if_neg c40] at H
  have c40b0 := decide_eq_false c40
  clear c40
  (first | rw [c40b0] | (simp only [i64_w, i32_w]; rw [c40b0]) | skip)
  have H' := Aside0.mk H
  clear H
  go_wp2
  go_loopg [10] k3 (fun kq v10 w' => ∃ (x10_4 : Int), v10 = .int .i64 x10_4 ∧ Aside0 (laws_FnInodes.l1 kq t503 t519 x10_4 t492 t493 t494 t495 t496 t499 t509 t510 t511 t512 t513 t516 = some r) ∧ Aside0 (kq ≤ k3) ∧ Aside0 (Kd.R Kd.string 9 w' w.heap.size (fun _ => True) (.slice Ao30 t503.length co30) t503) ∧ Aside0 (Kd.R k42 42 w' w.heap.size (fun k_ => some k_ ≠ ((.slice Ao35 t513.length co35) : Value).ownBlock) (.slice Ao12 t496.length co12) t496) ∧ Aside0 (Kd.R k47 47 w' w.heap.size (fun k_ => some k_ ≠ ((.slice Ao36 t516.length co36) : Value).ownBlock) (.slice Ao13 t499.length co13) t499) ∧ Aside0 (Kd.R k42 42 w' w.heap.size (fun k_ => some k_ ≠ ((.slice Ao12 t496.length co12) : Value).ownBlock) (.slice Ao35 t513.length co35) t513) ∧ Aside0 (Kd.R k47 47 w' w.heap.size (fun k_ => some k_ ≠ ((.slice Ao13 t499.length co13) : Value).ownBlock) (.slice Ao36 t516.length co36) t516) ∧ Aside0 (w'.heap[gb502]? = some (.cells #[.int .i64 t492, .int .i64 t493, .int .i64 t494, .string t495, (.slice Ao12 t496.length co12), (.slice Ao13 t499.length co13)] 27 (0, 0))) ∧ Aside0 (w'.heap[gb520]? = some (.cells #[.int .i64 t509, .int .i64 t510, .int .i64 t511, .string t512, (.slice Ao35 t513.length co35), (.slice Ao36 t516.length co36)] 27 (0, 0))) ∧ Aside0 (Below w.heap.size w w'))
  case atStart => exact ⟨(0), tq_13, H', ⟨Nat.le_refl _⟩, ⟨(raR_ HO_4)⟩, ⟨(raR_ HO_503004)⟩, ⟨(raR_ HO_503005)⟩, ⟨(raR_ HO_521004)⟩, ⟨(raR_ HO_521005)⟩, ⟨(kb_ BK502)⟩, ⟨(kb_ BK520)⟩, ⟨th_⟩⟩
  case round =>
  clear H'
  try clear c1; try clear c2; try clear p2; try clear c3; try clear c4; try clear c9; try clear c15; try clear c16; try clear c17; try clear c18; try clear c18b0; try clear c18b1; try clear c18b2; try clear c20; try clear c33; try clear c38; try clear c40; try clear c40b0; try clear hcz11_0 hcz11_1 hcz11_2 hcz11_3 hcz11_4 hcz11_5; try clear hcz15_0 hcz15_1 hcz15_2 hcz15_3 hcz15_4 hcz15_5; try clear hcz22_0 hcz22_1 hcz22_2 hcz22_3 hcz22_4 hcz22_5; try clear hcz26_0 hcz26_1 hcz26_2 hcz26_3 hcz26_4 hcz26_5; try clear hcz34_0 hcz34_1 hcz34_2 hcz34_3 hcz34_4 hcz34_5; try clear hcz39_0 hcz39_1 hcz39_2 hcz39_3 hcz39_4 hcz39_5; try clear hfz11_0 hfz11_1 hfz11_2 hfz11_3 hfz11_4 hfz11_5; try clear hfz15_0 hfz15_1 hfz15_2 hfz15_3 hfz15_4 hfz15_5; try clear hfz22_0 hfz22_1 hfz22_2 hfz22_3 hfz22_4 hfz22_5; try clear hfz26_0 hfz26_1 hfz26_2 hfz26_3 hfz26_4 hfz26_5; try clear hfz34_0 hfz34_1 hfz34_2 hfz34_3 hfz34_4 hfz34_5; try clear hfz39_0 hfz39_1 hfz39_2 hfz39_3 hfz39_4 hfz39_5; try clear p2
  obtain ⟨x10_4, rfl, HA, HK4, HO_4, HO_503004, HO_503005, HO_521004, HO_521005, BK502, BK520, HB⟩ := hrel
  cases gk with
  | zero => exact absurd HA.out (by simp [laws_FnInodes.l1])
  | succ k4 =>
  have H := HA.out
  clear HA
  simp only [laws_FnInodes.l1] at H
  have HC41 := Aside0.mk H
  clear H
  obtain ⟨hcz43_0, hcz43_1, hcz43_2, hcz43_3, hcz43_4, hcz43_5⟩ := bk6_ BK502.out
  obtain ⟨hfz43_0, hfz43_1, hfz43_2, hfz43_3, hfz43_4, hfz43_5⟩ := bf6_ BK502.out
  go_upto_if 71 with (fail)
  go_cut [] (fun wc => ∃ (kq : Nat), Aside0 (laws_FnInodes.j5 kq t503 t519 x10_4 t492 t493 t494 t495 t496 t499 t509 t510 t511 t512 t513 t516 = some r) ∧ Aside0 (kq ≤ k4) ∧ Aside0 (Kd.R Kd.string 9 wc w.heap.size (fun _ => True) (.slice Ao30 t503.length co30) t503) ∧ Aside0 (Kd.R k42 42 wc w.heap.size (fun k_ => some k_ ≠ ((.slice Ao35 t513.length co35) : Value).ownBlock) (.slice Ao12 t496.length co12) t496) ∧ Aside0 (Kd.R k47 47 wc w.heap.size (fun k_ => some k_ ≠ ((.slice Ao36 t516.length co36) : Value).ownBlock) (.slice Ao13 t499.length co13) t499) ∧ Aside0 (Kd.R k42 42 wc w.heap.size (fun k_ => some k_ ≠ ((.slice Ao12 t496.length co12) : Value).ownBlock) (.slice Ao35 t513.length co35) t513) ∧ Aside0 (Kd.R k47 47 wc w.heap.size (fun k_ => some k_ ≠ ((.slice Ao13 t499.length co13) : Value).ownBlock) (.slice Ao36 t516.length co36) t516) ∧ Aside0 (wc.heap[gb502]? = some (.cells #[.int .i64 t492, .int .i64 t493, .int .i64 t494, .string t495, (.slice Ao12 t496.length co12), (.slice Ao13 t499.length co13)] 27 (0, 0))) ∧ Aside0 (wc.heap[gb520]? = some (.cells #[.int .i64 t509, .int .i64 t510, .int .i64 t511, .string t512, (.slice Ao35 t513.length co35), (.slice Ao36 t516.length co36)] 27 (0, 0))) ∧ Aside0 (Below w.heap.size w wc))
  case first =>
   have H := HC41.out
   clear HC41
   by_cases c44 : x10_4 < (t499.length : Int)
   ·rw [if_pos c44] at H
    have c44b0 := decide_eq_true c44
    clear c44
    (first | rw [c44b0] | (simp only [i64_w, i32_w]; rw [c44b0]) | skip)
    have H' := Aside0.mk H
    clear H
    go_wp2
    go_meet
    case rel => exact ⟨_, H', ⟨(by have := HJ2.out; have := HJ7.out; have := HK3.out; have := HK4.out; first | omega | exact Nat.le_refl _)⟩, ⟨(raR_ HO_4)⟩, ⟨(raR_ HO_503004)⟩, ⟨(raR_ HO_503005)⟩, ⟨(raR_ HO_521004)⟩, ⟨(raR_ HO_521005)⟩, ⟨(kb_ BK502)⟩, ⟨(kb_ BK520)⟩, ⟨th_⟩⟩
   rw [if_neg c44] at H
   have c44b0 := decide_eq_false c44
   clear c44
   (first | rw [c44b0] | (simp only [i64_w, i32_w]; rw [c44b0]) | skip)
   by_cases c45 : (t503.length : Int) = 8
   rotate_left
   ·rw [if_neg c45] at H
    have c45b0 := beq_eq_false_iff_ne.mpr c45
    have c45b1 := bne_iff_ne.mpr c45
    obtain rfl := Option.some.inj H
    try go_wp2
    have z_ := p_ (Kd.R_drew HO_4.out) <| p_ (Kd.R_drew HO_503004.out) <| p_ (Kd.R_drew HO_503005.out) <| p_ (Kd.R_drew HO_521004.out) <| p_ (Kd.R_drew HO_521005.out) <| dw2_ BK502 BK520 HB
    clear HO_4 HO_503004 HO_503005 HO_521004 HO_521005 BK502 BK520 HB
    obtain ⟨HO_4, HO_503004, HO_503005, HO_521004, HO_521005, BK502, BK520, HB⟩ := z_
    refine start_ (n := 25) (S := fun w' => True) (ds := []) bq_0 (by kernel_rfl) rfl rfl trivial (fun hHeld => ?_); refine with_tabW laws_FnInodes.tab20 laws_FnInodes.bits20 (fun HT_ HW_ => ?_)
    generalize wr.drew = w61 at HO_4 HO_503004 HO_503005 HO_521004 HO_521005 BK502 BK520 HB hHeld ⊢
    refine yr_ 0 101 bq_1 HT_ ?_
    refine yr_ 1 102 bq_2 HT_ ?_
    refine yr_ 2 103 bq_3 HT_ ?_
    refine yr_ 3 104 bq_4 HT_ ?_
    refine ur_ 4 105 bq_5 HT_ ?_
    refine yr_ 5 106 bq_6 HT_ ?_
    refine yr_ 6 107 bq_7 HT_ ?_
    refine ur_ 7 108 bq_8 HT_ ?_
    refine ur_ 8 109 bq_9 HT_ ?_
    refine ur_ 9 110 bq_10 HT_ ?_
    refine yr_ 10 111 bq_11 HT_ ?_
    refine yr_ 11 112 bq_12 HT_ ?_
    refine ur_ 12 113 bq_24 HT_ ?_
    refine ur_ 13 114 bq_25 HT_ ?_
    refine yr_ 14 115 bq_13 HT_ ?_
    refine yr_ 15 116 bq_14 HT_ ?_
    refine ur_ 16 117 bq_15 HT_ ?_
    refine ur_ 17 118 bq_22 HT_ ?_
    refine ur_ 18 119 bq_23 HT_ ?_
    refine ur_ 19 120 bq_16 HT_ ?_
    refine ur_ 20 121 bq_17 HT_ ?_
    refine ur_ 21 122 bq_18 HT_ ?_
    refine ur_ 22 123 bq_19 HT_ ?_
    refine yr_ 23 124 bq_20 HT_ ?_
    refine yr_ 24 2 bq_21 HT_ ?_
    refine done_ (done_of HT_.out (by kernel_rfl)) ?_
    try go_wp2
    go_ret
    exact ⟨tq_3, th_⟩
   rw [if_pos c45] at H
   have c45b0 := beq_iff_eq.mpr c45
   have c45b1 := bne_eq_false_iff_eq.mpr c45
   clear c45
   by_cases c46 : t519 = true
   rotate_left
   ·replace c46 := Bool.eq_false_iff.mpr c46
    subst c46
    rw [if_neg nf_] at H
    obtain rfl := Option.some.inj H
    try go_wp2
    have z_ := p_ (Kd.R_drew HO_4.out) <| p_ (Kd.R_drew HO_503004.out) <| p_ (Kd.R_drew HO_503005.out) <| p_ (Kd.R_drew HO_521004.out) <| p_ (Kd.R_drew HO_521005.out) <| dw2_ BK502 BK520 HB
    clear HO_4 HO_503004 HO_503005 HO_521004 HO_521005 BK502 BK520 HB
    obtain ⟨HO_4, HO_503004, HO_503005, HO_521004, HO_521005, BK502, BK520, HB⟩ := z_
    refine start_ (n := 25) (S := fun w' => True) (ds := []) bq_0 (by kernel_rfl) rfl rfl trivial (fun hHeld => ?_); refine with_tabW laws_FnInodes.tab20 laws_FnInodes.bits20 (fun HT_ HW_ => ?_)
    generalize wr.drew = w60 at HO_4 HO_503004 HO_503005 HO_521004 HO_521005 BK502 BK520 HB hHeld ⊢
    refine yr_ 0 101 bq_1 HT_ ?_
    refine yr_ 1 102 bq_2 HT_ ?_
    refine yr_ 2 103 bq_3 HT_ ?_
    refine yr_ 3 104 bq_4 HT_ ?_
    refine yr_ 4 105 bq_5 HT_ ?_
    refine yr_ 5 106 bq_6 HT_ ?_
    refine yr_ 6 107 bq_7 HT_ ?_
    refine ur_ 7 108 bq_8 HT_ ?_
    refine ur_ 8 109 bq_9 HT_ ?_
    refine ur_ 9 110 bq_10 HT_ ?_
    refine yr_ 10 111 bq_11 HT_ ?_
    refine yr_ 11 112 bq_12 HT_ ?_
    refine ur_ 12 113 bq_24 HT_ ?_
    refine ur_ 13 114 bq_25 HT_ ?_
    refine yr_ 14 115 bq_13 HT_ ?_
    refine yr_ 15 116 bq_14 HT_ ?_
    refine ur_ 16 117 bq_15 HT_ ?_
    refine ur_ 17 118 bq_22 HT_ ?_
    refine ur_ 18 119 bq_23 HT_ ?_
    refine ur_ 19 120 bq_16 HT_ ?_
    refine ur_ 20 121 bq_17 HT_ ?_
    refine ur_ 21 122 bq_18 HT_ ?_
    refine ur_ 22 123 bq_19 HT_ ?_
    refine yr_ 23 124 bq_20 HT_ ?_
    refine yr_ 24 2 bq_21 HT_ ?_
    refine done_ (done_of HT_.out (by kernel_rfl)) ?_
    try go_wp2
    go_ret
    exact ⟨tq_3, th_⟩
   subst c46
   rw [if_pos rfl] at H
   obtain ⟨t529, A47, H⟩ := bd_ H
   by_cases c48 : t529 = true
   rotate_left
   ·replace c48 := Bool.eq_false_iff.mpr c48
    subst c48
    rw [if_neg nf_] at H
    obtain rfl := Option.some.inj H
    try go_wp2
    have z_ := p_ (Kd.R_drew HO_4.out) <| p_ (Kd.R_drew HO_503004.out) <| p_ (Kd.R_drew HO_503005.out) <| p_ (Kd.R_drew HO_521004.out) <| p_ (Kd.R_drew HO_521005.out) <| dw2_ BK502 BK520 HB
    clear HO_4 HO_503004 HO_503005 HO_521004 HO_521005 BK502 BK520 HB
    obtain ⟨HO_4, HO_503004, HO_503005, HO_521004, HO_521005, BK502, BK520, HB⟩ := z_
    refine start_ (n := 25) (S := fun w' => w'.cell? ⟨gb520, 0, none⟩ = some (.int .i64 t509) ∧ w'.cell? ⟨gb520, 1, none⟩ = some (.int .i64 t510) ∧ w'.cell? ⟨gb520, 2, none⟩ = some (.int .i64 t511) ∧ w'.cell? ⟨gb520, 3, none⟩ = some (.string t512) ∧ w'.cell? ⟨gb520, 4, none⟩ = some (.slice Ao35 t513.length co35) ∧ w'.cell? ⟨gb520, 5, none⟩ = some (.slice Ao36 t516.length co36) ∧ w'.cell? ⟨gb502, 0, none⟩ = some (.int .i64 t492) ∧ w'.cell? ⟨gb502, 1, none⟩ = some (.int .i64 t493) ∧ w'.cell? ⟨gb502, 2, none⟩ = some (.int .i64 t494) ∧ w'.cell? ⟨gb502, 3, none⟩ = some (.string t495) ∧ w'.cell? ⟨gb502, 4, none⟩ = some (.slice Ao12 t496.length co12) ∧ w'.cell? ⟨gb502, 5, none⟩ = some (.slice Ao13 t499.length co13)) (ds := []) bq_0 (by kernel_rfl) rfl rfl (bc6_ BK520.out (bk6_ BK502.out)) (fun hHeld => ?_); refine with_tabW laws_FnInodes.tab20 laws_FnInodes.bits20 (fun HT_ HW_ => ?_)
    generalize wr.drew = w58 at HO_4 HO_503004 HO_503005 HO_521004 HO_521005 BK502 BK520 HB hHeld ⊢
    refine yr_ 0 101 bq_1 HT_ ?_
    refine yr_ 1 102 bq_2 HT_ ?_
    refine yr_ 2 103 bq_3 HT_ ?_
    refine yr_ 3 104 bq_4 HT_ ?_
    refine yr_ 4 105 bq_5 HT_ ?_
    refine yr_ 5 106 bq_6 HT_ ?_
    refine yr_ 6 107 bq_7 HT_ ?_
    refine tr_ 7 108 bq_8 HT_ HW_ hHeld ?_
    refine tr_ 8 109 bq_9 HT_ HW_ hHeld ?_
    refine one_ (i := 9) (N := some 110) bq_10 rfl rfl (one_of HT_.out (by kernel_rfl)) (by decide) (fun K hK => ?_)
    refine goes_ Tryd.func26 (by kernel_rfl) rfl #[.agg #[.int .i64 t509, .int .i64 t510, .int .i64 t511, .string t512, .slice Ao35 t513.length co35, .slice Ao36 t516.length co36], .agg #[.int .i64 t492, .int .i64 t493, .int .i64 t494, .string t495, .slice Ao12 t496.length co12, .slice Ao13 t499.length co13]] (by rfl) rfl rfl tq_0 ?_
    with_reducible refine (laws_sameInode.calls k4 t509 t510 t511 t512 _ _ t513 _ _ t516 t492 t493 t494 t495 _ _ t496 _ _ t499 false _ ?side1 ?side2 ?side3 ?side4 ?side5 ?side6 ?side7 ?side8 A47.out).mono ?_
    (case side1 => exact tq_93)
    (case side2 => exact (Kd.R_reads' HO_521004.out).2.1)
    (case side3 => exact tq_92)
    (case side4 => exact (Kd.R_reads' HO_521005.out).2.1)
    (case side5 => exact tq_61)
    (case side6 => exact (Kd.R_reads' HO_503004.out).2.1)
    (case side7 => exact tq_60)
    (case side8 => exact (Kd.R_reads' HO_503005.out).2.1)
    rintro e w59 ⟨rfl, hb⟩
    refine ⟨_, rfl, ?_⟩
    have z_ := p_ (Kd.R_below (raR_ HO_4) hb) <| p_ (Kd.R_below (raR_ HO_503004) hb) <| p_ (Kd.R_below (raR_ HO_503005) hb) <| p_ (Kd.R_below (raR_ HO_521004) hb) <| p_ (Kd.R_below (raR_ HO_521005) hb) <| bw2_ (kb_ BK502) (kb_ BK520) th_ hb
    clear HO_4 HO_503004 HO_503005 HO_521004 HO_521005 BK502 BK520 HB
    obtain ⟨HO_4, HO_503004, HO_503005, HO_521004, HO_521005, BK502, BK520, HB⟩ := z_
    (try clear hb)
    refine hK.out _ _ (bc6_ BK520.out (bk6_ BK502.out)) (fun hHeld => ?_)
    clear hK K
    refine nm_ (some 110) ?_
    refine yr_ 10 111 bq_11 HT_ ?_
    refine yr_ 11 112 bq_12 HT_ ?_
    refine ur_ 12 113 bq_24 HT_ ?_
    refine ur_ 13 114 bq_25 HT_ ?_
    refine yr_ 14 115 bq_13 HT_ ?_
    refine yr_ 15 116 bq_14 HT_ ?_
    refine ur_ 16 117 bq_15 HT_ ?_
    refine ur_ 17 118 bq_22 HT_ ?_
    refine ur_ 18 119 bq_23 HT_ ?_
    refine ur_ 19 120 bq_16 HT_ ?_
    refine ur_ 20 121 bq_17 HT_ ?_
    refine ur_ 21 122 bq_18 HT_ ?_
    refine ur_ 22 123 bq_19 HT_ ?_
    refine yr_ 23 124 bq_20 HT_ ?_
    refine yr_ 24 2 bq_21 HT_ ?_
    refine done_ (done_of HT_.out (by kernel_rfl)) ?_
    try go_wp2
    go_ret
    exact ⟨tq_3, th_⟩
   subst c48
   rw [if_pos rfl] at H
   obtain ⟨t530, A49, H⟩ := bd_ H
   by_cases c50 : t530 = true
   rotate_left
   ·replace c50 := Bool.eq_false_iff.mpr c50
    subst c50
    rw [if_neg nf_] at H
    obtain rfl := Option.some.inj H
    try go_wp2
    have z_ := p_ (Kd.R_drew HO_4.out) <| p_ (Kd.R_drew HO_503004.out) <| p_ (Kd.R_drew HO_503005.out) <| p_ (Kd.R_drew HO_521004.out) <| p_ (Kd.R_drew HO_521005.out) <| dw2_ BK502 BK520 HB
    clear HO_4 HO_503004 HO_503005 HO_521004 HO_521005 BK502 BK520 HB
    obtain ⟨HO_4, HO_503004, HO_503005, HO_521004, HO_521005, BK502, BK520, HB⟩ := z_
    refine start_ (n := 25) (S := fun w' => w'.cell? ⟨gb520, 0, none⟩ = some (.int .i64 t509) ∧ w'.cell? ⟨gb520, 1, none⟩ = some (.int .i64 t510) ∧ w'.cell? ⟨gb520, 2, none⟩ = some (.int .i64 t511) ∧ w'.cell? ⟨gb520, 3, none⟩ = some (.string t512) ∧ w'.cell? ⟨gb520, 4, none⟩ = some (.slice Ao35 t513.length co35) ∧ w'.cell? ⟨gb520, 5, none⟩ = some (.slice Ao36 t516.length co36) ∧ w'.cell? ⟨gb502, 0, none⟩ = some (.int .i64 t492) ∧ w'.cell? ⟨gb502, 1, none⟩ = some (.int .i64 t493) ∧ w'.cell? ⟨gb502, 2, none⟩ = some (.int .i64 t494) ∧ w'.cell? ⟨gb502, 3, none⟩ = some (.string t495) ∧ w'.cell? ⟨gb502, 4, none⟩ = some (.slice Ao12 t496.length co12) ∧ w'.cell? ⟨gb502, 5, none⟩ = some (.slice Ao13 t499.length co13)) (ds := []) bq_0 (by kernel_rfl) rfl rfl (bc6_ BK520.out (bk6_ BK502.out)) (fun hHeld => ?_); refine with_tabW laws_FnInodes.tab20 laws_FnInodes.bits20 (fun HT_ HW_ => ?_)
    generalize wr.drew = w55 at HO_4 HO_503004 HO_503005 HO_521004 HO_521005 BK502 BK520 HB hHeld ⊢
    refine yr_ 0 101 bq_1 HT_ ?_
    refine yr_ 1 102 bq_2 HT_ ?_
    refine yr_ 2 103 bq_3 HT_ ?_
    refine yr_ 3 104 bq_4 HT_ ?_
    refine yr_ 4 105 bq_5 HT_ ?_
    refine yr_ 5 106 bq_6 HT_ ?_
    refine yr_ 6 107 bq_7 HT_ ?_
    refine tr_ 7 108 bq_8 HT_ HW_ hHeld ?_
    refine tr_ 8 109 bq_9 HT_ HW_ hHeld ?_
    refine one_ (i := 9) (N := some 110) bq_10 rfl rfl (one_of HT_.out (by kernel_rfl)) (by decide) (fun K hK => ?_)
    refine goes_ Tryd.func26 (by kernel_rfl) rfl #[.agg #[.int .i64 t509, .int .i64 t510, .int .i64 t511, .string t512, .slice Ao35 t513.length co35, .slice Ao36 t516.length co36], .agg #[.int .i64 t492, .int .i64 t493, .int .i64 t494, .string t495, .slice Ao12 t496.length co12, .slice Ao13 t499.length co13]] (by rfl) rfl rfl tq_0 ?_
    with_reducible refine (laws_sameInode.calls k4 t509 t510 t511 t512 _ _ t513 _ _ t516 t492 t493 t494 t495 _ _ t496 _ _ t499 true _ ?side1 ?side2 ?side3 ?side4 ?side5 ?side6 ?side7 ?side8 A47.out).mono ?_
    (case side1 => exact tq_93)
    (case side2 => exact (Kd.R_reads' HO_521004.out).2.1)
    (case side3 => exact tq_92)
    (case side4 => exact (Kd.R_reads' HO_521005.out).2.1)
    (case side5 => exact tq_61)
    (case side6 => exact (Kd.R_reads' HO_503004.out).2.1)
    (case side7 => exact tq_60)
    (case side8 => exact (Kd.R_reads' HO_503005.out).2.1)
    rintro e w56 ⟨rfl, hb⟩
    refine ⟨_, rfl, ?_⟩
    have z_ := p_ (Kd.R_below (raR_ HO_4) hb) <| p_ (Kd.R_below (raR_ HO_503004) hb) <| p_ (Kd.R_below (raR_ HO_503005) hb) <| p_ (Kd.R_below (raR_ HO_521004) hb) <| p_ (Kd.R_below (raR_ HO_521005) hb) <| bw2_ (kb_ BK502) (kb_ BK520) th_ hb
    clear HO_4 HO_503004 HO_503005 HO_521004 HO_521005 BK502 BK520 HB
    obtain ⟨HO_4, HO_503004, HO_503005, HO_521004, HO_521005, BK502, BK520, HB⟩ := z_
    (try clear hb)
    refine hK.out _ _ (bc6_ BK520.out (bk6_ BK502.out)) (fun hHeld => ?_)
    clear hK K
    refine nm_ (some 110) ?_
    refine yr_ 10 111 bq_11 HT_ ?_
    refine yr_ 11 112 bq_12 HT_ ?_
    refine tr_ 12 113 bq_24 HT_ HW_ hHeld ?_
    refine one_ (i := 13) (N := some 114) bq_25 rfl rfl (one_of HT_.out (by kernel_rfl)) (by decide) (fun K hK => ?_)
    refine goes_ Tryd.func19 (by kernel_rfl) rfl #[.agg #[.int .i64 t492, .int .i64 t493, .int .i64 t494, .string t495, .slice Ao12 t496.length co12, .slice Ao13 t499.length co13]] (by rfl) rfl rfl tq_0 ?_
    with_reducible refine (impl_InodeOk.calls k4 t492 t493 t494 t495 _ _ t496 _ _ t499 false _ ?side1 ?side2 ?side3 ?side4 A49.out).mono ?_
    (case side1 => exact tq_61)
    (case side2 => exact (Kd.R_reads' HO_503004.out).2.1)
    (case side3 => exact tq_60)
    (case side4 => exact (Kd.R_reads' HO_503005.out).2.1)
    rintro e w57 ⟨rfl, hb⟩
    refine ⟨_, rfl, ?_⟩
    have z_ := p_ (Kd.R_below (raR_ HO_4) hb) <| p_ (Kd.R_below (raR_ HO_503004) hb) <| p_ (Kd.R_below (raR_ HO_503005) hb) <| p_ (Kd.R_below (raR_ HO_521004) hb) <| p_ (Kd.R_below (raR_ HO_521005) hb) <| bw2_ (kb_ BK502) (kb_ BK520) th_ hb
    clear HO_4 HO_503004 HO_503005 HO_521004 HO_521005 BK502 BK520 HB
    obtain ⟨HO_4, HO_503004, HO_503005, HO_521004, HO_521005, BK502, BK520, HB⟩ := z_
    (try clear hb)
    refine hK.out _ _ (bc6_ BK520.out (bk6_ BK502.out)) (fun hHeld => ?_)
    clear hK K
    refine nm_ (some 114) ?_
    refine yr_ 14 115 bq_13 HT_ ?_
    refine yr_ 15 116 bq_14 HT_ ?_
    refine ur_ 16 117 bq_15 HT_ ?_
    refine ur_ 17 118 bq_22 HT_ ?_
    refine ur_ 18 119 bq_23 HT_ ?_
    refine ur_ 19 120 bq_16 HT_ ?_
    refine ur_ 20 121 bq_17 HT_ ?_
    refine ur_ 21 122 bq_18 HT_ ?_
    refine ur_ 22 123 bq_19 HT_ ?_
    refine yr_ 23 124 bq_20 HT_ ?_
    refine yr_ 24 2 bq_21 HT_ ?_
    refine done_ (done_of HT_.out (by kernel_rfl)) ?_
    try go_wp2
    go_ret
    exact ⟨tq_3, th_⟩
   subst c50
   rw [if_pos rfl] at H
   obtain ⟨t531, A51, H⟩ := bd_ H
   obtain rfl := Option.some.inj H
   try go_wp2
   have z_ := p_ (Kd.R_drew HO_4.out) <| p_ (Kd.R_drew HO_503004.out) <| p_ (Kd.R_drew HO_503005.out) <| p_ (Kd.R_drew HO_521004.out) <| p_ (Kd.R_drew HO_521005.out) <| dw2_ BK502 BK520 HB
   clear HO_4 HO_503004 HO_503005 HO_521004 HO_521005 BK502 BK520 HB
   obtain ⟨HO_4, HO_503004, HO_503005, HO_521004, HO_521005, BK502, BK520, HB⟩ := z_
   refine start_ (n := 25) (S := fun w' => w'.cell? ⟨gb520, 0, none⟩ = some (.int .i64 t509) ∧ w'.cell? ⟨gb520, 1, none⟩ = some (.int .i64 t510) ∧ w'.cell? ⟨gb520, 2, none⟩ = some (.int .i64 t511) ∧ w'.cell? ⟨gb520, 3, none⟩ = some (.string t512) ∧ w'.cell? ⟨gb520, 4, none⟩ = some (.slice Ao35 t513.length co35) ∧ w'.cell? ⟨gb520, 5, none⟩ = some (.slice Ao36 t516.length co36) ∧ w'.cell? ⟨gb502, 0, none⟩ = some (.int .i64 t492) ∧ w'.cell? ⟨gb502, 1, none⟩ = some (.int .i64 t493) ∧ w'.cell? ⟨gb502, 2, none⟩ = some (.int .i64 t494) ∧ w'.cell? ⟨gb502, 3, none⟩ = some (.string t495) ∧ w'.cell? ⟨gb502, 4, none⟩ = some (.slice Ao12 t496.length co12) ∧ w'.cell? ⟨gb502, 5, none⟩ = some (.slice Ao13 t499.length co13)) (ds := []) bq_0 (by kernel_rfl) rfl rfl (bc6_ BK520.out (bk6_ BK502.out)) (fun hHeld => ?_); refine with_tabW laws_FnInodes.tab20 laws_FnInodes.bits20 (fun HT_ HW_ => ?_)
   generalize wr.drew = w52 at HO_4 HO_503004 HO_503005 HO_521004 HO_521005 BK502 BK520 HB hHeld ⊢
   refine yr_ 0 101 bq_1 HT_ ?_
   refine yr_ 1 102 bq_2 HT_ ?_
   refine yr_ 2 103 bq_3 HT_ ?_
   refine yr_ 3 104 bq_4 HT_ ?_
   refine yr_ 4 105 bq_5 HT_ ?_
   refine yr_ 5 106 bq_6 HT_ ?_
   refine yr_ 6 107 bq_7 HT_ ?_
   refine tr_ 7 108 bq_8 HT_ HW_ hHeld ?_
   refine tr_ 8 109 bq_9 HT_ HW_ hHeld ?_
   refine one_ (i := 9) (N := some 110) bq_10 rfl rfl (one_of HT_.out (by kernel_rfl)) (by decide) (fun K hK => ?_)
   refine goes_ Tryd.func26 (by kernel_rfl) rfl #[.agg #[.int .i64 t509, .int .i64 t510, .int .i64 t511, .string t512, .slice Ao35 t513.length co35, .slice Ao36 t516.length co36], .agg #[.int .i64 t492, .int .i64 t493, .int .i64 t494, .string t495, .slice Ao12 t496.length co12, .slice Ao13 t499.length co13]] (by rfl) rfl rfl tq_0 ?_
   with_reducible refine (laws_sameInode.calls k4 t509 t510 t511 t512 _ _ t513 _ _ t516 t492 t493 t494 t495 _ _ t496 _ _ t499 true _ ?side1 ?side2 ?side3 ?side4 ?side5 ?side6 ?side7 ?side8 A47.out).mono ?_
   (case side1 => exact tq_93)
   (case side2 => exact (Kd.R_reads' HO_521004.out).2.1)
   (case side3 => exact tq_92)
   (case side4 => exact (Kd.R_reads' HO_521005.out).2.1)
   (case side5 => exact tq_61)
   (case side6 => exact (Kd.R_reads' HO_503004.out).2.1)
   (case side7 => exact tq_60)
   (case side8 => exact (Kd.R_reads' HO_503005.out).2.1)
   rintro e w53 ⟨rfl, hb⟩
   refine ⟨_, rfl, ?_⟩
   have z_ := p_ (Kd.R_below (raR_ HO_4) hb) <| p_ (Kd.R_below (raR_ HO_503004) hb) <| p_ (Kd.R_below (raR_ HO_503005) hb) <| p_ (Kd.R_below (raR_ HO_521004) hb) <| p_ (Kd.R_below (raR_ HO_521005) hb) <| bw2_ (kb_ BK502) (kb_ BK520) th_ hb
   clear HO_4 HO_503004 HO_503005 HO_521004 HO_521005 BK502 BK520 HB
   obtain ⟨HO_4, HO_503004, HO_503005, HO_521004, HO_521005, BK502, BK520, HB⟩ := z_
   (try clear hb)
   refine hK.out _ _ (bc6_ BK520.out (bk6_ BK502.out)) (fun hHeld => ?_)
   clear hK K
   refine nm_ (some 110) ?_
   refine yr_ 10 111 bq_11 HT_ ?_
   refine yr_ 11 112 bq_12 HT_ ?_
   refine tr_ 12 113 bq_24 HT_ HW_ hHeld ?_
   refine one_ (i := 13) (N := some 114) bq_25 rfl rfl (one_of HT_.out (by kernel_rfl)) (by decide) (fun K hK => ?_)
   refine goes_ Tryd.func19 (by kernel_rfl) rfl #[.agg #[.int .i64 t492, .int .i64 t493, .int .i64 t494, .string t495, .slice Ao12 t496.length co12, .slice Ao13 t499.length co13]] (by rfl) rfl rfl tq_0 ?_
   with_reducible refine (impl_InodeOk.calls k4 t492 t493 t494 t495 _ _ t496 _ _ t499 true _ ?side1 ?side2 ?side3 ?side4 A49.out).mono ?_
   (case side1 => exact tq_61)
   (case side2 => exact (Kd.R_reads' HO_503004.out).2.1)
   (case side3 => exact tq_60)
   (case side4 => exact (Kd.R_reads' HO_503005.out).2.1)
   rintro e w54 ⟨rfl, hb⟩
   refine ⟨_, rfl, ?_⟩
   have z_ := p_ (Kd.R_below (raR_ HO_4) hb) <| p_ (Kd.R_below (raR_ HO_503004) hb) <| p_ (Kd.R_below (raR_ HO_503005) hb) <| p_ (Kd.R_below (raR_ HO_521004) hb) <| p_ (Kd.R_below (raR_ HO_521005) hb) <| bw2_ (kb_ BK502) (kb_ BK520) th_ hb
   clear HO_4 HO_503004 HO_503005 HO_521004 HO_521005 BK502 BK520 HB
   obtain ⟨HO_4, HO_503004, HO_503005, HO_521004, HO_521005, BK502, BK520, HB⟩ := z_
   (try clear hb)
   refine hK.out _ _ (bc6_ BK520.out (bk6_ BK502.out)) (fun hHeld => ?_)
   clear hK K
   refine nm_ (some 114) ?_
   refine yr_ 14 115 bq_13 HT_ ?_
   refine yr_ 15 116 bq_14 HT_ ?_
   refine yr_ 16 117 bq_15 HT_ ?_
   refine yr_ 19 120 #[true, true, true, true, true, true, true, true, true, true, true, true, true, true, true, true, true, false, false, true, false, false, false, false, false] HT_ ?_
   refine tr_ 17 118 #[true, true, true, true, true, true, true, true, true, true, true, true, true, true, true, true, true, true, false, true, false, false, false, false, false] HT_ HW_ hHeld ?_
   refine yr_ 18 119 bq_16 HT_ ?_
   refine tr_ 20 121 bq_17 HT_ HW_ hHeld ?_
   refine one_ (i := 21) (N := some 122) bq_18 rfl rfl (one_of HT_.out (by kernel_rfl)) (by decide) (fun K hK => ?_)
   refine goes_ Tryd.func20 (by kernel_rfl) rfl #[.int .i64 t493] (by rfl) rfl rfl tq_0 ?_
   with_reducible refine (impl_PagesFor.calls t493 t531 _ A51.out).mono ?_
   rintro e w' ⟨rfl, ⟨nd, rfl⟩⟩
   refine ⟨_, rfl, ?_⟩
   refine hK.out _ _ (bc6_ BK520.out (bk6_ BK502.out)) (fun hHeld => ?_)
   clear hK K
   refine nm_ (some 122) ?_
   refine yr_ 22 123 bq_19 HT_ ?_
   refine yr_ 23 124 bq_20 HT_ ?_
   refine yr_ 24 2 bq_21 HT_ ?_
   refine done_ (done_of HT_.out (by kernel_rfl)) ?_
   try go_wp2
   go_ret
   exact ⟨tq_3, th_⟩
  case rest =>
  clear HC41
  try clear c2; try clear p2; try clear c4; try clear c26; try clear c45; try clear c45b0; try clear c45b1; try clear c46
  obtain ⟨kq, HA, HJ40, HO_4, HO_503004, HO_503005, HO_521004, HO_521005, BK502, BK520, HB⟩ := hcut
  cases kq with
  | zero => exact absurd HA.out (by simp [laws_FnInodes.j5])
  | succ kj40 =>
  have H := HA.out
  clear HA
  simp only [laws_FnInodes.j5] at H
  obtain ⟨c62, H⟩ := fc_ H
  have c62b0 := decide_eq_true c62
  clear c62
  obtain ⟨c63, H⟩ := fc_ H
  have c63b0 := decide_eq_true c63
  clear c63
  obtain ⟨t533, A64, H⟩ := bd_ H
  obtain ⟨⟨t534, t535, t536⟩, A65, H⟩ := bd_ H
  try dsimp -simprocs only at H
  by_cases c66 : t536 = true
  rotate_left
  ·replace c66 := Bool.eq_false_iff.mpr c66
   subst c66
   rw [if_neg nf_] at H
   obtain rfl := Option.some.inj H
   obtain ⟨hcz101_0, hcz101_1, hcz101_2, hcz101_3, hcz101_4, hcz101_5⟩ := bk6_ BK502.out
   obtain ⟨hfz101_0, hfz101_1, hfz101_2, hfz101_3, hfz101_4, hfz101_5⟩ := bf6_ BK502.out
   have p532 : 0 ≤ (x10_4 : Int) := of_decide_eq_true tq_5
   have q532 : x10_4 < (t499.length : Int) := of_decide_eq_true tq_5
   obtain ⟨ad532, e532, hx532_0, hx532_1⟩ := at_T47 (Kd.R_reads' HO_503005.out).2.2 x10_4 p532 q532
   cases e532
   replace p532 := eq_true p532
   replace q532 := eq_true q532
   try go_wp2_with (first | ((with_reducible refine gate_callee (f := 24) rfl ?_); refine goesL_ (some 80) rfl rfl Tryd.func24 (by kernel_rfl) rfl #[.agg #[.int .i64 ((rd_T47 t499 x10_4).f0), .string ((rd_T47 t499 x10_4).f1)]] rfl tq_0 ?_; (with_reducible refine (impl_EntryWord.calls kj40 ((rd_T47 t499 x10_4).f0) ((rd_T47 t499 x10_4).f1) t533 _ A64.out).mono ?_); rintro e w102 ⟨rfl, hb⟩; refine ⟨_, rfl, ?_⟩; have z_ := p_ (Kd.R_below (raR_ HO_4) hb) <| p_ (Kd.R_below (raR_ HO_503004) hb) <| p_ (Kd.R_below (raR_ HO_503005) hb) <| p_ (Kd.R_below (raR_ HO_521004) hb) <| p_ (Kd.R_below (raR_ HO_521005) hb) <| bw2_ (kb_ BK502) (kb_ BK520) th_ hb; clear HO_4 HO_503004 HO_503005 HO_521004 HO_521005 BK502 BK520 HB; obtain ⟨HO_4, HO_503004, HO_503005, HO_521004, HO_521005, BK502, BK520, HB⟩ := z_; (try clear hb)) | ((with_reducible refine gate_callee (f := 23) rfl ?_); refine goesL_ (some 81) rfl rfl Tryd.func23 (by kernel_rfl) rfl #[.string t533] rfl tq_0 ?_; (with_reducible refine (impl_ReadEntry.calls kj40 t533 t534 t535 false _ A65.out).mono ?_); rintro e w103 ⟨rfl, hb⟩; refine ⟨_, rfl, ?_⟩; have z_ := p_ (Kd.R_below (raR_ HO_4) hb) <| p_ (Kd.R_below (raR_ HO_503004) hb) <| p_ (Kd.R_below (raR_ HO_503005) hb) <| p_ (Kd.R_below (raR_ HO_521004) hb) <| p_ (Kd.R_below (raR_ HO_521005) hb) <| bw2_ (kb_ BK502) (kb_ BK520) th_ hb; clear HO_4 HO_503004 HO_503005 HO_521004 HO_521005 BK502 BK520 HB; obtain ⟨HO_4, HO_503004, HO_503005, HO_521004, HO_521005, BK502, BK520, HB⟩ := z_; (try clear hb)) | ((with_reducible refine gate_dst (N := 11) rfl ?_); (try (refine gate_guard (by rfl) ?_; dsimp only)); refine be_ 11 (cs := #[.int .i64 0, .string (⟨#[]⟩ : ByteArray)]) 47 ?_; intro gb537 hg w104 hbox hb; have z_ := p_ (Kd.R_below (raR_ HO_4) hb) <| p_ (Kd.R_below (raR_ HO_503004) hb) <| p_ (Kd.R_below (Kd.R_elderB (raR_ HO_503005) gb537 (Nat.le_of_eq hg.symm)) hb) <| p_ (Kd.R_below (raR_ HO_521004) hb) <| p_ (Kd.R_below (Kd.R_elderB (raR_ HO_521005) gb537 (Nat.le_of_eq hg.symm)) hb) <| bx2_ (kb_ BK502) (kb_ BK520) th_ hb hbox hg; clear HO_4 HO_503004 HO_503005 HO_521004 HO_521005 BK502 BK520 HB; obtain ⟨HO_4, HO_503004, HO_503005, HO_521004, HO_521005, BK502, BK520, HB, BK537, GW537, GE537, NB502_537, NB537_502, NB520_537, NB537_520⟩ := z_; clear hb hbox hg; obtain ⟨n537_502, n502_537, n537_520, n520_537⟩ := an4_ NB537_502 NB502_537 NB537_520 NB520_537; obtain ⟨hcz107_0, hcz107_1⟩ := bk2_ BK537.out; obtain ⟨hfz107_0, hfz107_1⟩ := bf2_ BK537.out))
   have n0_ : Aside0 (Kd.R Kd.string 9 ((w104.setCell ⟨gb537, 0, none⟩ (.int .i64 t534)).setCell ⟨gb537, 1, none⟩ (.string t535)) w.heap.size (fun _ => True) (.slice Ao30 t503.length co30) t503) := ⟨tq_74⟩
   have n1_ : Aside0 (Kd.R k42 42 ((w104.setCell ⟨gb537, 0, none⟩ (.int .i64 t534)).setCell ⟨gb537, 1, none⟩ (.string t535)) w.heap.size (fun k_ => some k_ ≠ (.slice Ao35 t513.length co35 : Value).ownBlock) (.slice Ao12 t496.length co12) t496) := ⟨tq_73⟩
   have n2_ : Aside0 (Kd.R k47 47 ((w104.setCell ⟨gb537, 0, none⟩ (.int .i64 t534)).setCell ⟨gb537, 1, none⟩ (.string t535)) w.heap.size (fun k_ => some k_ ≠ (.slice Ao36 t516.length co36 : Value).ownBlock ∧ k_ ≠ gb537) (.slice (some ad532) t499.length co13) t499) := ⟨tq_65⟩
   have n3_ : Aside0 (Kd.R k42 42 ((w104.setCell ⟨gb537, 0, none⟩ (.int .i64 t534)).setCell ⟨gb537, 1, none⟩ (.string t535)) w.heap.size (fun k_ => some k_ ≠ (.slice Ao12 t496.length co12 : Value).ownBlock) (.slice Ao35 t513.length co35) t513) := ⟨tq_72⟩
   have n4_ : Aside0 (Kd.R k47 47 ((w104.setCell ⟨gb537, 0, none⟩ (.int .i64 t534)).setCell ⟨gb537, 1, none⟩ (.string t535)) w.heap.size (fun k_ => some k_ ≠ (.slice (some ad532) t499.length co13 : Value).ownBlock ∧ k_ ≠ gb537) (.slice Ao36 t516.length co36) t516) := ⟨tq_64⟩
   have n5_ : Aside0 (((w104.setCell ⟨gb537, 0, none⟩ (.int .i64 t534)).setCell ⟨gb537, 1, none⟩ (.string t535)).heap[gb502]? = some (.cells #[.int .i64 t492, .int .i64 t493, .int .i64 t494, .string t495, .slice Ao12 t496.length co12, .slice (some ad532) t499.length co13] 27 (0, 0))) := ⟨tb_⟩
   have n6_ : Aside0 (((w104.setCell ⟨gb537, 0, none⟩ (.int .i64 t534)).setCell ⟨gb537, 1, none⟩ (.string t535)).heap[gb520]? = some (.cells #[.int .i64 t509, .int .i64 t510, .int .i64 t511, .string t512, .slice Ao35 t513.length co35, .slice Ao36 t516.length co36] 27 (0, 0))) := ⟨tb_⟩
   have n7_ : Aside0 (((w104.setCell ⟨gb537, 0, none⟩ (.int .i64 t534)).setCell ⟨gb537, 1, none⟩ (.string t535)).heap[gb537]? = some (.cells #[.int .i64 t534, .string t535] 47 (0, 0))) := ⟨tb_⟩
   have n8_ : Aside0 (Below w.heap.size w ((w104.setCell ⟨gb537, 0, none⟩ (.int .i64 t534)).setCell ⟨gb537, 1, none⟩ (.string t535))) := ⟨th_⟩
   (try clear HO_4)
   (try clear HO_503004)
   (try clear HO_503005)
   (try clear HO_521004)
   (try clear HO_521005)
   (try clear BK502)
   (try clear BK520)
   (try clear BK537)
   (try clear HB)
   generalize ((w104.setCell ⟨gb537, 0, none⟩ (.int .i64 t534)).setCell ⟨gb537, 1, none⟩ (.string t535)) = w108 at n0_ n1_ n2_ n3_ n4_ n5_ n6_ n7_ n8_ ⊢
   have HO_4 := n0_
   have HO_503004 := n1_
   have HO_503005 := n2_
   have HO_521004 := n3_
   have HO_521005 := n4_
   have BK502 := n5_
   have BK520 := n6_
   have BK537 := n7_
   have HB := n8_
   clear n0_ n1_ n2_ n3_ n4_ n5_ n6_ n7_ n8_
   have z_ := p_ (Kd.R_drew HO_4.out) <| p_ (Kd.R_drew HO_503004.out) <| p_ (Kd.R_drew HO_503005.out) <| p_ (Kd.R_drew HO_521004.out) <| p_ (Kd.R_drew HO_521005.out) <| dw3_ BK502 BK520 BK537 HB
   clear HO_4 HO_503004 HO_503005 HO_521004 HO_521005 BK502 BK520 BK537 HB
   obtain ⟨HO_4, HO_503004, HO_503005, HO_521004, HO_521005, BK502, BK520, BK537, HB⟩ := z_
   refine start_ (n := 17) (S := fun w' => True) (ds := []) bq_32 (by kernel_rfl) rfl rfl trivial (fun hHeld => ?_); refine with_tabW laws_FnInodes.tab18 laws_FnInodes.bits18 (fun HT_ HW_ => ?_)
   generalize w108.drew = w109 at HO_4 HO_503004 HO_503005 HO_521004 HO_521005 BK502 BK520 BK537 HB hHeld ⊢
   refine yr_ 0 84 bq_33 HT_ ?_
   refine yr_ 1 85 bq_80 HT_ ?_
   refine yr_ 2 86 bq_81 HT_ ?_
   refine ur_ 3 87 #[true, true, true, true, false, false, false, false, false, false, false, false, false, false, false, false, false] HT_ ?_
   refine ur_ 4 88 #[true, true, true, true, true, false, false, false, false, false, false, false, false, false, false, false, false] HT_ ?_
   refine ur_ 5 89 #[true, true, true, true, true, true, false, false, false, false, false, false, false, false, false, false, false] HT_ ?_
   refine ur_ 6 90 bq_82 HT_ ?_
   refine ur_ 7 91 bq_83 HT_ ?_
   refine ur_ 8 92 bq_84 HT_ ?_
   refine ur_ 9 93 bq_85 HT_ ?_
   refine yr_ 10 94 bq_86 HT_ ?_
   refine yr_ 11 95 bq_87 HT_ ?_
   refine ur_ 12 96 bq_88 HT_ ?_
   refine ur_ 13 97 bq_34 HT_ ?_
   refine ur_ 14 98 bq_35 HT_ ?_
   refine ur_ 15 99 bq_36 HT_ ?_
   refine yr_ 16 100 bq_37 HT_ ?_
   refine done_ (done_of HT_.out (by kernel_rfl)) ?_
   try go_wp2
   go_ret
   exact ⟨tq_3, th_⟩
  subst c66
  rw [if_pos rfl] at H
  by_cases c67 : (!(t534 == ((rd_T47 t499 x10_4).f0)) || (!(t535.toList == (((rd_T47 t499 x10_4).f1).toList)))) = true
  ·rw [if_pos c67] at H
   have c67b0 : (!(t534 == ((rd_T47 t499 x10_4).f0)) || (!(t535.toList == (((rd_T47 t499 x10_4).f1).toList)))) = true := c67
   clear c67
   obtain rfl := Option.some.inj H
   obtain ⟨hcz69_0, hcz69_1, hcz69_2, hcz69_3, hcz69_4, hcz69_5⟩ := bk6_ BK502.out
   obtain ⟨hfz69_0, hfz69_1, hfz69_2, hfz69_3, hfz69_4, hfz69_5⟩ := bf6_ BK502.out
   have p532 : 0 ≤ (x10_4 : Int) := of_decide_eq_true tq_5
   have q532 : x10_4 < (t499.length : Int) := of_decide_eq_true tq_5
   obtain ⟨ad532, e532, hx532_0, hx532_1⟩ := at_T47 (Kd.R_reads' HO_503005.out).2.2 x10_4 p532 q532
   cases e532
   replace p532 := eq_true p532
   replace q532 := eq_true q532
   try go_wp2_with (first | ((with_reducible refine gate_callee (f := 24) rfl ?_); refine goesL_ (some 80) rfl rfl Tryd.func24 (by kernel_rfl) rfl #[.agg #[.int .i64 ((rd_T47 t499 x10_4).f0), .string ((rd_T47 t499 x10_4).f1)]] rfl tq_0 ?_; (with_reducible refine (impl_EntryWord.calls kj40 ((rd_T47 t499 x10_4).f0) ((rd_T47 t499 x10_4).f1) t533 _ A64.out).mono ?_); rintro e w70 ⟨rfl, hb⟩; refine ⟨_, rfl, ?_⟩; have z_ := p_ (Kd.R_below (raR_ HO_4) hb) <| p_ (Kd.R_below (raR_ HO_503004) hb) <| p_ (Kd.R_below (raR_ HO_503005) hb) <| p_ (Kd.R_below (raR_ HO_521004) hb) <| p_ (Kd.R_below (raR_ HO_521005) hb) <| bw2_ (kb_ BK502) (kb_ BK520) th_ hb; clear HO_4 HO_503004 HO_503005 HO_521004 HO_521005 BK502 BK520 HB; obtain ⟨HO_4, HO_503004, HO_503005, HO_521004, HO_521005, BK502, BK520, HB⟩ := z_; (try clear hb)) | ((with_reducible refine gate_callee (f := 23) rfl ?_); refine goesL_ (some 81) rfl rfl Tryd.func23 (by kernel_rfl) rfl #[.string t533] rfl tq_0 ?_; (with_reducible refine (impl_ReadEntry.calls kj40 t533 t534 t535 true _ A65.out).mono ?_); rintro e w71 ⟨rfl, hb⟩; refine ⟨_, rfl, ?_⟩; have z_ := p_ (Kd.R_below (raR_ HO_4) hb) <| p_ (Kd.R_below (raR_ HO_503004) hb) <| p_ (Kd.R_below (raR_ HO_503005) hb) <| p_ (Kd.R_below (raR_ HO_521004) hb) <| p_ (Kd.R_below (raR_ HO_521005) hb) <| bw2_ (kb_ BK502) (kb_ BK520) th_ hb; clear HO_4 HO_503004 HO_503005 HO_521004 HO_521005 BK502 BK520 HB; obtain ⟨HO_4, HO_503004, HO_503005, HO_521004, HO_521005, BK502, BK520, HB⟩ := z_; (try clear hb)) | ((with_reducible refine gate_dst (N := 11) rfl ?_); (try (refine gate_guard (by rfl) ?_; dsimp only)); refine be_ 11 (cs := #[.int .i64 0, .string (⟨#[]⟩ : ByteArray)]) 47 ?_; intro gb537 hg w72 hbox hb; have z_ := p_ (Kd.R_below (raR_ HO_4) hb) <| p_ (Kd.R_below (raR_ HO_503004) hb) <| p_ (Kd.R_below (Kd.R_elderB (raR_ HO_503005) gb537 (Nat.le_of_eq hg.symm)) hb) <| p_ (Kd.R_below (raR_ HO_521004) hb) <| p_ (Kd.R_below (Kd.R_elderB (raR_ HO_521005) gb537 (Nat.le_of_eq hg.symm)) hb) <| bx2_ (kb_ BK502) (kb_ BK520) th_ hb hbox hg; clear HO_4 HO_503004 HO_503005 HO_521004 HO_521005 BK502 BK520 HB; obtain ⟨HO_4, HO_503004, HO_503005, HO_521004, HO_521005, BK502, BK520, HB, BK537, GW537, GE537, NB502_537, NB537_502, NB520_537, NB537_520⟩ := z_; clear hb hbox hg; obtain ⟨n537_502, n502_537, n537_520, n520_537⟩ := an4_ NB537_502 NB502_537 NB537_520 NB520_537; obtain ⟨hcz75_0, hcz75_1⟩ := bk2_ BK537.out; obtain ⟨hfz75_0, hfz75_1⟩ := bf2_ BK537.out))
   have n0_ : Aside0 (Kd.R Kd.string 9 ((w72.setCell ⟨gb537, 0, none⟩ (.int .i64 t534)).setCell ⟨gb537, 1, none⟩ (.string t535)) w.heap.size (fun _ => True) (.slice Ao30 t503.length co30) t503) := ⟨tq_74⟩
   have n1_ : Aside0 (Kd.R k42 42 ((w72.setCell ⟨gb537, 0, none⟩ (.int .i64 t534)).setCell ⟨gb537, 1, none⟩ (.string t535)) w.heap.size (fun k_ => some k_ ≠ (.slice Ao35 t513.length co35 : Value).ownBlock) (.slice Ao12 t496.length co12) t496) := ⟨tq_73⟩
   have n2_ : Aside0 (Kd.R k47 47 ((w72.setCell ⟨gb537, 0, none⟩ (.int .i64 t534)).setCell ⟨gb537, 1, none⟩ (.string t535)) w.heap.size (fun k_ => some k_ ≠ (.slice Ao36 t516.length co36 : Value).ownBlock ∧ k_ ≠ gb537) (.slice (some ad532) t499.length co13) t499) := ⟨tq_65⟩
   have n3_ : Aside0 (Kd.R k42 42 ((w72.setCell ⟨gb537, 0, none⟩ (.int .i64 t534)).setCell ⟨gb537, 1, none⟩ (.string t535)) w.heap.size (fun k_ => some k_ ≠ (.slice Ao12 t496.length co12 : Value).ownBlock) (.slice Ao35 t513.length co35) t513) := ⟨tq_72⟩
   have n4_ : Aside0 (Kd.R k47 47 ((w72.setCell ⟨gb537, 0, none⟩ (.int .i64 t534)).setCell ⟨gb537, 1, none⟩ (.string t535)) w.heap.size (fun k_ => some k_ ≠ (.slice (some ad532) t499.length co13 : Value).ownBlock ∧ k_ ≠ gb537) (.slice Ao36 t516.length co36) t516) := ⟨tq_64⟩
   have n5_ : Aside0 (((w72.setCell ⟨gb537, 0, none⟩ (.int .i64 t534)).setCell ⟨gb537, 1, none⟩ (.string t535)).heap[gb502]? = some (.cells #[.int .i64 t492, .int .i64 t493, .int .i64 t494, .string t495, .slice Ao12 t496.length co12, .slice (some ad532) t499.length co13] 27 (0, 0))) := ⟨tb_⟩
   have n6_ : Aside0 (((w72.setCell ⟨gb537, 0, none⟩ (.int .i64 t534)).setCell ⟨gb537, 1, none⟩ (.string t535)).heap[gb520]? = some (.cells #[.int .i64 t509, .int .i64 t510, .int .i64 t511, .string t512, .slice Ao35 t513.length co35, .slice Ao36 t516.length co36] 27 (0, 0))) := ⟨tb_⟩
   have n7_ : Aside0 (((w72.setCell ⟨gb537, 0, none⟩ (.int .i64 t534)).setCell ⟨gb537, 1, none⟩ (.string t535)).heap[gb537]? = some (.cells #[.int .i64 t534, .string t535] 47 (0, 0))) := ⟨tb_⟩
   have n8_ : Aside0 (Below w.heap.size w ((w72.setCell ⟨gb537, 0, none⟩ (.int .i64 t534)).setCell ⟨gb537, 1, none⟩ (.string t535))) := ⟨th_⟩
   (try clear HO_4)
   (try clear HO_503004)
   (try clear HO_503005)
   (try clear HO_521004)
   (try clear HO_521005)
   (try clear BK502)
   (try clear BK520)
   (try clear BK537)
   (try clear HB)
   generalize ((w72.setCell ⟨gb537, 0, none⟩ (.int .i64 t534)).setCell ⟨gb537, 1, none⟩ (.string t535)) = w76 at n0_ n1_ n2_ n3_ n4_ n5_ n6_ n7_ n8_ ⊢
   have HO_4 := n0_
   have HO_503004 := n1_
   have HO_503005 := n2_
   have HO_521004 := n3_
   have HO_521005 := n4_
   have BK502 := n5_
   have BK520 := n6_
   have BK537 := n7_
   have HB := n8_
   clear n0_ n1_ n2_ n3_ n4_ n5_ n6_ n7_ n8_
   have z_ := p_ (Kd.R_drew HO_4.out) <| p_ (Kd.R_drew HO_503004.out) <| p_ (Kd.R_drew HO_503005.out) <| p_ (Kd.R_drew HO_521004.out) <| p_ (Kd.R_drew HO_521005.out) <| dw3_ BK502 BK520 BK537 HB
   clear HO_4 HO_503004 HO_503005 HO_521004 HO_521005 BK502 BK520 BK537 HB
   obtain ⟨HO_4, HO_503004, HO_503005, HO_521004, HO_521005, BK502, BK520, BK537, HB⟩ := z_
   have p538 : 0 ≤ (x10_4 : Int) := of_decide_eq_true tq_5
   have q538 : x10_4 < (t499.length : Int) := of_decide_eq_true tq_5
   obtain ⟨ad538, e538, hx538_0, hx538_1⟩ := at_T47 (Kd.R_reads' HO_503005.out).2.2 x10_4 p538 q538
   obtain rfl : ad532 = ad538 := (by injection e538)
   replace p538 := eq_true p538
   replace q538 := eq_true q538
   refine start_ (n := 17) (S := fun w' => w'.cell? ⟨gb537, 0, none⟩ = some (.int .i64 t534) ∧ w'.cell? ⟨gb537, 1, none⟩ = some (.string t535) ∧ w'.cell? ⟨gb502, 0, none⟩ = some (.int .i64 t492) ∧ w'.cell? ⟨gb502, 1, none⟩ = some (.int .i64 t493) ∧ w'.cell? ⟨gb502, 2, none⟩ = some (.int .i64 t494) ∧ w'.cell? ⟨gb502, 3, none⟩ = some (.string t495) ∧ w'.cell? ⟨gb502, 4, none⟩ = some (.slice Ao12 t496.length co12) ∧ w'.cell? ⟨gb502, 5, none⟩ = some (.slice (some ad532) t499.length co13) ∧ w'.cell? (ad532.add ((x10_4).toNat * 2)) = some (.int .i64 ((rd_T47 t499 x10_4).f0)) ∧ w'.cell? ⟨(ad532.add ((x10_4).toNat * 2)).block, (ad532.add ((x10_4).toNat * 2)).off + 1, none⟩ = some (.string ((rd_T47 t499 x10_4).f1))) (ds := []) bq_32 (by kernel_rfl) rfl rfl (bc2_ BK537.out (bc6_ BK502.out ⟨hx538_0, hx538_1⟩)) (fun hHeld => ?_); refine with_tabW laws_FnInodes.tab18 laws_FnInodes.bits18 (fun HT_ HW_ => ?_)
   generalize w76.drew = w77 at HO_4 HO_503004 HO_503005 HO_521004 HO_521005 BK502 BK520 BK537 HB hx538_0 hx538_1 hHeld ⊢
   refine yr_ 0 84 bq_33 HT_ ?_
   refine yr_ 1 85 bq_80 HT_ ?_
   refine yr_ 2 86 bq_81 HT_ ?_
   refine yr_ 4 88 bq_89 HT_ ?_
   refine yr_ 6 90 bq_90 HT_ ?_
   refine tr_ 3 87 bq_91 HT_ HW_ hHeld ?_
   refine tr_ 5 89 bq_82 HT_ HW_ hHeld ?_
   refine yr_ 7 91 bq_83 HT_ ?_
   refine tr_ 8 92 bq_84 HT_ HW_ hHeld ?_
   refine yr_ 9 93 bq_85 HT_ ?_
   refine yr_ 10 94 bq_86 HT_ ?_
   refine yr_ 11 95 bq_87 HT_ ?_
   refine ur_ 12 96 bq_88 HT_ ?_
   refine ur_ 13 97 bq_34 HT_ ?_
   refine ur_ 14 98 bq_35 HT_ ?_
   refine ur_ 15 99 bq_36 HT_ ?_
   refine yr_ 16 100 bq_37 HT_ ?_
   refine done_ (done_of HT_.out (by kernel_rfl)) ?_
   try go_wp2
   go_ret
   exact ⟨tq_3, th_⟩
  rw [if_neg c67] at H
  have c67b0 : (!(t534 == ((rd_T47 t499 x10_4).f0)) || (!(t535.toList == (((rd_T47 t499 x10_4).f1).toList)))) = false := by simpa using c67
  clear c67
  obtain ⟨t539, A78, H⟩ := bd_ H
  by_cases c79 : t539 = true
  rotate_left
  ·replace c79 := Bool.eq_false_iff.mpr c79
   subst c79
   rw [if_neg nf_] at H
   obtain rfl := Option.some.inj H
   obtain ⟨hcz91_0, hcz91_1, hcz91_2, hcz91_3, hcz91_4, hcz91_5⟩ := bk6_ BK502.out
   obtain ⟨hfz91_0, hfz91_1, hfz91_2, hfz91_3, hfz91_4, hfz91_5⟩ := bf6_ BK502.out
   have p532 : 0 ≤ (x10_4 : Int) := of_decide_eq_true tq_5
   have q532 : x10_4 < (t499.length : Int) := of_decide_eq_true tq_5
   obtain ⟨ad532, e532, hx532_0, hx532_1⟩ := at_T47 (Kd.R_reads' HO_503005.out).2.2 x10_4 p532 q532
   cases e532
   replace p532 := eq_true p532
   replace q532 := eq_true q532
   try go_wp2_with (first | ((with_reducible refine gate_callee (f := 24) rfl ?_); refine goesL_ (some 80) rfl rfl Tryd.func24 (by kernel_rfl) rfl #[.agg #[.int .i64 ((rd_T47 t499 x10_4).f0), .string ((rd_T47 t499 x10_4).f1)]] rfl tq_0 ?_; (with_reducible refine (impl_EntryWord.calls kj40 ((rd_T47 t499 x10_4).f0) ((rd_T47 t499 x10_4).f1) t533 _ A64.out).mono ?_); rintro e w92 ⟨rfl, hb⟩; refine ⟨_, rfl, ?_⟩; have z_ := p_ (Kd.R_below (raR_ HO_4) hb) <| p_ (Kd.R_below (raR_ HO_503004) hb) <| p_ (Kd.R_below (raR_ HO_503005) hb) <| p_ (Kd.R_below (raR_ HO_521004) hb) <| p_ (Kd.R_below (raR_ HO_521005) hb) <| bw2_ (kb_ BK502) (kb_ BK520) th_ hb; clear HO_4 HO_503004 HO_503005 HO_521004 HO_521005 BK502 BK520 HB; obtain ⟨HO_4, HO_503004, HO_503005, HO_521004, HO_521005, BK502, BK520, HB⟩ := z_; (try clear hb)) | ((with_reducible refine gate_callee (f := 23) rfl ?_); refine goesL_ (some 81) rfl rfl Tryd.func23 (by kernel_rfl) rfl #[.string t533] rfl tq_0 ?_; (with_reducible refine (impl_ReadEntry.calls kj40 t533 t534 t535 true _ A65.out).mono ?_); rintro e w93 ⟨rfl, hb⟩; refine ⟨_, rfl, ?_⟩; have z_ := p_ (Kd.R_below (raR_ HO_4) hb) <| p_ (Kd.R_below (raR_ HO_503004) hb) <| p_ (Kd.R_below (raR_ HO_503005) hb) <| p_ (Kd.R_below (raR_ HO_521004) hb) <| p_ (Kd.R_below (raR_ HO_521005) hb) <| bw2_ (kb_ BK502) (kb_ BK520) th_ hb; clear HO_4 HO_503004 HO_503005 HO_521004 HO_521005 BK502 BK520 HB; obtain ⟨HO_4, HO_503004, HO_503005, HO_521004, HO_521005, BK502, BK520, HB⟩ := z_; (try clear hb)) | ((with_reducible refine gate_dst (N := 11) rfl ?_); (try (refine gate_guard (by rfl) ?_; dsimp only)); refine be_ 11 (cs := #[.int .i64 0, .string (⟨#[]⟩ : ByteArray)]) 47 ?_; intro gb537 hg w94 hbox hb; have z_ := p_ (Kd.R_below (raR_ HO_4) hb) <| p_ (Kd.R_below (raR_ HO_503004) hb) <| p_ (Kd.R_below (Kd.R_elderB (raR_ HO_503005) gb537 (Nat.le_of_eq hg.symm)) hb) <| p_ (Kd.R_below (raR_ HO_521004) hb) <| p_ (Kd.R_below (Kd.R_elderB (raR_ HO_521005) gb537 (Nat.le_of_eq hg.symm)) hb) <| bx2_ (kb_ BK502) (kb_ BK520) th_ hb hbox hg; clear HO_4 HO_503004 HO_503005 HO_521004 HO_521005 BK502 BK520 HB; obtain ⟨HO_4, HO_503004, HO_503005, HO_521004, HO_521005, BK502, BK520, HB, BK537, GW537, GE537, NB502_537, NB537_502, NB520_537, NB537_520⟩ := z_; clear hb hbox hg; obtain ⟨n537_502, n502_537, n537_520, n520_537⟩ := an4_ NB537_502 NB502_537 NB537_520 NB520_537; obtain ⟨hcz97_0, hcz97_1⟩ := bk2_ BK537.out; obtain ⟨hfz97_0, hfz97_1⟩ := bf2_ BK537.out))
   have n0_ : Aside0 (Kd.R Kd.string 9 ((w94.setCell ⟨gb537, 0, none⟩ (.int .i64 t534)).setCell ⟨gb537, 1, none⟩ (.string t535)) w.heap.size (fun _ => True) (.slice Ao30 t503.length co30) t503) := ⟨tq_74⟩
   have n1_ : Aside0 (Kd.R k42 42 ((w94.setCell ⟨gb537, 0, none⟩ (.int .i64 t534)).setCell ⟨gb537, 1, none⟩ (.string t535)) w.heap.size (fun k_ => some k_ ≠ (.slice Ao35 t513.length co35 : Value).ownBlock) (.slice Ao12 t496.length co12) t496) := ⟨tq_73⟩
   have n2_ : Aside0 (Kd.R k47 47 ((w94.setCell ⟨gb537, 0, none⟩ (.int .i64 t534)).setCell ⟨gb537, 1, none⟩ (.string t535)) w.heap.size (fun k_ => some k_ ≠ (.slice Ao36 t516.length co36 : Value).ownBlock ∧ k_ ≠ gb537) (.slice (some ad532) t499.length co13) t499) := ⟨tq_65⟩
   have n3_ : Aside0 (Kd.R k42 42 ((w94.setCell ⟨gb537, 0, none⟩ (.int .i64 t534)).setCell ⟨gb537, 1, none⟩ (.string t535)) w.heap.size (fun k_ => some k_ ≠ (.slice Ao12 t496.length co12 : Value).ownBlock) (.slice Ao35 t513.length co35) t513) := ⟨tq_72⟩
   have n4_ : Aside0 (Kd.R k47 47 ((w94.setCell ⟨gb537, 0, none⟩ (.int .i64 t534)).setCell ⟨gb537, 1, none⟩ (.string t535)) w.heap.size (fun k_ => some k_ ≠ (.slice (some ad532) t499.length co13 : Value).ownBlock ∧ k_ ≠ gb537) (.slice Ao36 t516.length co36) t516) := ⟨tq_64⟩
   have n5_ : Aside0 (((w94.setCell ⟨gb537, 0, none⟩ (.int .i64 t534)).setCell ⟨gb537, 1, none⟩ (.string t535)).heap[gb502]? = some (.cells #[.int .i64 t492, .int .i64 t493, .int .i64 t494, .string t495, .slice Ao12 t496.length co12, .slice (some ad532) t499.length co13] 27 (0, 0))) := ⟨tb_⟩
   have n6_ : Aside0 (((w94.setCell ⟨gb537, 0, none⟩ (.int .i64 t534)).setCell ⟨gb537, 1, none⟩ (.string t535)).heap[gb520]? = some (.cells #[.int .i64 t509, .int .i64 t510, .int .i64 t511, .string t512, .slice Ao35 t513.length co35, .slice Ao36 t516.length co36] 27 (0, 0))) := ⟨tb_⟩
   have n7_ : Aside0 (((w94.setCell ⟨gb537, 0, none⟩ (.int .i64 t534)).setCell ⟨gb537, 1, none⟩ (.string t535)).heap[gb537]? = some (.cells #[.int .i64 t534, .string t535] 47 (0, 0))) := ⟨tb_⟩
   have n8_ : Aside0 (Below w.heap.size w ((w94.setCell ⟨gb537, 0, none⟩ (.int .i64 t534)).setCell ⟨gb537, 1, none⟩ (.string t535))) := ⟨th_⟩
   (try clear HO_4)
   (try clear HO_503004)
   (try clear HO_503005)
   (try clear HO_521004)
   (try clear HO_521005)
   (try clear BK502)
   (try clear BK520)
   (try clear BK537)
   (try clear HB)
   generalize ((w94.setCell ⟨gb537, 0, none⟩ (.int .i64 t534)).setCell ⟨gb537, 1, none⟩ (.string t535)) = w98 at n0_ n1_ n2_ n3_ n4_ n5_ n6_ n7_ n8_ ⊢
   have HO_4 := n0_
   have HO_503004 := n1_
   have HO_503005 := n2_
   have HO_521004 := n3_
   have HO_521005 := n4_
   have BK502 := n5_
   have BK520 := n6_
   have BK537 := n7_
   have HB := n8_
   clear n0_ n1_ n2_ n3_ n4_ n5_ n6_ n7_ n8_
   have z_ := p_ (Kd.R_drew HO_4.out) <| p_ (Kd.R_drew HO_503004.out) <| p_ (Kd.R_drew HO_503005.out) <| p_ (Kd.R_drew HO_521004.out) <| p_ (Kd.R_drew HO_521005.out) <| dw3_ BK502 BK520 BK537 HB
   clear HO_4 HO_503004 HO_503005 HO_521004 HO_521005 BK502 BK520 BK537 HB
   obtain ⟨HO_4, HO_503004, HO_503005, HO_521004, HO_521005, BK502, BK520, BK537, HB⟩ := z_
   have p538 : 0 ≤ (x10_4 : Int) := of_decide_eq_true tq_5
   have q538 : x10_4 < (t499.length : Int) := of_decide_eq_true tq_5
   obtain ⟨ad538, e538, hx538_0, hx538_1⟩ := at_T47 (Kd.R_reads' HO_503005.out).2.2 x10_4 p538 q538
   obtain rfl : ad532 = ad538 := (by injection e538)
   replace p538 := eq_true p538
   replace q538 := eq_true q538
   refine start_ (n := 17) (S := fun w' => w'.cell? ⟨gb537, 0, none⟩ = some (.int .i64 t534) ∧ w'.cell? ⟨gb537, 1, none⟩ = some (.string t535) ∧ w'.cell? ⟨gb502, 0, none⟩ = some (.int .i64 t492) ∧ w'.cell? ⟨gb502, 1, none⟩ = some (.int .i64 t493) ∧ w'.cell? ⟨gb502, 2, none⟩ = some (.int .i64 t494) ∧ w'.cell? ⟨gb502, 3, none⟩ = some (.string t495) ∧ w'.cell? ⟨gb502, 4, none⟩ = some (.slice Ao12 t496.length co12) ∧ w'.cell? ⟨gb502, 5, none⟩ = some (.slice (some ad532) t499.length co13) ∧ w'.cell? (ad532.add ((x10_4).toNat * 2)) = some (.int .i64 ((rd_T47 t499 x10_4).f0)) ∧ w'.cell? ⟨(ad532.add ((x10_4).toNat * 2)).block, (ad532.add ((x10_4).toNat * 2)).off + 1, none⟩ = some (.string ((rd_T47 t499 x10_4).f1))) (ds := []) bq_32 (by kernel_rfl) rfl rfl (bc2_ BK537.out (bc6_ BK502.out ⟨hx538_0, hx538_1⟩)) (fun hHeld => ?_); refine with_tabW laws_FnInodes.tab18 laws_FnInodes.bits18 (fun HT_ HW_ => ?_)
   generalize w98.drew = w99 at HO_4 HO_503004 HO_503005 HO_521004 HO_521005 BK502 BK520 BK537 HB hx538_0 hx538_1 hHeld ⊢
   refine yr_ 0 84 bq_33 HT_ ?_
   refine yr_ 1 85 bq_80 HT_ ?_
   refine yr_ 2 86 bq_81 HT_ ?_
   refine yr_ 4 88 bq_89 HT_ ?_
   refine yr_ 6 90 bq_90 HT_ ?_
   refine tr_ 3 87 bq_91 HT_ HW_ hHeld ?_
   refine tr_ 5 89 bq_82 HT_ HW_ hHeld ?_
   refine yr_ 7 91 bq_83 HT_ ?_
   refine tr_ 8 92 bq_84 HT_ HW_ hHeld ?_
   refine yr_ 9 93 bq_85 HT_ ?_
   refine yr_ 10 94 bq_86 HT_ ?_
   refine yr_ 11 95 bq_87 HT_ ?_
   refine yr_ 12 96 bq_88 HT_ ?_
   refine tr_ 13 97 bq_34 HT_ HW_ hHeld ?_
   refine one_ (i := 14) (N := some 98) bq_35 rfl rfl (one_of HT_.out (by kernel_rfl)) (by decide) (fun K hK => ?_)
   refine goes_ Tryd.func25 (by kernel_rfl) rfl #[.string t535] (by rfl) rfl rfl tq_0 ?_
   with_reducible refine (impl_NameOk.calls kj40 t535 false _ A78.out).mono ?_
   rintro e w' ⟨rfl, ⟨nd, rfl⟩⟩
   refine ⟨_, rfl, ?_⟩
   refine hK.out _ _ (bc2_ BK537.out (bc6_ BK502.out ⟨hHeld.2.2.2.2.2.2.2.2.1, hHeld.2.2.2.2.2.2.2.2.2⟩)) (fun hHeld => ?_)
   clear hK K
   refine nm_ (some 98) ?_
   refine yr_ 15 99 bq_36 HT_ ?_
   refine yr_ 16 100 bq_37 HT_ ?_
   refine done_ (done_of HT_.out (by kernel_rfl)) ?_
   try go_wp2
   go_ret
   exact ⟨tq_3, th_⟩
  subst c79
  rw [if_pos rfl] at H
  have H' := Aside0.mk H
  clear H
  obtain ⟨hcz81_0, hcz81_1, hcz81_2, hcz81_3, hcz81_4, hcz81_5⟩ := bk6_ BK502.out
  obtain ⟨hfz81_0, hfz81_1, hfz81_2, hfz81_3, hfz81_4, hfz81_5⟩ := bf6_ BK502.out
  have p532 : 0 ≤ (x10_4 : Int) := of_decide_eq_true tq_5
  have q532 : x10_4 < (t499.length : Int) := of_decide_eq_true tq_5
  obtain ⟨ad532, e532, hx532_0, hx532_1⟩ := at_T47 (Kd.R_reads' HO_503005.out).2.2 x10_4 p532 q532
  cases e532
  replace p532 := eq_true p532
  replace q532 := eq_true q532
  try go_wp2_with (first | ((with_reducible refine gate_callee (f := 24) rfl ?_); refine goesL_ (some 80) rfl rfl Tryd.func24 (by kernel_rfl) rfl #[.agg #[.int .i64 ((rd_T47 t499 x10_4).f0), .string ((rd_T47 t499 x10_4).f1)]] rfl tq_0 ?_; (with_reducible refine (impl_EntryWord.calls kj40 ((rd_T47 t499 x10_4).f0) ((rd_T47 t499 x10_4).f1) t533 _ A64.out).mono ?_); rintro e w82 ⟨rfl, hb⟩; refine ⟨_, rfl, ?_⟩; have z_ := p_ (Kd.R_below (raR_ HO_4) hb) <| p_ (Kd.R_below (raR_ HO_503004) hb) <| p_ (Kd.R_below (raR_ HO_503005) hb) <| p_ (Kd.R_below (raR_ HO_521004) hb) <| p_ (Kd.R_below (raR_ HO_521005) hb) <| bw2_ (kb_ BK502) (kb_ BK520) th_ hb; clear HO_4 HO_503004 HO_503005 HO_521004 HO_521005 BK502 BK520 HB; obtain ⟨HO_4, HO_503004, HO_503005, HO_521004, HO_521005, BK502, BK520, HB⟩ := z_; (try clear hb)) | ((with_reducible refine gate_callee (f := 23) rfl ?_); refine goesL_ (some 81) rfl rfl Tryd.func23 (by kernel_rfl) rfl #[.string t533] rfl tq_0 ?_; (with_reducible refine (impl_ReadEntry.calls kj40 t533 t534 t535 true _ A65.out).mono ?_); rintro e w83 ⟨rfl, hb⟩; refine ⟨_, rfl, ?_⟩; have z_ := p_ (Kd.R_below (raR_ HO_4) hb) <| p_ (Kd.R_below (raR_ HO_503004) hb) <| p_ (Kd.R_below (raR_ HO_503005) hb) <| p_ (Kd.R_below (raR_ HO_521004) hb) <| p_ (Kd.R_below (raR_ HO_521005) hb) <| bw2_ (kb_ BK502) (kb_ BK520) th_ hb; clear HO_4 HO_503004 HO_503005 HO_521004 HO_521005 BK502 BK520 HB; obtain ⟨HO_4, HO_503004, HO_503005, HO_521004, HO_521005, BK502, BK520, HB⟩ := z_; (try clear hb)) | ((with_reducible refine gate_dst (N := 11) rfl ?_); (try (refine gate_guard (by rfl) ?_; dsimp only)); refine be_ 11 (cs := #[.int .i64 0, .string (⟨#[]⟩ : ByteArray)]) 47 ?_; intro gb537 hg w84 hbox hb; have z_ := p_ (Kd.R_below (raR_ HO_4) hb) <| p_ (Kd.R_below (raR_ HO_503004) hb) <| p_ (Kd.R_below (Kd.R_elderB (raR_ HO_503005) gb537 (Nat.le_of_eq hg.symm)) hb) <| p_ (Kd.R_below (raR_ HO_521004) hb) <| p_ (Kd.R_below (Kd.R_elderB (raR_ HO_521005) gb537 (Nat.le_of_eq hg.symm)) hb) <| bx2_ (kb_ BK502) (kb_ BK520) th_ hb hbox hg; clear HO_4 HO_503004 HO_503005 HO_521004 HO_521005 BK502 BK520 HB; obtain ⟨HO_4, HO_503004, HO_503005, HO_521004, HO_521005, BK502, BK520, HB, BK537, GW537, GE537, NB502_537, NB537_502, NB520_537, NB537_520⟩ := z_; clear hb hbox hg; obtain ⟨n537_502, n502_537, n537_520, n520_537⟩ := an4_ NB537_502 NB502_537 NB537_520 NB520_537; obtain ⟨hcz87_0, hcz87_1⟩ := bk2_ BK537.out; obtain ⟨hfz87_0, hfz87_1⟩ := bf2_ BK537.out))
  have n0_ : Aside0 (Kd.R Kd.string 9 ((w84.setCell ⟨gb537, 0, none⟩ (.int .i64 t534)).setCell ⟨gb537, 1, none⟩ (.string t535)) w.heap.size (fun _ => True) (.slice Ao30 t503.length co30) t503) := ⟨tq_74⟩
  have n1_ : Aside0 (Kd.R k42 42 ((w84.setCell ⟨gb537, 0, none⟩ (.int .i64 t534)).setCell ⟨gb537, 1, none⟩ (.string t535)) w.heap.size (fun k_ => some k_ ≠ (.slice Ao35 t513.length co35 : Value).ownBlock) (.slice Ao12 t496.length co12) t496) := ⟨tq_73⟩
  have n2_ : Aside0 (Kd.R k47 47 ((w84.setCell ⟨gb537, 0, none⟩ (.int .i64 t534)).setCell ⟨gb537, 1, none⟩ (.string t535)) w.heap.size (fun k_ => some k_ ≠ (.slice Ao36 t516.length co36 : Value).ownBlock ∧ k_ ≠ gb537) (.slice (some ad532) t499.length co13) t499) := ⟨tq_65⟩
  have n3_ : Aside0 (Kd.R k42 42 ((w84.setCell ⟨gb537, 0, none⟩ (.int .i64 t534)).setCell ⟨gb537, 1, none⟩ (.string t535)) w.heap.size (fun k_ => some k_ ≠ (.slice Ao12 t496.length co12 : Value).ownBlock) (.slice Ao35 t513.length co35) t513) := ⟨tq_72⟩
  have n4_ : Aside0 (Kd.R k47 47 ((w84.setCell ⟨gb537, 0, none⟩ (.int .i64 t534)).setCell ⟨gb537, 1, none⟩ (.string t535)) w.heap.size (fun k_ => some k_ ≠ (.slice (some ad532) t499.length co13 : Value).ownBlock ∧ k_ ≠ gb537) (.slice Ao36 t516.length co36) t516) := ⟨tq_64⟩
  have n5_ : Aside0 (((w84.setCell ⟨gb537, 0, none⟩ (.int .i64 t534)).setCell ⟨gb537, 1, none⟩ (.string t535)).heap[gb502]? = some (.cells #[.int .i64 t492, .int .i64 t493, .int .i64 t494, .string t495, .slice Ao12 t496.length co12, .slice (some ad532) t499.length co13] 27 (0, 0))) := ⟨tb_⟩
  have n6_ : Aside0 (((w84.setCell ⟨gb537, 0, none⟩ (.int .i64 t534)).setCell ⟨gb537, 1, none⟩ (.string t535)).heap[gb520]? = some (.cells #[.int .i64 t509, .int .i64 t510, .int .i64 t511, .string t512, .slice Ao35 t513.length co35, .slice Ao36 t516.length co36] 27 (0, 0))) := ⟨tb_⟩
  have n7_ : Aside0 (((w84.setCell ⟨gb537, 0, none⟩ (.int .i64 t534)).setCell ⟨gb537, 1, none⟩ (.string t535)).heap[gb537]? = some (.cells #[.int .i64 t534, .string t535] 47 (0, 0))) := ⟨tb_⟩
  have n8_ : Aside0 (Below w.heap.size w ((w84.setCell ⟨gb537, 0, none⟩ (.int .i64 t534)).setCell ⟨gb537, 1, none⟩ (.string t535))) := ⟨th_⟩
  (try clear HO_4)
  (try clear HO_503004)
  (try clear HO_503005)
  (try clear HO_521004)
  (try clear HO_521005)
  (try clear BK502)
  (try clear BK520)
  (try clear BK537)
  (try clear HB)
  generalize ((w84.setCell ⟨gb537, 0, none⟩ (.int .i64 t534)).setCell ⟨gb537, 1, none⟩ (.string t535)) = w88 at n0_ n1_ n2_ n3_ n4_ n5_ n6_ n7_ n8_ ⊢
  have HO_4 := n0_
  have HO_503004 := n1_
  have HO_503005 := n2_
  have HO_521004 := n3_
  have HO_521005 := n4_
  have BK502 := n5_
  have BK520 := n6_
  have BK537 := n7_
  have HB := n8_
  clear n0_ n1_ n2_ n3_ n4_ n5_ n6_ n7_ n8_
  have z_ := p_ (Kd.R_drew HO_4.out) <| p_ (Kd.R_drew HO_503004.out) <| p_ (Kd.R_drew HO_503005.out) <| p_ (Kd.R_drew HO_521004.out) <| p_ (Kd.R_drew HO_521005.out) <| dw3_ BK502 BK520 BK537 HB
  clear HO_4 HO_503004 HO_503005 HO_521004 HO_521005 BK502 BK520 BK537 HB
  obtain ⟨HO_4, HO_503004, HO_503005, HO_521004, HO_521005, BK502, BK520, BK537, HB⟩ := z_
  have p538 : 0 ≤ (x10_4 : Int) := of_decide_eq_true tq_5
  have q538 : x10_4 < (t499.length : Int) := of_decide_eq_true tq_5
  obtain ⟨ad538, e538, hx538_0, hx538_1⟩ := at_T47 (Kd.R_reads' HO_503005.out).2.2 x10_4 p538 q538
  obtain rfl : ad532 = ad538 := (by injection e538)
  replace p538 := eq_true p538
  replace q538 := eq_true q538
  refine start_ (n := 17) (S := fun w' => w'.cell? ⟨gb537, 0, none⟩ = some (.int .i64 t534) ∧ w'.cell? ⟨gb537, 1, none⟩ = some (.string t535) ∧ w'.cell? ⟨gb502, 0, none⟩ = some (.int .i64 t492) ∧ w'.cell? ⟨gb502, 1, none⟩ = some (.int .i64 t493) ∧ w'.cell? ⟨gb502, 2, none⟩ = some (.int .i64 t494) ∧ w'.cell? ⟨gb502, 3, none⟩ = some (.string t495) ∧ w'.cell? ⟨gb502, 4, none⟩ = some (.slice Ao12 t496.length co12) ∧ w'.cell? ⟨gb502, 5, none⟩ = some (.slice (some ad532) t499.length co13) ∧ w'.cell? (ad532.add ((x10_4).toNat * 2)) = some (.int .i64 ((rd_T47 t499 x10_4).f0)) ∧ w'.cell? ⟨(ad532.add ((x10_4).toNat * 2)).block, (ad532.add ((x10_4).toNat * 2)).off + 1, none⟩ = some (.string ((rd_T47 t499 x10_4).f1))) (ds := []) bq_32 (by kernel_rfl) rfl rfl (bc2_ BK537.out (bc6_ BK502.out ⟨hx538_0, hx538_1⟩)) (fun hHeld => ?_); refine with_tabW laws_FnInodes.tab18 laws_FnInodes.bits18 (fun HT_ HW_ => ?_)
  generalize w88.drew = w89 at HO_4 HO_503004 HO_503005 HO_521004 HO_521005 BK502 BK520 BK537 HB hx538_0 hx538_1 hHeld ⊢
  refine yr_ 0 84 bq_33 HT_ ?_
  refine yr_ 1 85 bq_80 HT_ ?_
  refine yr_ 2 86 bq_81 HT_ ?_
  refine yr_ 4 88 bq_89 HT_ ?_
  refine yr_ 6 90 bq_90 HT_ ?_
  refine tr_ 3 87 bq_91 HT_ HW_ hHeld ?_
  refine tr_ 5 89 bq_82 HT_ HW_ hHeld ?_
  refine yr_ 7 91 bq_83 HT_ ?_
  refine tr_ 8 92 bq_84 HT_ HW_ hHeld ?_
  refine yr_ 9 93 bq_85 HT_ ?_
  refine yr_ 10 94 bq_86 HT_ ?_
  refine yr_ 11 95 bq_87 HT_ ?_
  refine yr_ 12 96 bq_88 HT_ ?_
  refine tr_ 13 97 bq_34 HT_ HW_ hHeld ?_
  refine one_ (i := 14) (N := some 98) bq_35 rfl rfl (one_of HT_.out (by kernel_rfl)) (by decide) (fun K hK => ?_)
  refine goes_ Tryd.func25 (by kernel_rfl) rfl #[.string t535] (by rfl) rfl rfl tq_0 ?_
  with_reducible refine (impl_NameOk.calls kj40 t535 true _ A78.out).mono ?_
  rintro e w' ⟨rfl, ⟨nd, rfl⟩⟩
  refine ⟨_, rfl, ?_⟩
  refine hK.out _ _ (bc2_ BK537.out (bc6_ BK502.out ⟨hHeld.2.2.2.2.2.2.2.2.1, hHeld.2.2.2.2.2.2.2.2.2⟩)) (fun hHeld => ?_)
  clear hK K
  refine nm_ (some 98) ?_
  refine yr_ 15 99 bq_36 HT_ ?_
  refine yr_ 16 100 bq_37 HT_ ?_
  refine done_ (done_of HT_.out (by kernel_rfl)) ?_
  try go_wp2
  go_roundg kj40
  case measure => have := HJ2.out; have := HJ7.out; have := HK3.out; have := HK4.out; have := HJ40.out; omega
  case rel => exact ⟨(wrap64 (x10_4 + 1)), tq_13, H', ⟨(by have := HJ2.out; have := HJ7.out; have := HK3.out; have := HK4.out; have := HJ40.out; omega)⟩, ⟨(raR_ HO_4)⟩, ⟨(raR_ HO_503004)⟩, ⟨(by (with_reducible repeat (first | apply Kd.R_alloc | apply Kd.R_drewN | apply Kd.R_drew)); exact Kd.R_mono HO_503005.out (fun _ hk => hk.1))⟩, ⟨(raR_ HO_521004)⟩, ⟨(by (with_reducible repeat (first | apply Kd.R_alloc | apply Kd.R_drewN | apply Kd.R_drew)); exact Kd.R_mono HO_521005.out (fun _ hk => hk.1))⟩, ⟨(kb_ BK502)⟩, ⟨(kb_ BK520)⟩, ⟨th_⟩⟩
 case rest =>
 clear HC37
 try clear c1; try clear c2; try clear p2; try clear p5; try clear q5; try clear hx5; try clear c6; try clear p6; try clear c7; try clear c9; try clear c10; try clear c23; try clear c24; try clear c25; try clear p53; try clear q53; try clear hx53; try clear p64; try clear c66; try clear c79; try clear c90; try clear c95; try clear c96; try clear c100; try clear c105; try clear c106; try clear hcz101_0 hcz101_1 hcz101_2 hcz101_3 hcz101_4 hcz101_5; try clear hcz107_0 hcz107_1; try clear hcz91_0 hcz91_1 hcz91_2 hcz91_3 hcz91_4 hcz91_5; try clear hcz97_0 hcz97_1; try clear hfz101_0 hfz101_1 hfz101_2 hfz101_3 hfz101_4 hfz101_5; try clear hfz107_0 hfz107_1; try clear hfz91_0 hfz91_1 hfz91_2 hfz91_3 hfz91_4 hfz91_5; try clear hfz97_0 hfz97_1; try clear hx532_0; try clear hx532_1; try clear hx538_0; try clear hx538_1; try clear p532; try clear p538; try clear q532; try clear q538
 obtain ⟨kq, HA, HJ36, HO_4, HO_503004, HO_503005, HO_521004, HO_521005, BK502, BK520, HB⟩ := hcut
 cases kq with
 | zero => exact absurd HA.out (by simp [laws_FnInodes.j3])
 | succ kj36 =>
 have H := HA.out
 clear HA
 simp only [laws_FnInodes.j3] at H
 obtain ⟨c110, H⟩ := fc_ H
 have c110b0 := decide_eq_true c110
 clear c110
 obtain ⟨c111, H⟩ := fc_ H
 have c111b0 := decide_eq_true c111
 clear c111
 obtain ⟨t522, A112, H⟩ := bd_ H
 obtain ⟨⟨t523, t524, t525, t526⟩, A113, H⟩ := bd_ H
 try dsimp -simprocs only at H
 by_cases c114 : t526 = true
 rotate_left
 ·replace c114 := Bool.eq_false_iff.mpr c114
  subst c114
  rw [if_neg nf_] at H
  obtain rfl := Option.some.inj H
  obtain ⟨hcz137_0, hcz137_1, hcz137_2, hcz137_3, hcz137_4, hcz137_5⟩ := bk6_ BK502.out
  obtain ⟨hfz137_0, hfz137_1, hfz137_2, hfz137_3, hfz137_4, hfz137_5⟩ := bf6_ BK502.out
  have p521 : 0 ≤ (x7_3 : Int) := of_decide_eq_true tq_5
  have q521 : x7_3 < (t496.length : Int) := of_decide_eq_true tq_5
  obtain ⟨ad521, e521, hx521_0, hx521_1, hx521_2⟩ := at_T42 (Kd.R_reads' HO_503004.out).2.2 x7_3 p521 q521
  cases e521
  replace p521 := eq_true p521
  replace q521 := eq_true q521
  try go_wp2_with (first | ((with_reducible refine gate_callee (f := 22) rfl ?_); refine goesL_ (some 52) rfl rfl Tryd.func22 (by kernel_rfl) rfl #[.agg #[.int .i64 ((rd_T42 t496 x7_3).f0), .int .i64 ((rd_T42 t496 x7_3).f1), .string ((rd_T42 t496 x7_3).f2)]] rfl tq_0 ?_; (with_reducible refine (impl_RecWord.calls kj36 ((rd_T42 t496 x7_3).f0) ((rd_T42 t496 x7_3).f1) ((rd_T42 t496 x7_3).f2) t522 _ A112.out).mono ?_); rintro e w138 ⟨rfl, hb⟩; refine ⟨_, rfl, ?_⟩; have z_ := p_ (Kd.R_below (raR_ HO_4) hb) <| p_ (Kd.R_below (raR_ HO_503004) hb) <| p_ (Kd.R_below (raR_ HO_503005) hb) <| p_ (Kd.R_below (raR_ HO_521004) hb) <| p_ (Kd.R_below (raR_ HO_521005) hb) <| bw2_ (kb_ BK502) (kb_ BK520) th_ hb; clear HO_4 HO_503004 HO_503005 HO_521004 HO_521005 BK502 BK520 HB; obtain ⟨HO_4, HO_503004, HO_503005, HO_521004, HO_521005, BK502, BK520, HB⟩ := z_; (try clear hb)) | ((with_reducible refine gate_callee (f := 21) rfl ?_); refine goesL_ (some 53) rfl rfl Tryd.func21 (by kernel_rfl) rfl #[.string t522] rfl tq_0 ?_; (with_reducible refine (impl_ReadRec.calls kj36 t522 t523 t524 t525 false _ A113.out).mono ?_); rintro e w139 ⟨rfl, hb⟩; refine ⟨_, rfl, ?_⟩; have z_ := p_ (Kd.R_below (raR_ HO_4) hb) <| p_ (Kd.R_below (raR_ HO_503004) hb) <| p_ (Kd.R_below (raR_ HO_503005) hb) <| p_ (Kd.R_below (raR_ HO_521004) hb) <| p_ (Kd.R_below (raR_ HO_521005) hb) <| bw2_ (kb_ BK502) (kb_ BK520) th_ hb; clear HO_4 HO_503004 HO_503005 HO_521004 HO_521005 BK502 BK520 HB; obtain ⟨HO_4, HO_503004, HO_503005, HO_521004, HO_521005, BK502, BK520, HB⟩ := z_; (try clear hb)) | ((with_reducible refine gate_dst (N := 8) rfl ?_); (try (refine gate_guard (by rfl) ?_; dsimp only)); refine be_ 8 (cs := #[.int .i64 0, .int .i64 0, .string (⟨#[]⟩ : ByteArray)]) 42 ?_; intro gb527 hg w140 hbox hb; have z_ := p_ (Kd.R_below (raR_ HO_4) hb) <| p_ (Kd.R_below (Kd.R_elderB (raR_ HO_503004) gb527 (Nat.le_of_eq hg.symm)) hb) <| p_ (Kd.R_below (raR_ HO_503005) hb) <| p_ (Kd.R_below (Kd.R_elderB (raR_ HO_521004) gb527 (Nat.le_of_eq hg.symm)) hb) <| p_ (Kd.R_below (raR_ HO_521005) hb) <| bx2_ (kb_ BK502) (kb_ BK520) th_ hb hbox hg; clear HO_4 HO_503004 HO_503005 HO_521004 HO_521005 BK502 BK520 HB; obtain ⟨HO_4, HO_503004, HO_503005, HO_521004, HO_521005, BK502, BK520, HB, BK527, GW527, GE527, NB502_527, NB527_502, NB520_527, NB527_520⟩ := z_; clear hb hbox hg; obtain ⟨n527_502, n502_527, n527_520, n520_527⟩ := an4_ NB527_502 NB502_527 NB527_520 NB520_527; obtain ⟨hcz143_0, hcz143_1, hcz143_2⟩ := bk3_ BK527.out; obtain ⟨hfz143_0, hfz143_1, hfz143_2⟩ := bf3_ BK527.out))
  have n0_ : Aside0 (Kd.R Kd.string 9 (((w140.setCell ⟨gb527, 0, none⟩ (.int .i64 t523)).setCell ⟨gb527, 1, none⟩ (.int .i64 t524)).setCell ⟨gb527, 2, none⟩ (.string t525)) w.heap.size (fun _ => True) (.slice Ao30 t503.length co30) t503) := ⟨tq_90⟩
  have n1_ : Aside0 (Kd.R k42 42 (((w140.setCell ⟨gb527, 0, none⟩ (.int .i64 t523)).setCell ⟨gb527, 1, none⟩ (.int .i64 t524)).setCell ⟨gb527, 2, none⟩ (.string t525)) w.heap.size (fun k_ => some k_ ≠ (.slice Ao35 t513.length co35 : Value).ownBlock ∧ k_ ≠ gb527) (.slice (some ad521) t496.length co12) t496) := ⟨tq_81⟩
  have n2_ : Aside0 (Kd.R k47 47 (((w140.setCell ⟨gb527, 0, none⟩ (.int .i64 t523)).setCell ⟨gb527, 1, none⟩ (.int .i64 t524)).setCell ⟨gb527, 2, none⟩ (.string t525)) w.heap.size (fun k_ => some k_ ≠ (.slice Ao36 t516.length co36 : Value).ownBlock) (.slice Ao13 t499.length co13) t499) := ⟨tq_89⟩
  have n3_ : Aside0 (Kd.R k42 42 (((w140.setCell ⟨gb527, 0, none⟩ (.int .i64 t523)).setCell ⟨gb527, 1, none⟩ (.int .i64 t524)).setCell ⟨gb527, 2, none⟩ (.string t525)) w.heap.size (fun k_ => some k_ ≠ (.slice (some ad521) t496.length co12 : Value).ownBlock ∧ k_ ≠ gb527) (.slice Ao35 t513.length co35) t513) := ⟨tq_80⟩
  have n4_ : Aside0 (Kd.R k47 47 (((w140.setCell ⟨gb527, 0, none⟩ (.int .i64 t523)).setCell ⟨gb527, 1, none⟩ (.int .i64 t524)).setCell ⟨gb527, 2, none⟩ (.string t525)) w.heap.size (fun k_ => some k_ ≠ (.slice Ao13 t499.length co13 : Value).ownBlock) (.slice Ao36 t516.length co36) t516) := ⟨tq_88⟩
  have n5_ : Aside0 ((((w140.setCell ⟨gb527, 0, none⟩ (.int .i64 t523)).setCell ⟨gb527, 1, none⟩ (.int .i64 t524)).setCell ⟨gb527, 2, none⟩ (.string t525)).heap[gb502]? = some (.cells #[.int .i64 t492, .int .i64 t493, .int .i64 t494, .string t495, .slice (some ad521) t496.length co12, .slice Ao13 t499.length co13] 27 (0, 0))) := ⟨tb_⟩
  have n6_ : Aside0 ((((w140.setCell ⟨gb527, 0, none⟩ (.int .i64 t523)).setCell ⟨gb527, 1, none⟩ (.int .i64 t524)).setCell ⟨gb527, 2, none⟩ (.string t525)).heap[gb520]? = some (.cells #[.int .i64 t509, .int .i64 t510, .int .i64 t511, .string t512, .slice Ao35 t513.length co35, .slice Ao36 t516.length co36] 27 (0, 0))) := ⟨tb_⟩
  have n7_ : Aside0 ((((w140.setCell ⟨gb527, 0, none⟩ (.int .i64 t523)).setCell ⟨gb527, 1, none⟩ (.int .i64 t524)).setCell ⟨gb527, 2, none⟩ (.string t525)).heap[gb527]? = some (.cells #[.int .i64 t523, .int .i64 t524, .string t525] 42 (0, 0))) := ⟨tb_⟩
  have n8_ : Aside0 (Below w.heap.size w (((w140.setCell ⟨gb527, 0, none⟩ (.int .i64 t523)).setCell ⟨gb527, 1, none⟩ (.int .i64 t524)).setCell ⟨gb527, 2, none⟩ (.string t525))) := ⟨th_⟩
  (try clear HO_4)
  (try clear HO_503004)
  (try clear HO_503005)
  (try clear HO_521004)
  (try clear HO_521005)
  (try clear BK502)
  (try clear BK520)
  (try clear BK527)
  (try clear HB)
  generalize (((w140.setCell ⟨gb527, 0, none⟩ (.int .i64 t523)).setCell ⟨gb527, 1, none⟩ (.int .i64 t524)).setCell ⟨gb527, 2, none⟩ (.string t525)) = w144 at n0_ n1_ n2_ n3_ n4_ n5_ n6_ n7_ n8_ ⊢
  have HO_4 := n0_
  have HO_503004 := n1_
  have HO_503005 := n2_
  have HO_521004 := n3_
  have HO_521005 := n4_
  have BK502 := n5_
  have BK520 := n6_
  have BK527 := n7_
  have HB := n8_
  clear n0_ n1_ n2_ n3_ n4_ n5_ n6_ n7_ n8_
  have z_ := p_ (Kd.R_drew HO_4.out) <| p_ (Kd.R_drew HO_503004.out) <| p_ (Kd.R_drew HO_503005.out) <| p_ (Kd.R_drew HO_521004.out) <| p_ (Kd.R_drew HO_521005.out) <| dw3_ BK502 BK520 BK527 HB
  clear HO_4 HO_503004 HO_503005 HO_521004 HO_521005 BK502 BK520 BK527 HB
  obtain ⟨HO_4, HO_503004, HO_503005, HO_521004, HO_521005, BK502, BK520, BK527, HB⟩ := z_
  refine start_ (n := 11) (S := fun w' => True) (ds := []) bq_27 (by kernel_rfl) rfl rfl trivial (fun hHeld => ?_); refine with_tabW laws_FnInodes.tab12 laws_FnInodes.bits12 (fun HT_ HW_ => ?_)
  generalize w144.drew = w145 at HO_4 HO_503004 HO_503005 HO_521004 HO_521005 BK502 BK520 BK527 HB hHeld ⊢
  refine yr_ 0 56 bq_28 HT_ ?_
  refine yr_ 1 57 bq_92 HT_ ?_
  refine yr_ 2 58 bq_93 HT_ ?_
  refine ur_ 3 59 #[true, true, true, true, false, false, false, false, false, false, false] HT_ ?_
  refine ur_ 4 60 #[true, true, true, true, true, false, false, false, false, false, false] HT_ ?_
  refine ur_ 5 61 #[true, true, true, true, true, true, false, false, false, false, false] HT_ ?_
  refine ur_ 6 62 bq_94 HT_ ?_
  refine ur_ 7 63 bq_95 HT_ ?_
  refine ur_ 8 64 bq_29 HT_ ?_
  refine ur_ 9 65 bq_30 HT_ ?_
  refine yr_ 10 66 bq_31 HT_ ?_
  refine done_ (done_of HT_.out (by kernel_rfl)) ?_
  try go_wp2
  go_ret
  exact ⟨tq_3, th_⟩
 subst c114
 rw [if_pos rfl] at H
 by_cases c115 : (!(t523 == ((rd_T42 t496 x7_3).f0)) || (!(t524 == ((rd_T42 t496 x7_3).f1)) || (!(t525.toList == (((rd_T42 t496 x7_3).f2).toList))))) = true
 ·rw [if_pos c115] at H
  have c115b0 : (!(t523 == ((rd_T42 t496 x7_3).f0)) || (!(t524 == ((rd_T42 t496 x7_3).f1)) || (!(t525.toList == (((rd_T42 t496 x7_3).f2).toList))))) = true := c115
  clear c115
  obtain rfl := Option.some.inj H
  obtain ⟨hcz117_0, hcz117_1, hcz117_2, hcz117_3, hcz117_4, hcz117_5⟩ := bk6_ BK502.out
  obtain ⟨hfz117_0, hfz117_1, hfz117_2, hfz117_3, hfz117_4, hfz117_5⟩ := bf6_ BK502.out
  have p521 : 0 ≤ (x7_3 : Int) := of_decide_eq_true tq_5
  have q521 : x7_3 < (t496.length : Int) := of_decide_eq_true tq_5
  obtain ⟨ad521, e521, hx521_0, hx521_1, hx521_2⟩ := at_T42 (Kd.R_reads' HO_503004.out).2.2 x7_3 p521 q521
  cases e521
  replace p521 := eq_true p521
  replace q521 := eq_true q521
  try go_wp2_with (first | ((with_reducible refine gate_callee (f := 22) rfl ?_); refine goesL_ (some 52) rfl rfl Tryd.func22 (by kernel_rfl) rfl #[.agg #[.int .i64 ((rd_T42 t496 x7_3).f0), .int .i64 ((rd_T42 t496 x7_3).f1), .string ((rd_T42 t496 x7_3).f2)]] rfl tq_0 ?_; (with_reducible refine (impl_RecWord.calls kj36 ((rd_T42 t496 x7_3).f0) ((rd_T42 t496 x7_3).f1) ((rd_T42 t496 x7_3).f2) t522 _ A112.out).mono ?_); rintro e w118 ⟨rfl, hb⟩; refine ⟨_, rfl, ?_⟩; have z_ := p_ (Kd.R_below (raR_ HO_4) hb) <| p_ (Kd.R_below (raR_ HO_503004) hb) <| p_ (Kd.R_below (raR_ HO_503005) hb) <| p_ (Kd.R_below (raR_ HO_521004) hb) <| p_ (Kd.R_below (raR_ HO_521005) hb) <| bw2_ (kb_ BK502) (kb_ BK520) th_ hb; clear HO_4 HO_503004 HO_503005 HO_521004 HO_521005 BK502 BK520 HB; obtain ⟨HO_4, HO_503004, HO_503005, HO_521004, HO_521005, BK502, BK520, HB⟩ := z_; (try clear hb)) | ((with_reducible refine gate_callee (f := 21) rfl ?_); refine goesL_ (some 53) rfl rfl Tryd.func21 (by kernel_rfl) rfl #[.string t522] rfl tq_0 ?_; (with_reducible refine (impl_ReadRec.calls kj36 t522 t523 t524 t525 true _ A113.out).mono ?_); rintro e w119 ⟨rfl, hb⟩; refine ⟨_, rfl, ?_⟩; have z_ := p_ (Kd.R_below (raR_ HO_4) hb) <| p_ (Kd.R_below (raR_ HO_503004) hb) <| p_ (Kd.R_below (raR_ HO_503005) hb) <| p_ (Kd.R_below (raR_ HO_521004) hb) <| p_ (Kd.R_below (raR_ HO_521005) hb) <| bw2_ (kb_ BK502) (kb_ BK520) th_ hb; clear HO_4 HO_503004 HO_503005 HO_521004 HO_521005 BK502 BK520 HB; obtain ⟨HO_4, HO_503004, HO_503005, HO_521004, HO_521005, BK502, BK520, HB⟩ := z_; (try clear hb)) | ((with_reducible refine gate_dst (N := 8) rfl ?_); (try (refine gate_guard (by rfl) ?_; dsimp only)); refine be_ 8 (cs := #[.int .i64 0, .int .i64 0, .string (⟨#[]⟩ : ByteArray)]) 42 ?_; intro gb527 hg w120 hbox hb; have z_ := p_ (Kd.R_below (raR_ HO_4) hb) <| p_ (Kd.R_below (Kd.R_elderB (raR_ HO_503004) gb527 (Nat.le_of_eq hg.symm)) hb) <| p_ (Kd.R_below (raR_ HO_503005) hb) <| p_ (Kd.R_below (Kd.R_elderB (raR_ HO_521004) gb527 (Nat.le_of_eq hg.symm)) hb) <| p_ (Kd.R_below (raR_ HO_521005) hb) <| bx2_ (kb_ BK502) (kb_ BK520) th_ hb hbox hg; clear HO_4 HO_503004 HO_503005 HO_521004 HO_521005 BK502 BK520 HB; obtain ⟨HO_4, HO_503004, HO_503005, HO_521004, HO_521005, BK502, BK520, HB, BK527, GW527, GE527, NB502_527, NB527_502, NB520_527, NB527_520⟩ := z_; clear hb hbox hg; obtain ⟨n527_502, n502_527, n527_520, n520_527⟩ := an4_ NB527_502 NB502_527 NB527_520 NB520_527; obtain ⟨hcz123_0, hcz123_1, hcz123_2⟩ := bk3_ BK527.out; obtain ⟨hfz123_0, hfz123_1, hfz123_2⟩ := bf3_ BK527.out))
  have n0_ : Aside0 (Kd.R Kd.string 9 (((w120.setCell ⟨gb527, 0, none⟩ (.int .i64 t523)).setCell ⟨gb527, 1, none⟩ (.int .i64 t524)).setCell ⟨gb527, 2, none⟩ (.string t525)) w.heap.size (fun _ => True) (.slice Ao30 t503.length co30) t503) := ⟨tq_90⟩
  have n1_ : Aside0 (Kd.R k42 42 (((w120.setCell ⟨gb527, 0, none⟩ (.int .i64 t523)).setCell ⟨gb527, 1, none⟩ (.int .i64 t524)).setCell ⟨gb527, 2, none⟩ (.string t525)) w.heap.size (fun k_ => some k_ ≠ (.slice Ao35 t513.length co35 : Value).ownBlock ∧ k_ ≠ gb527) (.slice (some ad521) t496.length co12) t496) := ⟨tq_81⟩
  have n2_ : Aside0 (Kd.R k47 47 (((w120.setCell ⟨gb527, 0, none⟩ (.int .i64 t523)).setCell ⟨gb527, 1, none⟩ (.int .i64 t524)).setCell ⟨gb527, 2, none⟩ (.string t525)) w.heap.size (fun k_ => some k_ ≠ (.slice Ao36 t516.length co36 : Value).ownBlock) (.slice Ao13 t499.length co13) t499) := ⟨tq_89⟩
  have n3_ : Aside0 (Kd.R k42 42 (((w120.setCell ⟨gb527, 0, none⟩ (.int .i64 t523)).setCell ⟨gb527, 1, none⟩ (.int .i64 t524)).setCell ⟨gb527, 2, none⟩ (.string t525)) w.heap.size (fun k_ => some k_ ≠ (.slice (some ad521) t496.length co12 : Value).ownBlock ∧ k_ ≠ gb527) (.slice Ao35 t513.length co35) t513) := ⟨tq_80⟩
  have n4_ : Aside0 (Kd.R k47 47 (((w120.setCell ⟨gb527, 0, none⟩ (.int .i64 t523)).setCell ⟨gb527, 1, none⟩ (.int .i64 t524)).setCell ⟨gb527, 2, none⟩ (.string t525)) w.heap.size (fun k_ => some k_ ≠ (.slice Ao13 t499.length co13 : Value).ownBlock) (.slice Ao36 t516.length co36) t516) := ⟨tq_88⟩
  have n5_ : Aside0 ((((w120.setCell ⟨gb527, 0, none⟩ (.int .i64 t523)).setCell ⟨gb527, 1, none⟩ (.int .i64 t524)).setCell ⟨gb527, 2, none⟩ (.string t525)).heap[gb502]? = some (.cells #[.int .i64 t492, .int .i64 t493, .int .i64 t494, .string t495, .slice (some ad521) t496.length co12, .slice Ao13 t499.length co13] 27 (0, 0))) := ⟨tb_⟩
  have n6_ : Aside0 ((((w120.setCell ⟨gb527, 0, none⟩ (.int .i64 t523)).setCell ⟨gb527, 1, none⟩ (.int .i64 t524)).setCell ⟨gb527, 2, none⟩ (.string t525)).heap[gb520]? = some (.cells #[.int .i64 t509, .int .i64 t510, .int .i64 t511, .string t512, .slice Ao35 t513.length co35, .slice Ao36 t516.length co36] 27 (0, 0))) := ⟨tb_⟩
  have n7_ : Aside0 ((((w120.setCell ⟨gb527, 0, none⟩ (.int .i64 t523)).setCell ⟨gb527, 1, none⟩ (.int .i64 t524)).setCell ⟨gb527, 2, none⟩ (.string t525)).heap[gb527]? = some (.cells #[.int .i64 t523, .int .i64 t524, .string t525] 42 (0, 0))) := ⟨tb_⟩
  have n8_ : Aside0 (Below w.heap.size w (((w120.setCell ⟨gb527, 0, none⟩ (.int .i64 t523)).setCell ⟨gb527, 1, none⟩ (.int .i64 t524)).setCell ⟨gb527, 2, none⟩ (.string t525))) := ⟨th_⟩
  (try clear HO_4)
  (try clear HO_503004)
  (try clear HO_503005)
  (try clear HO_521004)
  (try clear HO_521005)
  (try clear BK502)
  (try clear BK520)
  (try clear BK527)
  (try clear HB)
  generalize (((w120.setCell ⟨gb527, 0, none⟩ (.int .i64 t523)).setCell ⟨gb527, 1, none⟩ (.int .i64 t524)).setCell ⟨gb527, 2, none⟩ (.string t525)) = w124 at n0_ n1_ n2_ n3_ n4_ n5_ n6_ n7_ n8_ ⊢
  have HO_4 := n0_
  have HO_503004 := n1_
  have HO_503005 := n2_
  have HO_521004 := n3_
  have HO_521005 := n4_
  have BK502 := n5_
  have BK520 := n6_
  have BK527 := n7_
  have HB := n8_
  clear n0_ n1_ n2_ n3_ n4_ n5_ n6_ n7_ n8_
  have z_ := p_ (Kd.R_drew HO_4.out) <| p_ (Kd.R_drew HO_503004.out) <| p_ (Kd.R_drew HO_503005.out) <| p_ (Kd.R_drew HO_521004.out) <| p_ (Kd.R_drew HO_521005.out) <| dw3_ BK502 BK520 BK527 HB
  clear HO_4 HO_503004 HO_503005 HO_521004 HO_521005 BK502 BK520 BK527 HB
  obtain ⟨HO_4, HO_503004, HO_503005, HO_521004, HO_521005, BK502, BK520, BK527, HB⟩ := z_
  have p528 : 0 ≤ (x7_3 : Int) := of_decide_eq_true tq_5
  have q528 : x7_3 < (t496.length : Int) := of_decide_eq_true tq_5
  obtain ⟨ad528, e528, hx528_0, hx528_1, hx528_2⟩ := at_T42 (Kd.R_reads' HO_503004.out).2.2 x7_3 p528 q528
  obtain rfl : ad521 = ad528 := (by injection e528)
  replace p528 := eq_true p528
  replace q528 := eq_true q528
  refine start_ (n := 11) (S := fun w' => w'.cell? ⟨gb527, 0, none⟩ = some (.int .i64 t523) ∧ w'.cell? ⟨gb527, 1, none⟩ = some (.int .i64 t524) ∧ w'.cell? ⟨gb527, 2, none⟩ = some (.string t525) ∧ w'.cell? ⟨gb502, 0, none⟩ = some (.int .i64 t492) ∧ w'.cell? ⟨gb502, 1, none⟩ = some (.int .i64 t493) ∧ w'.cell? ⟨gb502, 2, none⟩ = some (.int .i64 t494) ∧ w'.cell? ⟨gb502, 3, none⟩ = some (.string t495) ∧ w'.cell? ⟨gb502, 4, none⟩ = some (.slice (some ad521) t496.length co12) ∧ w'.cell? ⟨gb502, 5, none⟩ = some (.slice Ao13 t499.length co13) ∧ w'.cell? (ad521.add ((x7_3).toNat * 3)) = some (.int .i64 ((rd_T42 t496 x7_3).f0)) ∧ w'.cell? ⟨(ad521.add ((x7_3).toNat * 3)).block, (ad521.add ((x7_3).toNat * 3)).off + 1, none⟩ = some (.int .i64 ((rd_T42 t496 x7_3).f1)) ∧ w'.cell? ⟨(ad521.add ((x7_3).toNat * 3)).block, (ad521.add ((x7_3).toNat * 3)).off + 2, none⟩ = some (.string ((rd_T42 t496 x7_3).f2))) (ds := []) bq_27 (by kernel_rfl) rfl rfl (bc3_ BK527.out (bc6_ BK502.out ⟨hx528_0, hx528_1, hx528_2⟩)) (fun hHeld => ?_); refine with_tabW laws_FnInodes.tab12 laws_FnInodes.bits12 (fun HT_ HW_ => ?_)
  generalize w124.drew = w125 at HO_4 HO_503004 HO_503005 HO_521004 HO_521005 BK502 BK520 BK527 HB hx528_0 hx528_1 hx528_2 hHeld ⊢
  refine yr_ 0 56 bq_28 HT_ ?_
  refine yr_ 1 57 bq_92 HT_ ?_
  refine yr_ 2 58 bq_93 HT_ ?_
  refine yr_ 4 60 bq_160 HT_ ?_
  refine yr_ 6 62 bq_161 HT_ ?_
  refine tr_ 3 59 bq_162 HT_ HW_ hHeld ?_
  refine tr_ 5 61 bq_94 HT_ HW_ hHeld ?_
  refine yr_ 7 63 bq_95 HT_ ?_
  refine tr_ 8 64 bq_29 HT_ HW_ hHeld ?_
  refine yr_ 9 65 bq_30 HT_ ?_
  refine yr_ 10 66 bq_31 HT_ ?_
  refine done_ (done_of HT_.out (by kernel_rfl)) ?_
  try go_wp2
  go_ret
  exact ⟨tq_3, th_⟩
 rw [if_neg c115] at H
 have c115b0 : (!(t523 == ((rd_T42 t496 x7_3).f0)) || (!(t524 == ((rd_T42 t496 x7_3).f1)) || (!(t525.toList == (((rd_T42 t496 x7_3).f2).toList))))) = false := by simpa using c115
 clear c115
 have H' := Aside0.mk H
 clear H
 obtain ⟨hcz127_0, hcz127_1, hcz127_2, hcz127_3, hcz127_4, hcz127_5⟩ := bk6_ BK502.out
 obtain ⟨hfz127_0, hfz127_1, hfz127_2, hfz127_3, hfz127_4, hfz127_5⟩ := bf6_ BK502.out
 have p521 : 0 ≤ (x7_3 : Int) := of_decide_eq_true tq_5
 have q521 : x7_3 < (t496.length : Int) := of_decide_eq_true tq_5
 obtain ⟨ad521, e521, hx521_0, hx521_1, hx521_2⟩ := at_T42 (Kd.R_reads' HO_503004.out).2.2 x7_3 p521 q521
 cases e521
 replace p521 := eq_true p521
 replace q521 := eq_true q521
 try go_wp2_with (first | ((with_reducible refine gate_callee (f := 22) rfl ?_); refine goesL_ (some 52) rfl rfl Tryd.func22 (by kernel_rfl) rfl #[.agg #[.int .i64 ((rd_T42 t496 x7_3).f0), .int .i64 ((rd_T42 t496 x7_3).f1), .string ((rd_T42 t496 x7_3).f2)]] rfl tq_0 ?_; (with_reducible refine (impl_RecWord.calls kj36 ((rd_T42 t496 x7_3).f0) ((rd_T42 t496 x7_3).f1) ((rd_T42 t496 x7_3).f2) t522 _ A112.out).mono ?_); rintro e w128 ⟨rfl, hb⟩; refine ⟨_, rfl, ?_⟩; have z_ := p_ (Kd.R_below (raR_ HO_4) hb) <| p_ (Kd.R_below (raR_ HO_503004) hb) <| p_ (Kd.R_below (raR_ HO_503005) hb) <| p_ (Kd.R_below (raR_ HO_521004) hb) <| p_ (Kd.R_below (raR_ HO_521005) hb) <| bw2_ (kb_ BK502) (kb_ BK520) th_ hb; clear HO_4 HO_503004 HO_503005 HO_521004 HO_521005 BK502 BK520 HB; obtain ⟨HO_4, HO_503004, HO_503005, HO_521004, HO_521005, BK502, BK520, HB⟩ := z_; (try clear hb)) | ((with_reducible refine gate_callee (f := 21) rfl ?_); refine goesL_ (some 53) rfl rfl Tryd.func21 (by kernel_rfl) rfl #[.string t522] rfl tq_0 ?_; (with_reducible refine (impl_ReadRec.calls kj36 t522 t523 t524 t525 true _ A113.out).mono ?_); rintro e w129 ⟨rfl, hb⟩; refine ⟨_, rfl, ?_⟩; have z_ := p_ (Kd.R_below (raR_ HO_4) hb) <| p_ (Kd.R_below (raR_ HO_503004) hb) <| p_ (Kd.R_below (raR_ HO_503005) hb) <| p_ (Kd.R_below (raR_ HO_521004) hb) <| p_ (Kd.R_below (raR_ HO_521005) hb) <| bw2_ (kb_ BK502) (kb_ BK520) th_ hb; clear HO_4 HO_503004 HO_503005 HO_521004 HO_521005 BK502 BK520 HB; obtain ⟨HO_4, HO_503004, HO_503005, HO_521004, HO_521005, BK502, BK520, HB⟩ := z_; (try clear hb)) | ((with_reducible refine gate_dst (N := 8) rfl ?_); (try (refine gate_guard (by rfl) ?_; dsimp only)); refine be_ 8 (cs := #[.int .i64 0, .int .i64 0, .string (⟨#[]⟩ : ByteArray)]) 42 ?_; intro gb527 hg w130 hbox hb; have z_ := p_ (Kd.R_below (raR_ HO_4) hb) <| p_ (Kd.R_below (Kd.R_elderB (raR_ HO_503004) gb527 (Nat.le_of_eq hg.symm)) hb) <| p_ (Kd.R_below (raR_ HO_503005) hb) <| p_ (Kd.R_below (Kd.R_elderB (raR_ HO_521004) gb527 (Nat.le_of_eq hg.symm)) hb) <| p_ (Kd.R_below (raR_ HO_521005) hb) <| bx2_ (kb_ BK502) (kb_ BK520) th_ hb hbox hg; clear HO_4 HO_503004 HO_503005 HO_521004 HO_521005 BK502 BK520 HB; obtain ⟨HO_4, HO_503004, HO_503005, HO_521004, HO_521005, BK502, BK520, HB, BK527, GW527, GE527, NB502_527, NB527_502, NB520_527, NB527_520⟩ := z_; clear hb hbox hg; obtain ⟨n527_502, n502_527, n527_520, n520_527⟩ := an4_ NB527_502 NB502_527 NB527_520 NB520_527; obtain ⟨hcz133_0, hcz133_1, hcz133_2⟩ := bk3_ BK527.out; obtain ⟨hfz133_0, hfz133_1, hfz133_2⟩ := bf3_ BK527.out))
 have n0_ : Aside0 (Kd.R Kd.string 9 (((w130.setCell ⟨gb527, 0, none⟩ (.int .i64 t523)).setCell ⟨gb527, 1, none⟩ (.int .i64 t524)).setCell ⟨gb527, 2, none⟩ (.string t525)) w.heap.size (fun _ => True) (.slice Ao30 t503.length co30) t503) := ⟨tq_90⟩
 have n1_ : Aside0 (Kd.R k42 42 (((w130.setCell ⟨gb527, 0, none⟩ (.int .i64 t523)).setCell ⟨gb527, 1, none⟩ (.int .i64 t524)).setCell ⟨gb527, 2, none⟩ (.string t525)) w.heap.size (fun k_ => some k_ ≠ (.slice Ao35 t513.length co35 : Value).ownBlock ∧ k_ ≠ gb527) (.slice (some ad521) t496.length co12) t496) := ⟨tq_81⟩
 have n2_ : Aside0 (Kd.R k47 47 (((w130.setCell ⟨gb527, 0, none⟩ (.int .i64 t523)).setCell ⟨gb527, 1, none⟩ (.int .i64 t524)).setCell ⟨gb527, 2, none⟩ (.string t525)) w.heap.size (fun k_ => some k_ ≠ (.slice Ao36 t516.length co36 : Value).ownBlock) (.slice Ao13 t499.length co13) t499) := ⟨tq_89⟩
 have n3_ : Aside0 (Kd.R k42 42 (((w130.setCell ⟨gb527, 0, none⟩ (.int .i64 t523)).setCell ⟨gb527, 1, none⟩ (.int .i64 t524)).setCell ⟨gb527, 2, none⟩ (.string t525)) w.heap.size (fun k_ => some k_ ≠ (.slice (some ad521) t496.length co12 : Value).ownBlock ∧ k_ ≠ gb527) (.slice Ao35 t513.length co35) t513) := ⟨tq_80⟩
 have n4_ : Aside0 (Kd.R k47 47 (((w130.setCell ⟨gb527, 0, none⟩ (.int .i64 t523)).setCell ⟨gb527, 1, none⟩ (.int .i64 t524)).setCell ⟨gb527, 2, none⟩ (.string t525)) w.heap.size (fun k_ => some k_ ≠ (.slice Ao13 t499.length co13 : Value).ownBlock) (.slice Ao36 t516.length co36) t516) := ⟨tq_88⟩
 have n5_ : Aside0 ((((w130.setCell ⟨gb527, 0, none⟩ (.int .i64 t523)).setCell ⟨gb527, 1, none⟩ (.int .i64 t524)).setCell ⟨gb527, 2, none⟩ (.string t525)).heap[gb502]? = some (.cells #[.int .i64 t492, .int .i64 t493, .int .i64 t494, .string t495, .slice (some ad521) t496.length co12, .slice Ao13 t499.length co13] 27 (0, 0))) := ⟨tb_⟩
 have n6_ : Aside0 ((((w130.setCell ⟨gb527, 0, none⟩ (.int .i64 t523)).setCell ⟨gb527, 1, none⟩ (.int .i64 t524)).setCell ⟨gb527, 2, none⟩ (.string t525)).heap[gb520]? = some (.cells #[.int .i64 t509, .int .i64 t510, .int .i64 t511, .string t512, .slice Ao35 t513.length co35, .slice Ao36 t516.length co36] 27 (0, 0))) := ⟨tb_⟩
 have n7_ : Aside0 ((((w130.setCell ⟨gb527, 0, none⟩ (.int .i64 t523)).setCell ⟨gb527, 1, none⟩ (.int .i64 t524)).setCell ⟨gb527, 2, none⟩ (.string t525)).heap[gb527]? = some (.cells #[.int .i64 t523, .int .i64 t524, .string t525] 42 (0, 0))) := ⟨tb_⟩
 have n8_ : Aside0 (Below w.heap.size w (((w130.setCell ⟨gb527, 0, none⟩ (.int .i64 t523)).setCell ⟨gb527, 1, none⟩ (.int .i64 t524)).setCell ⟨gb527, 2, none⟩ (.string t525))) := ⟨th_⟩
 (try clear HO_4)
 (try clear HO_503004)
 (try clear HO_503005)
 (try clear HO_521004)
 (try clear HO_521005)
 (try clear BK502)
 (try clear BK520)
 (try clear BK527)
 (try clear HB)
 generalize (((w130.setCell ⟨gb527, 0, none⟩ (.int .i64 t523)).setCell ⟨gb527, 1, none⟩ (.int .i64 t524)).setCell ⟨gb527, 2, none⟩ (.string t525)) = w134 at n0_ n1_ n2_ n3_ n4_ n5_ n6_ n7_ n8_ ⊢
 have HO_4 := n0_
 have HO_503004 := n1_
 have HO_503005 := n2_
 have HO_521004 := n3_
 have HO_521005 := n4_
 have BK502 := n5_
 have BK520 := n6_
 have BK527 := n7_
 have HB := n8_
 clear n0_ n1_ n2_ n3_ n4_ n5_ n6_ n7_ n8_
 have z_ := p_ (Kd.R_drew HO_4.out) <| p_ (Kd.R_drew HO_503004.out) <| p_ (Kd.R_drew HO_503005.out) <| p_ (Kd.R_drew HO_521004.out) <| p_ (Kd.R_drew HO_521005.out) <| dw3_ BK502 BK520 BK527 HB
 clear HO_4 HO_503004 HO_503005 HO_521004 HO_521005 BK502 BK520 BK527 HB
 obtain ⟨HO_4, HO_503004, HO_503005, HO_521004, HO_521005, BK502, BK520, BK527, HB⟩ := z_
 have p528 : 0 ≤ (x7_3 : Int) := of_decide_eq_true tq_5
 have q528 : x7_3 < (t496.length : Int) := of_decide_eq_true tq_5
 obtain ⟨ad528, e528, hx528_0, hx528_1, hx528_2⟩ := at_T42 (Kd.R_reads' HO_503004.out).2.2 x7_3 p528 q528
 obtain rfl : ad521 = ad528 := (by injection e528)
 replace p528 := eq_true p528
 replace q528 := eq_true q528
 refine start_ (n := 11) (S := fun w' => w'.cell? ⟨gb527, 0, none⟩ = some (.int .i64 t523) ∧ w'.cell? ⟨gb527, 1, none⟩ = some (.int .i64 t524) ∧ w'.cell? ⟨gb527, 2, none⟩ = some (.string t525) ∧ w'.cell? ⟨gb502, 0, none⟩ = some (.int .i64 t492) ∧ w'.cell? ⟨gb502, 1, none⟩ = some (.int .i64 t493) ∧ w'.cell? ⟨gb502, 2, none⟩ = some (.int .i64 t494) ∧ w'.cell? ⟨gb502, 3, none⟩ = some (.string t495) ∧ w'.cell? ⟨gb502, 4, none⟩ = some (.slice (some ad521) t496.length co12) ∧ w'.cell? ⟨gb502, 5, none⟩ = some (.slice Ao13 t499.length co13) ∧ w'.cell? (ad521.add ((x7_3).toNat * 3)) = some (.int .i64 ((rd_T42 t496 x7_3).f0)) ∧ w'.cell? ⟨(ad521.add ((x7_3).toNat * 3)).block, (ad521.add ((x7_3).toNat * 3)).off + 1, none⟩ = some (.int .i64 ((rd_T42 t496 x7_3).f1)) ∧ w'.cell? ⟨(ad521.add ((x7_3).toNat * 3)).block, (ad521.add ((x7_3).toNat * 3)).off + 2, none⟩ = some (.string ((rd_T42 t496 x7_3).f2))) (ds := []) bq_27 (by kernel_rfl) rfl rfl (bc3_ BK527.out (bc6_ BK502.out ⟨hx528_0, hx528_1, hx528_2⟩)) (fun hHeld => ?_); refine with_tabW laws_FnInodes.tab12 laws_FnInodes.bits12 (fun HT_ HW_ => ?_)
 generalize w134.drew = w135 at HO_4 HO_503004 HO_503005 HO_521004 HO_521005 BK502 BK520 BK527 HB hx528_0 hx528_1 hx528_2 hHeld ⊢
 refine yr_ 0 56 bq_28 HT_ ?_
 refine yr_ 1 57 bq_92 HT_ ?_
 refine yr_ 2 58 bq_93 HT_ ?_
 refine yr_ 4 60 bq_160 HT_ ?_
 refine yr_ 6 62 bq_161 HT_ ?_
 refine tr_ 3 59 bq_162 HT_ HW_ hHeld ?_
 refine tr_ 5 61 bq_94 HT_ HW_ hHeld ?_
 refine yr_ 7 63 bq_95 HT_ ?_
 refine tr_ 8 64 bq_29 HT_ HW_ hHeld ?_
 refine yr_ 9 65 bq_30 HT_ ?_
 refine yr_ 10 66 bq_31 HT_ ?_
 refine done_ (done_of HT_.out (by kernel_rfl)) ?_
 try go_wp2
 go_roundg kj36
 case measure => have := HJ2.out; have := HJ7.out; have := HK3.out; have := HJ36.out; omega
 case rel => exact ⟨(wrap64 (x7_3 + 1)), tq_13, H', ⟨(by have := HJ2.out; have := HJ7.out; have := HK3.out; have := HJ36.out; omega)⟩, ⟨(raR_ HO_4)⟩, ⟨(by (with_reducible repeat (first | apply Kd.R_alloc | apply Kd.R_drewN | apply Kd.R_drew)); exact Kd.R_mono HO_503004.out (fun _ hk => hk.1))⟩, ⟨(raR_ HO_503005)⟩, ⟨(by (with_reducible repeat (first | apply Kd.R_alloc | apply Kd.R_drewN | apply Kd.R_drew)); exact Kd.R_mono HO_521004.out (fun _ hk => hk.1))⟩, ⟨(raR_ HO_521005)⟩, ⟨(kb_ BK502)⟩, ⟨(kb_ BK520)⟩, ⟨th_⟩⟩


end Go.Proofs.YtjfhddenmnjgbaaDoor.PFnInodes
