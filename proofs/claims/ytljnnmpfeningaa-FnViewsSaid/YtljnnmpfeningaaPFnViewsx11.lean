/- Contracts of Go functions, written by a program of ours over the print of the kit: each says that the call returns what the Lean function beside it computes. Conditions: as each theorem states them. -/
import Derived.Test.YtljnnmpfeningaaPkFnViews
import Derived.Test.YtljnnmpfeningaaPFnViewsx0
import Derived.Test.YtljnnmpfeningaaPFnViewsx4
import Derived.Test.YtljnnmpfeningaaPFnViewsx10
namespace Go.Proofs.Ytljnnmpfeningaa.PFnViews
open Go.RowKit Go.Proofs.YtljnnmpfeningaaW.PrintWords Go.Proofs.YtljnnmpfeningaaW.PrintLast Go.Proofs.YtljnnmpfeningaaW.PrintMore
attribute [local go_sem] max2_int min2_int max_two min_two max_three min_three max_four min_four   -- for this text's walks alone
set_option linter.unusedVariables false
set_option linter.unusedSimpArgs false

/-! ### spec_TextWith: function 147 -/
def spec_TextWith.j0 : Nat → ByteArray → Int → ByteArray → Bool → Option (ByteArray)
 | 0, _, _, _, _ => none
 | k + 1, x0, x1, x2, x25 => if x25 = true then (some x0) else (if (x0.size : Int) < x1 then ((spec_ZeroText.f k (wrap64 (x1 - (x0.size : Int)))).bind fun t399 => (if x0.size + t399.size ≤ 9223372036854775807 then ((some (x0 ++ t399 : ByteArray)).bind fun y400 => (if (wrap64 (x1 + (x2.size : Int))) > (y400.size : Int) then (if 0 ≤ x1 then (if x1 ≤ (y400.size : Int) then ((some (y400.extract 0 (x1 : Int).toNat : ByteArray)).bind fun y401 => (if y401.size + x2.size ≤ 9223372036854775807 then ((some (y401 ++ x2 : ByteArray)).bind fun y402 => (some y402)) else (none))) else (none)) else (none)) else (if 0 ≤ x1 then (if x1 ≤ (y400.size : Int) then ((some (y400.extract 0 (x1 : Int).toNat : ByteArray)).bind fun y403 => (if y403.size + x2.size ≤ 9223372036854775807 then ((some (y403 ++ x2 : ByteArray)).bind fun y404 => (if 0 ≤ (wrap64 (x1 + (x2.size : Int))) then (if (wrap64 (x1 + (x2.size : Int))) ≤ (y400.size : Int) then ((some (y400.extract ((wrap64 (x1 + (x2.size : Int))) : Int).toNat y400.size : ByteArray)).bind fun y405 => (if y404.size + y405.size ≤ 9223372036854775807 then ((some (y404 ++ y405 : ByteArray)).bind fun y406 => (some y406)) else (none))) else (none)) else (none))) else (none))) else (none)) else (none)))) else (none))) else (if (wrap64 (x1 + (x2.size : Int))) > (x0.size : Int) then (if 0 ≤ x1 then (if x1 ≤ (x0.size : Int) then ((some (x0.extract 0 (x1 : Int).toNat : ByteArray)).bind fun y407 => (if y407.size + x2.size ≤ 9223372036854775807 then ((some (y407 ++ x2 : ByteArray)).bind fun y408 => (some y408)) else (none))) else (none)) else (none)) else (if 0 ≤ x1 then (if x1 ≤ (x0.size : Int) then ((some (x0.extract 0 (x1 : Int).toNat : ByteArray)).bind fun y409 => (if y409.size + x2.size ≤ 9223372036854775807 then ((some (y409 ++ x2 : ByteArray)).bind fun y410 => (if 0 ≤ (wrap64 (x1 + (x2.size : Int))) then (if (wrap64 (x1 + (x2.size : Int))) ≤ (x0.size : Int) then ((some (x0.extract ((wrap64 (x1 + (x2.size : Int))) : Int).toNat x0.size : ByteArray)).bind fun y411 => (if y410.size + y411.size ≤ 9223372036854775807 then ((some (y410 ++ y411 : ByteArray)).bind fun y412 => (some y412)) else (none))) else (none)) else (none))) else (none))) else (none)) else (none))))
def spec_TextWith.f (k : Nat) (a0 : ByteArray) (a1 : Int) (a2 : ByteArray) : Option (ByteArray) := if a2.toList = ([] : List UInt8) then (spec_TextWith.j0 k a0 a1 a2 true) else (if a1 < 0 then (spec_TextWith.j0 k a0 a1 a2 true) else (if a1 > (wrap64 (128 - (a2.size : Int))) then (spec_TextWith.j0 k a0 a1 a2 true) else (spec_TextWith.j0 k a0 a1 a2 (decide ((a0.size : Int) > 128)))))
theorem spec_TextWith.mono_l : ∀ k, (∀ y0 y1 y2 y3, LeO (spec_TextWith.j0 k y0 y1 y2 y3) (spec_TextWith.j0 (k + 1) y0 y1 y2 y3))
 | 0 => fun _ _ _ _ r h => by simp [spec_TextWith.j0] at h
 | k + 1 => by
  have ih0 := spec_TextWith.mono_l k
  ·intro y0 y1 y2 y3
   unfold spec_TextWith.j0
   repeat' first
   | (with_reducible exact ih0 ..)
   | (with_reducible exact spec_ZeroText.mono ..)
   | (with_reducible exact LeO.refl _)
   | (with_reducible exact LeO.none _)
   | (with_reducible refine LeO.ite ?_ ?_)
   | (with_reducible refine LeO.bind ?_ (fun _ => ?_))
   | exact ih0 ..
   | exact spec_ZeroText.mono ..
   | exact LeO.none _
   | refine LeO.ite ?_ ?_
   | refine LeO.bind ?_ (fun _ => ?_)
theorem spec_TextWith.mono : ∀ a0 a1 a2 k, LeO (spec_TextWith.f k a0 a1 a2) (spec_TextWith.f (k + 1) a0 a1 a2) := by
 intro a0 a1 a2 k
 have ih0 := spec_TextWith.mono_l k
 unfold spec_TextWith.f
 repeat' first
   | (with_reducible exact ih0 ..)
   | (with_reducible exact spec_ZeroText.mono ..)
   | (with_reducible exact LeO.refl _)
   | (with_reducible exact LeO.none _)
   | (with_reducible refine LeO.ite ?_ ?_)
   | (with_reducible refine LeO.bind ?_ (fun _ => ?_))
   | exact ih0 ..
   | exact spec_ZeroText.mono ..
   | exact LeO.none _
   | refine LeO.ite ?_ ?_
   | refine LeO.bind ?_ (fun _ => ?_)
set_option maxHeartbeats 8000000 in
set_option maxRecDepth 100000 in
theorem spec_TextWith.calls (k : Nat) (a0 : ByteArray) (a1 : Int) (a2 : ByteArray) (r : ByteArray) (w : World) (h : spec_TextWith.f k a0 a1 a2 = some r) :
  Calls Try.prog 147 #[.string a0, .int .i64 a1, .string a2] w fun e w' => e = .returned (.string r) ∧ Below w.heap.size w w' := by
 have HB := Aside0.mk (Below.refl w.heap.size w)
 unfold spec_TextWith.f at h
 have H := h
 clear h
 have HC4 := Aside0.mk H
 clear H
 go_enter Try.func147, Try.ntmps147
 go_upto_region 1 with (fail)
 repeat (go_quiet (fail); go_upto_region 1 with (fail))
 go_cut [25] (fun v25 wc => ∃ (kq : Nat) (x25_3 : Bool), v25 = .bool x25_3 ∧ Aside0 (spec_TextWith.j0 kq a0 a1 a2 x25_3 = some r) ∧ Aside0 (kq ≤ k) ∧ Aside0 (Below w.heap.size w wc))
 case first =>
  have H := HC4.out
  clear HC4
  by_cases c5 : a2.toList = ([] : List UInt8)
  ·rw [if_pos c5] at H
   have c5b0 := beq_iff_eq.mpr c5
   have c5b1 := bne_eq_false_iff_eq.mpr c5
   clear c5
   (first | rw [c5b0] | (simp only [i64_w, i32_w]; rw [c5b0]) | rw [show (a2.toList).isEmpty = true from by simpa using c5b0] | skip)
   have H' := Aside0.mk H
   clear H
   go_wp2
   repeat (go_quiet (fail); try go_wp2)
   go_meet
   case rel => exact ⟨_, (true), tq_5, H', ⟨tq_38⟩, ⟨th_⟩⟩
  rw [if_neg c5] at H
  have c5b0 := beq_eq_false_iff_ne.mpr c5
  have c5b1 := bne_iff_ne.mpr c5
  (first | rw [c5b0] | (simp only [i64_w, i32_w]; rw [c5b0]) | rw [show (a2.toList).isEmpty = false from by simpa using c5b0] | skip)
  by_cases c6 : a1 < 0
  ·rw [if_pos c6] at H
   have c6b0 := decide_eq_true c6
   clear c6
   have H' := Aside0.mk H
   clear H
   go_wp2
   repeat (go_quiet (fail); try go_wp2)
   go_meet
   case rel => exact ⟨_, (true), tq_5, H', ⟨tq_38⟩, ⟨th_⟩⟩
  rw [if_neg c6] at H
  have c6b0 := decide_eq_false c6
  clear c6
  by_cases c7 : a1 > (wrap64 (128 - (a2.size : Int)))
  ·rw [if_pos c7] at H
   have c7b0 := decide_eq_true c7
   clear c7
   have H' := Aside0.mk H
   clear H
   go_wp2
   repeat (go_quiet (fail); try go_wp2)
   go_meet
   case rel => exact ⟨_, (true), tq_5, H', ⟨tq_38⟩, ⟨th_⟩⟩
  rw [if_neg c7] at H
  have c7b0 := decide_eq_false c7
  clear c7
  have H' := Aside0.mk H
  clear H
  go_wp2
  repeat (go_quiet (fail); try go_wp2)
  go_meet
  case rel => exact ⟨_, (decide ((a0.size : Int) > 128)), tq_5, H', ⟨tq_38⟩, ⟨th_⟩⟩
 case rest =>
 clear HC4
 try clear c1; try clear p2; try clear c5; try clear c5b0; try clear c5b1; try clear c6; try clear c6b0; try clear p6; try clear c7; try clear c7b0
 obtain ⟨kq, x25_3, rfl, HA, HJ3, HB⟩ := hcut
 cases kq with
 | zero => exact absurd HA.out (by simp [spec_TextWith.j0])
 | succ kj3 =>
 have H := HA.out
 clear HA
 simp only [spec_TextWith.j0] at H
 by_cases c8 : x25_3 = true
 ·subst c8
  rw [if_pos rfl] at H
  obtain rfl := Option.some.inj H
  go_wp2
  repeat (go_quiet (fail); try go_wp2)
  go_ret
  exact ⟨tq_1, th_⟩
 replace c8 := Bool.eq_false_iff.mpr c8
 subst c8
 rw [if_neg nf_] at H
 by_cases c9 : (a0.size : Int) < a1
 rotate_left
 ·rw [if_neg c9] at H
  have c9b0 := decide_eq_false c9
  clear c9
  by_cases c25 : (wrap64 (a1 + (a2.size : Int))) > (a0.size : Int)
  ·rw [if_pos c25] at H
   have c25b0 := decide_eq_true c25
   clear c25
   obtain ⟨c26, H⟩ := fc_ H
   have c26b0 := eq_true c26
   have c26b1 := decide_eq_true c26
   clear c26
   obtain ⟨c27, H⟩ := fc_ H
   have c27b0 := eq_true c27
   have c27b1 := decide_eq_true c27
   clear c27
   obtain ⟨y407, hy407⟩ : ∃ y_ : ByteArray, (a0.extract 0 (a1 : Int).toNat) = y_ := ⟨_, rfl⟩
   replace H : (if y407.size + a2.size ≤ 9223372036854775807 then ((some (y407 ++ a2 : ByteArray)).bind fun y408 => (some y408)) else (none)) = some r := by rw [← hy407]; exact (Option.bind_some _ _).symm.trans H
   obtain ⟨c28, H⟩ := fc_ H
   have c28b0 := eq_true c28
   have c28b1 := decide_eq_true c28
   try have c28b2 : (9223372036854775807 < y407.size + a2.size) = False := eq_false (Nat.not_lt.2 c28)
   clear c28
   obtain ⟨y408, hy408⟩ : ∃ y_ : ByteArray, (y407 ++ a2) = y_ := ⟨_, rfl⟩
   replace H : (some y408) = some r := by rw [← hy408]; exact (Option.bind_some _ _).symm.trans H
   obtain rfl := Option.some.inj H
   go_wp2
   repeat (go_quiet (fail); try go_wp2)
   go_ret
   exact ⟨tq_1, th_⟩
  rw [if_neg c25] at H
  have c25b0 := decide_eq_false c25
  clear c25
  obtain ⟨c29, H⟩ := fc_ H
  have c29b0 := eq_true c29
  have c29b1 := decide_eq_true c29
  clear c29
  obtain ⟨c30, H⟩ := fc_ H
  have c30b0 := eq_true c30
  have c30b1 := decide_eq_true c30
  clear c30
  obtain ⟨y409, hy409⟩ : ∃ y_ : ByteArray, (a0.extract 0 (a1 : Int).toNat) = y_ := ⟨_, rfl⟩
  replace H : (if y409.size + a2.size ≤ 9223372036854775807 then ((some (y409 ++ a2 : ByteArray)).bind fun y410 => (if 0 ≤ (wrap64 (a1 + (a2.size : Int))) then (if (wrap64 (a1 + (a2.size : Int))) ≤ (a0.size : Int) then ((some (a0.extract ((wrap64 (a1 + (a2.size : Int))) : Int).toNat a0.size : ByteArray)).bind fun y411 => (if y410.size + y411.size ≤ 9223372036854775807 then ((some (y410 ++ y411 : ByteArray)).bind fun y412 => (some y412)) else (none))) else (none)) else (none))) else (none)) = some r := by rw [← hy409]; exact (Option.bind_some _ _).symm.trans H
  obtain ⟨c31, H⟩ := fc_ H
  have c31b0 := eq_true c31
  have c31b1 := decide_eq_true c31
  try have c31b2 : (9223372036854775807 < y409.size + a2.size) = False := eq_false (Nat.not_lt.2 c31)
  clear c31
  obtain ⟨y410, hy410⟩ : ∃ y_ : ByteArray, (y409 ++ a2) = y_ := ⟨_, rfl⟩
  replace H : (if 0 ≤ (wrap64 (a1 + (a2.size : Int))) then (if (wrap64 (a1 + (a2.size : Int))) ≤ (a0.size : Int) then ((some (a0.extract ((wrap64 (a1 + (a2.size : Int))) : Int).toNat a0.size : ByteArray)).bind fun y411 => (if y410.size + y411.size ≤ 9223372036854775807 then ((some (y410 ++ y411 : ByteArray)).bind fun y412 => (some y412)) else (none))) else (none)) else (none)) = some r := by rw [← hy410]; exact (Option.bind_some _ _).symm.trans H
  obtain ⟨ji32, hji32⟩ : ∃ j_ : Int, (wrap64 (a1 + (a2.size : Int))) = j_ := ⟨_, rfl⟩
  replace H : (if 0 ≤ (ji32) then (if (ji32) ≤ (a0.size : Int) then ((some (a0.extract ((ji32) : Int).toNat a0.size : ByteArray)).bind fun y411 => (if y410.size + y411.size ≤ 9223372036854775807 then ((some (y410 ++ y411 : ByteArray)).bind fun y412 => (some y412)) else (none))) else (none)) else (none)) = some r := by first | (rw [hji32] at H; exact H) | (simp only [hji32] at H ⊢; exact H)
  (try rw [hji32] at c25b0)
  have hji32w : (IntKind.i64.wrap (a1 + (a2.size : Int))) = ji32 := (i64_w _).trans hji32
  obtain ⟨c33, H⟩ := fc_ H
  have c33b0 := eq_true c33
  have c33b1 := decide_eq_true c33
  clear c33
  obtain ⟨c34, H⟩ := fc_ H
  have c34b0 := eq_true c34
  have c34b1 := decide_eq_true c34
  clear c34
  obtain ⟨y411, hy411⟩ : ∃ y_ : ByteArray, (a0.extract ((ji32) : Int).toNat a0.size) = y_ := ⟨_, rfl⟩
  replace H : (if y410.size + y411.size ≤ 9223372036854775807 then ((some (y410 ++ y411 : ByteArray)).bind fun y412 => (some y412)) else (none)) = some r := by rw [← hy411]; exact (Option.bind_some _ _).symm.trans H
  obtain ⟨c35, H⟩ := fc_ H
  have c35b0 := eq_true c35
  have c35b1 := decide_eq_true c35
  try have c35b2 : (9223372036854775807 < y410.size + y411.size) = False := eq_false (Nat.not_lt.2 c35)
  clear c35
  obtain ⟨y412, hy412⟩ : ∃ y_ : ByteArray, (y410 ++ y411) = y_ := ⟨_, rfl⟩
  replace H : (some y412) = some r := by rw [← hy412]; exact (Option.bind_some _ _).symm.trans H
  obtain rfl := Option.some.inj H
  go_wp2
  repeat (go_quiet (fail); try go_wp2)
  go_ret
  exact ⟨(by first | rfl | (simp [errW_none, errW_some] <;> rfl) | (simp only [← hji32]; first | rfl | (simp [errW_none, errW_some] <;> rfl)) | (simp [*, errW_none, errW_some] <;> rfl)), th_⟩
 rw [if_pos c9] at H
 have c9b0 := decide_eq_true c9
 clear c9
 obtain ⟨t399, A10, H⟩ := bd_ H
 obtain ⟨c11, H⟩ := fc_ H
 have c11b0 := eq_true c11
 have c11b1 := decide_eq_true c11
 try have c11b2 : (9223372036854775807 < a0.size + t399.size) = False := eq_false (Nat.not_lt.2 c11)
 clear c11
 obtain ⟨y400, hy400⟩ : ∃ y_ : ByteArray, (a0 ++ t399) = y_ := ⟨_, rfl⟩
 replace H : (if (wrap64 (a1 + (a2.size : Int))) > (y400.size : Int) then (if 0 ≤ a1 then (if a1 ≤ (y400.size : Int) then ((some (y400.extract 0 (a1 : Int).toNat : ByteArray)).bind fun y401 => (if y401.size + a2.size ≤ 9223372036854775807 then ((some (y401 ++ a2 : ByteArray)).bind fun y402 => (some y402)) else (none))) else (none)) else (none)) else (if 0 ≤ a1 then (if a1 ≤ (y400.size : Int) then ((some (y400.extract 0 (a1 : Int).toNat : ByteArray)).bind fun y403 => (if y403.size + a2.size ≤ 9223372036854775807 then ((some (y403 ++ a2 : ByteArray)).bind fun y404 => (if 0 ≤ (wrap64 (a1 + (a2.size : Int))) then (if (wrap64 (a1 + (a2.size : Int))) ≤ (y400.size : Int) then ((some (y400.extract ((wrap64 (a1 + (a2.size : Int))) : Int).toNat y400.size : ByteArray)).bind fun y405 => (if y404.size + y405.size ≤ 9223372036854775807 then ((some (y404 ++ y405 : ByteArray)).bind fun y406 => (some y406)) else (none))) else (none)) else (none))) else (none))) else (none)) else (none))) = some r := by rw [← hy400]; exact (Option.bind_some _ _).symm.trans H
 by_cases c12 : (wrap64 (a1 + (a2.size : Int))) > (y400.size : Int)
 ·rw [if_pos c12] at H
  have c12b0 := decide_eq_true c12
  clear c12
  obtain ⟨c13, H⟩ := fc_ H
  have c13b0 := eq_true c13
  have c13b1 := decide_eq_true c13
  clear c13
  obtain ⟨c14, H⟩ := fc_ H
  have c14b0 := eq_true c14
  have c14b1 := decide_eq_true c14
  clear c14
  obtain ⟨y401, hy401⟩ : ∃ y_ : ByteArray, (y400.extract 0 (a1 : Int).toNat) = y_ := ⟨_, rfl⟩
  replace H : (if y401.size + a2.size ≤ 9223372036854775807 then ((some (y401 ++ a2 : ByteArray)).bind fun y402 => (some y402)) else (none)) = some r := by rw [← hy401]; exact (Option.bind_some _ _).symm.trans H
  obtain ⟨c15, H⟩ := fc_ H
  have c15b0 := eq_true c15
  have c15b1 := decide_eq_true c15
  try have c15b2 : (9223372036854775807 < y401.size + a2.size) = False := eq_false (Nat.not_lt.2 c15)
  clear c15
  obtain ⟨y402, hy402⟩ : ∃ y_ : ByteArray, (y401 ++ a2) = y_ := ⟨_, rfl⟩
  replace H : (some y402) = some r := by rw [← hy402]; exact (Option.bind_some _ _).symm.trans H
  obtain rfl := Option.some.inj H
  go_wp2_with (first | (go_at_call 112; (with_reducible refine (spec_ZeroText.calls kj3 (wrap64 (a1 - (a0.size : Int))) t399 _ A10.out).mono ?_); rintro e w16 ⟨rfl, hb⟩; have n0_ := Aside0.mk (below_step th_ hb); clear HB; have HB := n0_; clear n0_; (try clear hb)))
  repeat (go_quiet (first | (go_at_call 112; (with_reducible refine (spec_ZeroText.calls kj3 (wrap64 (a1 - (a0.size : Int))) t399 _ A10.out).mono ?_); rintro e w16 ⟨rfl, hb⟩; have n0_ := Aside0.mk (below_step th_ hb); clear HB; have HB := n0_; clear n0_; (try clear hb))); try go_wp2_with (first | (go_at_call 112; (with_reducible refine (spec_ZeroText.calls kj3 (wrap64 (a1 - (a0.size : Int))) t399 _ A10.out).mono ?_); rintro e w16 ⟨rfl, hb⟩; have n0_ := Aside0.mk (below_step th_ hb); clear HB; have HB := n0_; clear n0_; (try clear hb))))
  go_ret
  exact ⟨tq_1, th_⟩
 rw [if_neg c12] at H
 have c12b0 := decide_eq_false c12
 clear c12
 obtain ⟨c17, H⟩ := fc_ H
 have c17b0 := eq_true c17
 have c17b1 := decide_eq_true c17
 clear c17
 obtain ⟨c18, H⟩ := fc_ H
 have c18b0 := eq_true c18
 have c18b1 := decide_eq_true c18
 clear c18
 obtain ⟨y403, hy403⟩ : ∃ y_ : ByteArray, (y400.extract 0 (a1 : Int).toNat) = y_ := ⟨_, rfl⟩
 replace H : (if y403.size + a2.size ≤ 9223372036854775807 then ((some (y403 ++ a2 : ByteArray)).bind fun y404 => (if 0 ≤ (wrap64 (a1 + (a2.size : Int))) then (if (wrap64 (a1 + (a2.size : Int))) ≤ (y400.size : Int) then ((some (y400.extract ((wrap64 (a1 + (a2.size : Int))) : Int).toNat y400.size : ByteArray)).bind fun y405 => (if y404.size + y405.size ≤ 9223372036854775807 then ((some (y404 ++ y405 : ByteArray)).bind fun y406 => (some y406)) else (none))) else (none)) else (none))) else (none)) = some r := by rw [← hy403]; exact (Option.bind_some _ _).symm.trans H
 obtain ⟨c19, H⟩ := fc_ H
 have c19b0 := eq_true c19
 have c19b1 := decide_eq_true c19
 try have c19b2 : (9223372036854775807 < y403.size + a2.size) = False := eq_false (Nat.not_lt.2 c19)
 clear c19
 obtain ⟨y404, hy404⟩ : ∃ y_ : ByteArray, (y403 ++ a2) = y_ := ⟨_, rfl⟩
 replace H : (if 0 ≤ (wrap64 (a1 + (a2.size : Int))) then (if (wrap64 (a1 + (a2.size : Int))) ≤ (y400.size : Int) then ((some (y400.extract ((wrap64 (a1 + (a2.size : Int))) : Int).toNat y400.size : ByteArray)).bind fun y405 => (if y404.size + y405.size ≤ 9223372036854775807 then ((some (y404 ++ y405 : ByteArray)).bind fun y406 => (some y406)) else (none))) else (none)) else (none)) = some r := by rw [← hy404]; exact (Option.bind_some _ _).symm.trans H
 obtain ⟨ji20, hji20⟩ : ∃ j_ : Int, (wrap64 (a1 + (a2.size : Int))) = j_ := ⟨_, rfl⟩
 replace H : (if 0 ≤ (ji20) then (if (ji20) ≤ (y400.size : Int) then ((some (y400.extract ((ji20) : Int).toNat y400.size : ByteArray)).bind fun y405 => (if y404.size + y405.size ≤ 9223372036854775807 then ((some (y404 ++ y405 : ByteArray)).bind fun y406 => (some y406)) else (none))) else (none)) else (none)) = some r := by first | (rw [hji20] at H; exact H) | (simp only [hji20] at H ⊢; exact H)
 (try rw [hji20] at c12b0)
 (try rw [hji20] at A10)
 have hji20w : (IntKind.i64.wrap (a1 + (a2.size : Int))) = ji20 := (i64_w _).trans hji20
 obtain ⟨c21, H⟩ := fc_ H
 have c21b0 := eq_true c21
 have c21b1 := decide_eq_true c21
 clear c21
 obtain ⟨c22, H⟩ := fc_ H
 have c22b0 := eq_true c22
 have c22b1 := decide_eq_true c22
 clear c22
 obtain ⟨y405, hy405⟩ : ∃ y_ : ByteArray, (y400.extract ((ji20) : Int).toNat y400.size) = y_ := ⟨_, rfl⟩
 replace H : (if y404.size + y405.size ≤ 9223372036854775807 then ((some (y404 ++ y405 : ByteArray)).bind fun y406 => (some y406)) else (none)) = some r := by rw [← hy405]; exact (Option.bind_some _ _).symm.trans H
 obtain ⟨c23, H⟩ := fc_ H
 have c23b0 := eq_true c23
 have c23b1 := decide_eq_true c23
 try have c23b2 : (9223372036854775807 < y404.size + y405.size) = False := eq_false (Nat.not_lt.2 c23)
 clear c23
 obtain ⟨y406, hy406⟩ : ∃ y_ : ByteArray, (y404 ++ y405) = y_ := ⟨_, rfl⟩
 replace H : (some y406) = some r := by rw [← hy406]; exact (Option.bind_some _ _).symm.trans H
 obtain rfl := Option.some.inj H
 go_wp2_with (first | (go_at_call 112; (with_reducible refine (spec_ZeroText.calls kj3 (wrap64 (a1 - (a0.size : Int))) t399 _ A10.out).mono ?_); rintro e w24 ⟨rfl, hb⟩; have n0_ := Aside0.mk (below_step th_ hb); clear HB; have HB := n0_; clear n0_; (try clear hb)))
 repeat (go_quiet (first | (go_at_call 112; (with_reducible refine (spec_ZeroText.calls kj3 (wrap64 (a1 - (a0.size : Int))) t399 _ A10.out).mono ?_); rintro e w24 ⟨rfl, hb⟩; have n0_ := Aside0.mk (below_step th_ hb); clear HB; have HB := n0_; clear n0_; (try clear hb))); try go_wp2_with (first | (go_at_call 112; (with_reducible refine (spec_ZeroText.calls kj3 (wrap64 (a1 - (a0.size : Int))) t399 _ A10.out).mono ?_); rintro e w24 ⟨rfl, hb⟩; have n0_ := Aside0.mk (below_step th_ hb); clear HB; have HB := n0_; clear n0_; (try clear hb))))
 go_ret
 exact ⟨(by first | rfl | (simp [errW_none, errW_some] <;> rfl) | (simp only [← hji20]; first | rfl | (simp [errW_none, errW_some] <;> rfl)) | (simp [*, errW_none, errW_some] <;> rfl)), th_⟩

/-! ### spec_TextCut: function 148 -/
def spec_TextCut.f (k : Nat) (a0 : ByteArray) (a1 : Int) : Option (ByteArray) := (spec_l01In.f a1 0 128).bind fun t413 => (if t413 = true then (if a1 ≤ (a0.size : Int) then (if 0 ≤ a1 then (some (a0.extract 0 (a1 : Int).toNat)) else (none)) else ((spec_ZeroText.f k (wrap64 (a1 - (a0.size : Int)))).bind fun t414 => (if a0.size + t414.size ≤ 9223372036854775807 then (some (a0 ++ t414)) else (none)))) else (some a0))
theorem spec_TextCut.mono : ∀ a0 a1 k, LeO (spec_TextCut.f k a0 a1) (spec_TextCut.f (k + 1) a0 a1) := by
 intro a0 a1 k
 unfold spec_TextCut.f
 repeat' first
   | (with_reducible exact spec_ZeroText.mono ..)
   | (with_reducible exact LeO.refl _)
   | (with_reducible exact LeO.none _)
   | (with_reducible refine LeO.ite ?_ ?_)
   | (with_reducible refine LeO.bind ?_ (fun _ => ?_))
   | exact spec_ZeroText.mono ..
   | exact LeO.none _
   | refine LeO.ite ?_ ?_
   | refine LeO.bind ?_ (fun _ => ?_)
set_option maxHeartbeats 8000000 in
set_option maxRecDepth 100000 in
theorem spec_TextCut.calls (k : Nat) (a0 : ByteArray) (a1 : Int) (r : ByteArray) (w : World) (h : spec_TextCut.f k a0 a1 = some r) :
  Calls Try.prog 148 #[.string a0, .int .i64 a1] w fun e w' => e = .returned (.string r) ∧ Below w.heap.size w w' := by
 have HB := Aside0.mk (Below.refl w.heap.size w)
 unfold spec_TextCut.f at h
 have H := h
 clear h
 obtain ⟨t413, A3, H⟩ := bd_ H
 by_cases c4 : t413 = true
 rotate_left
 ·replace c4 := Bool.eq_false_iff.mpr c4
  subst c4
  rw [if_neg nf_] at H
  obtain rfl := Option.some.inj H
  go_enter Try.func148, Try.ntmps148
  go_wp2_with (first | ((with_reducible refine gate_callee (f := 30) rfl ?_); refine goesL_ (some 6) rfl rfl Try.func30 (by kernel_rfl) rfl #[.int .i64 a1, .int .i64 0, .int .i64 128] rfl tq_0 ?_; (with_reducible refine (spec_l01In.calls a1 0 128 false _ A3.out).mono ?_); rintro e w' ⟨rfl, ⟨nd, rfl⟩⟩; refine ⟨_, rfl, ?_⟩))
  go_ret
  exact ⟨tq_1, th_⟩
 subst c4
 rw [if_pos rfl] at H
 by_cases c5 : a1 ≤ (a0.size : Int)
 ·rw [if_pos c5] at H
  have c5b0 := decide_eq_true c5
  clear c5
  obtain ⟨c6, H⟩ := fc_ H
  have c6b0 := eq_true c6
  have c6b1 := decide_eq_true c6
  clear c6
  have c7b0 := eq_true (of_decide_eq_true tq_3 : a1 ≤ (a0.size : Int))
  obtain rfl := Option.some.inj H
  go_enter Try.func148, Try.ntmps148
  go_wp2_with (first | ((with_reducible refine gate_callee (f := 30) rfl ?_); refine goesL_ (some 6) rfl rfl Try.func30 (by kernel_rfl) rfl #[.int .i64 a1, .int .i64 0, .int .i64 128] rfl tq_0 ?_; (with_reducible refine (spec_l01In.calls a1 0 128 true _ A3.out).mono ?_); rintro e w' ⟨rfl, ⟨nd, rfl⟩⟩; refine ⟨_, rfl, ?_⟩))
  go_ret
  exact ⟨tq_1, th_⟩
 rw [if_neg c5] at H
 have c5b0 := decide_eq_false c5
 clear c5
 obtain ⟨t414, A8, H⟩ := bd_ H
 obtain ⟨c9, H⟩ := fc_ H
 have c9b0 := eq_true c9
 have c9b1 := decide_eq_true c9
 try have c9b2 : (9223372036854775807 < a0.size + t414.size) = False := eq_false (Nat.not_lt.2 c9)
 obtain rfl := Option.some.inj H
 go_enter Try.func148, Try.ntmps148
 go_wp2_with (first | ((with_reducible refine gate_callee (f := 30) rfl ?_); refine goesL_ (some 6) rfl rfl Try.func30 (by kernel_rfl) rfl #[.int .i64 a1, .int .i64 0, .int .i64 128] rfl tq_0 ?_; (with_reducible refine (spec_l01In.calls a1 0 128 true _ A3.out).mono ?_); rintro e w' ⟨rfl, ⟨nd, rfl⟩⟩; refine ⟨_, rfl, ?_⟩) | ((with_reducible refine gate_callee (f := 112) rfl ?_); refine goesL_ (some 21) rfl rfl Try.func112 (by kernel_rfl) rfl #[.int .i64 (wrap64 (a1 - (a0.size : Int)))] rfl tq_0 ?_; (with_reducible refine (spec_ZeroText.calls k (wrap64 (a1 - (a0.size : Int))) t414 _ A8.out).mono ?_); rintro e w10 ⟨rfl, hb⟩; refine ⟨_, rfl, ?_⟩; have n0_ := Aside0.mk (below_step th_ hb); clear HB; have HB := n0_; clear n0_; (try clear hb)))
 go_ret
 exact ⟨tq_1, th_⟩

end Go.Proofs.Ytljnnmpfeningaa.PFnViews
