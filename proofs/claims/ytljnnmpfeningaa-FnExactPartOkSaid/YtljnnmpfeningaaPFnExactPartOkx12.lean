/- Contracts of Go functions, written by a program of ours over the print of the kit: each says that the call returns what the Lean function beside it computes. Conditions: as each theorem states them. -/
import Derived.Test.YtljnnmpfeningaaPkFnExactPartOk
import Derived.Test.YtljnnmpfeningaaPFnExactPartOkx0
import Derived.Test.YtljnnmpfeningaaPFnExactPartOkx9
import Derived.Test.YtljnnmpfeningaaPFnExactPartOkx10
namespace Go.Proofs.Ytljnnmpfeningaa.PFnExactPartOk
open Go.RowKit Go.Proofs.YtljnnmpfeningaaW.PrintWords Go.Proofs.YtljnnmpfeningaaW.PrintLast Go.Proofs.YtljnnmpfeningaaW.PrintMore
attribute [local go_sem] max2_int min2_int max_two min_two max_three min_three max_four min_four   -- for this text's walks alone
set_option linter.unusedVariables false
set_option linter.unusedSimpArgs false

/-! ### impl_NameOk: function 136 -/
def impl_NameOk.l0 : Nat → ByteArray → Int → Int → Option (Bool)
 | 0, _, _, _ => none
 | k + 1, x0, x5, x6 => if x6 < x5 then (if 0 ≤ x6 then (if x6 < (x0.size : Int) then (if (bt x0 x6) ≥ 97 then (if (bt x0 x6) ≤ 122 then (impl_NameOk.l0 k x0 x5 (wrap64 (x6 + 1))) else (if (bt x0 x6) ≥ 48 then (if ((bt x0 x6) ≤ 57) then (impl_NameOk.l0 k x0 x5 (wrap64 (x6 + 1))) else (some false)) else (some false))) else (if (bt x0 x6) ≥ 48 then (if ((bt x0 x6) ≤ 57) then (impl_NameOk.l0 k x0 x5 (wrap64 (x6 + 1))) else (some false)) else (some false))) else (none)) else (none)) else ((impl_within.f (x0.size : Int) 1 7).bind fun t303 => (some t303))
def impl_NameOk.f (k : Nat) (a0 : ByteArray) : Option (Bool) := impl_NameOk.l0 k a0 (a0.size : Int) 0
theorem impl_NameOk.mono_l : ∀ k, (∀ y0 y1 y2, LeO (impl_NameOk.l0 k y0 y1 y2) (impl_NameOk.l0 (k + 1) y0 y1 y2))
 | 0 => fun _ _ _ r h => by simp [impl_NameOk.l0] at h
 | k + 1 => by
  have ih0 := impl_NameOk.mono_l k
  ·intro y0 y1 y2
   unfold impl_NameOk.l0
   exact mo_0
theorem impl_NameOk.mono : ∀ a0 k, LeO (impl_NameOk.f k a0) (impl_NameOk.f (k + 1) a0) := by
 intro a0 k
 have ih0 := impl_NameOk.mono_l k
 unfold impl_NameOk.f
 repeat' first
   | (with_reducible exact ih0 ..)
   | (with_reducible exact LeO.refl _)
   | (with_reducible exact LeO.none _)
   | (with_reducible refine LeO.ite ?_ ?_)
   | (with_reducible refine LeO.bind ?_ (fun _ => ?_))
   | exact ih0 ..
   | exact LeO.none _
   | refine LeO.ite ?_ ?_
   | refine LeO.bind ?_ (fun _ => ?_)
set_option maxHeartbeats 8000000 in
set_option maxRecDepth 100000 in
theorem impl_NameOk.calls (k : Nat) (a0 : ByteArray) (r : Bool) (w : World) (h : impl_NameOk.f k a0 = some r) :
  Calls Try.prog 136 #[.string a0] w fun e w' => e = .returned (.bool r) ∧ Drawn0 w w' := by
 have H : (impl_NameOk.l0 k a0 (a0.size : Int) 0) = some r := h
 clear h
 have H' := Aside0.mk H
 clear H
 go_enter Try.func136, Try.ntmps136
 go_wp2
 go_loopg [6] k (fun kq v6 w' => ∃ (x6_1 : Int), v6 = .int .i64 x6_1 ∧ Aside0 (impl_NameOk.l0 kq a0 (a0.size : Int) x6_1 = some r) ∧ Aside0 (kq ≤ k) ∧ Drawn0 w w')
 case atStart => exact ⟨(0), tq_4, H', ⟨Nat.le_refl _⟩, tq_27⟩
 case round =>
 clear H'
 try clear c1
 obtain ⟨x6_1, rfl, HA, HK1, ⟨m1, rfl⟩⟩ := hrel
 cases gk with
 | zero => exact absurd HA.out (by simp [impl_NameOk.l0])
 | succ k1 =>
 have H := HA.out
 clear HA
 simp only [impl_NameOk.l0] at H
 by_cases c2 : x6_1 < (a0.size : Int)
 rotate_left
 ·rw [if_neg c2] at H
  have c2b0 := decide_eq_false c2
  clear c2
  replace H := Option.bind_eq_some_iff.mp H
  obtain ⟨t303, A170, H⟩ := H
  replace H : (some t303) = some r := H
  have A17 := Aside0.mk A170
  clear A170
  obtain rfl := Option.some.inj H
  go_wp2_with (first | ((with_reducible refine gate_callee (f := 40) rfl ?_); refine goesL_ (some 35) rfl rfl Try.func40 (by kernel_rfl) rfl #[.int .i64 (a0.size : Int), .int .i64 1, .int .i64 7] rfl tq_1 ?_; (with_reducible refine (impl_within.calls (a0.size : Int) 1 7 t303 _ A17.out).mono ?_); rintro e w' ⟨rfl, ⟨nd, rfl⟩⟩; refine ⟨_, rfl, ?_⟩))
  go_ret
  exact ⟨tq_4, tq_27⟩
 rw [if_pos c2] at H
 have c2b0 := decide_eq_true c2
 clear c2
 by_cases c3 : 0 ≤ x6_1
 rotate_left
 ·rw [if_neg c3] at H
  exact absurd H (by simp)
 rw [if_pos c3] at H
 have c3b0 := decide_eq_true c3
 clear c3
 by_cases c4 : x6_1 < (a0.size : Int)
 rotate_left
 ·rw [if_neg c4] at H
  exact absurd H (by simp)
 rw [if_pos c4] at H
 have c4b0 := decide_eq_true c4
 clear c4
 by_cases c6 : (bt a0 x6_1) ≥ 97
 rotate_left
 ·rw [if_neg c6] at H
  have c6b0 := decide_eq_false c6
  clear c6
  by_cases c14 : (bt a0 x6_1) ≥ 48
  rotate_left
  ·rw [if_neg c14] at H
   have c14b0 := decide_eq_false c14
   clear c14
   obtain rfl := Option.some.inj H
   have p5 : 0 ≤ (x6_1 : Int) := of_decide_eq_true tq_3
   have q5 : x6_1 < (a0.size : Int) := of_decide_eq_true tq_3
   have hx5 := bt_at a0 x6_1
   replace p5 := eq_true p5
   replace q5 := eq_true q5
   have p13 : 0 ≤ (x6_1 : Int) := of_decide_eq_true tq_3
   have q13 : x6_1 < (a0.size : Int) := of_decide_eq_true tq_3
   have hx13 := bt_at a0 x6_1
   replace p13 := eq_true p13
   replace q13 := eq_true q13
   go_wp2
   go_ret
   exact ⟨tq_4, tq_27⟩
  rw [if_pos c14] at H
  have c14b0 := decide_eq_true c14
  clear c14
  by_cases c16 : ((bt a0 x6_1) ≤ 57)
  rotate_left
  ·rw [if_neg c16] at H
   have c16b0 := decide_eq_false c16
   clear c16
   obtain rfl := Option.some.inj H
   have p5 : 0 ≤ (x6_1 : Int) := of_decide_eq_true tq_3
   have q5 : x6_1 < (a0.size : Int) := of_decide_eq_true tq_3
   have hx5 := bt_at a0 x6_1
   replace p5 := eq_true p5
   replace q5 := eq_true q5
   have p13 : 0 ≤ (x6_1 : Int) := of_decide_eq_true tq_3
   have q13 : x6_1 < (a0.size : Int) := of_decide_eq_true tq_3
   have hx13 := bt_at a0 x6_1
   replace p13 := eq_true p13
   replace q13 := eq_true q13
   have p15 : 0 ≤ (x6_1 : Int) := of_decide_eq_true tq_3
   have q15 : x6_1 < (a0.size : Int) := of_decide_eq_true tq_3
   have hx15 := bt_at a0 x6_1
   replace p15 := eq_true p15
   replace q15 := eq_true q15
   go_wp2
   go_ret
   exact ⟨tq_4, tq_27⟩
  rw [if_pos c16] at H
  have c16b0 := decide_eq_true c16
  clear c16
  have H' := Aside0.mk H
  clear H
  have p5 : 0 ≤ (x6_1 : Int) := of_decide_eq_true tq_3
  have q5 : x6_1 < (a0.size : Int) := of_decide_eq_true tq_3
  have hx5 := bt_at a0 x6_1
  replace p5 := eq_true p5
  replace q5 := eq_true q5
  have p13 : 0 ≤ (x6_1 : Int) := of_decide_eq_true tq_3
  have q13 : x6_1 < (a0.size : Int) := of_decide_eq_true tq_3
  have hx13 := bt_at a0 x6_1
  replace p13 := eq_true p13
  replace q13 := eq_true q13
  have p15 : 0 ≤ (x6_1 : Int) := of_decide_eq_true tq_3
  have q15 : x6_1 < (a0.size : Int) := of_decide_eq_true tq_3
  have hx15 := bt_at a0 x6_1
  replace p15 := eq_true p15
  replace q15 := eq_true q15
  go_wp2
  go_roundg k1
  case measure => have := HK1.out; omega
  case rel => exact ⟨(wrap64 (x6_1 + 1)), tq_4, H', ⟨tq_93⟩, tq_27⟩
 rw [if_pos c6] at H
 have c6b0 := decide_eq_true c6
 clear c6
 by_cases c8 : (bt a0 x6_1) ≤ 122
 ·rw [if_pos c8] at H
  have c8b0 := decide_eq_true c8
  clear c8
  have H' := Aside0.mk H
  clear H
  have p5 : 0 ≤ (x6_1 : Int) := of_decide_eq_true tq_3
  have q5 : x6_1 < (a0.size : Int) := of_decide_eq_true tq_3
  have hx5 := bt_at a0 x6_1
  replace p5 := eq_true p5
  replace q5 := eq_true q5
  have p7 : 0 ≤ (x6_1 : Int) := of_decide_eq_true tq_3
  have q7 : x6_1 < (a0.size : Int) := of_decide_eq_true tq_3
  have hx7 := bt_at a0 x6_1
  replace p7 := eq_true p7
  replace q7 := eq_true q7
  go_wp2
  go_roundg k1
  case measure => have := HK1.out; omega
  case rel => exact ⟨(wrap64 (x6_1 + 1)), tq_4, H', ⟨tq_93⟩, tq_27⟩
 rw [if_neg c8] at H
 have c8b0 := decide_eq_false c8
 clear c8
 by_cases c10 : (bt a0 x6_1) ≥ 48
 rotate_left
 ·rw [if_neg c10] at H
  have c10b0 := decide_eq_false c10
  clear c10
  obtain rfl := Option.some.inj H
  have p5 : 0 ≤ (x6_1 : Int) := of_decide_eq_true tq_3
  have q5 : x6_1 < (a0.size : Int) := of_decide_eq_true tq_3
  have hx5 := bt_at a0 x6_1
  replace p5 := eq_true p5
  replace q5 := eq_true q5
  have p7 : 0 ≤ (x6_1 : Int) := of_decide_eq_true tq_3
  have q7 : x6_1 < (a0.size : Int) := of_decide_eq_true tq_3
  have hx7 := bt_at a0 x6_1
  replace p7 := eq_true p7
  replace q7 := eq_true q7
  have p9 : 0 ≤ (x6_1 : Int) := of_decide_eq_true tq_3
  have q9 : x6_1 < (a0.size : Int) := of_decide_eq_true tq_3
  have hx9 := bt_at a0 x6_1
  replace p9 := eq_true p9
  replace q9 := eq_true q9
  go_wp2
  go_ret
  exact ⟨tq_4, tq_27⟩
 rw [if_pos c10] at H
 have c10b0 := decide_eq_true c10
 clear c10
 by_cases c12 : ((bt a0 x6_1) ≤ 57)
 rotate_left
 ·rw [if_neg c12] at H
  have c12b0 := decide_eq_false c12
  clear c12
  obtain rfl := Option.some.inj H
  have p5 : 0 ≤ (x6_1 : Int) := of_decide_eq_true tq_3
  have q5 : x6_1 < (a0.size : Int) := of_decide_eq_true tq_3
  have hx5 := bt_at a0 x6_1
  replace p5 := eq_true p5
  replace q5 := eq_true q5
  have p7 : 0 ≤ (x6_1 : Int) := of_decide_eq_true tq_3
  have q7 : x6_1 < (a0.size : Int) := of_decide_eq_true tq_3
  have hx7 := bt_at a0 x6_1
  replace p7 := eq_true p7
  replace q7 := eq_true q7
  have p9 : 0 ≤ (x6_1 : Int) := of_decide_eq_true tq_3
  have q9 : x6_1 < (a0.size : Int) := of_decide_eq_true tq_3
  have hx9 := bt_at a0 x6_1
  replace p9 := eq_true p9
  replace q9 := eq_true q9
  have p11 : 0 ≤ (x6_1 : Int) := of_decide_eq_true tq_3
  have q11 : x6_1 < (a0.size : Int) := of_decide_eq_true tq_3
  have hx11 := bt_at a0 x6_1
  replace p11 := eq_true p11
  replace q11 := eq_true q11
  go_wp2
  go_ret
  exact ⟨tq_4, tq_27⟩
 rw [if_pos c12] at H
 have c12b0 := decide_eq_true c12
 clear c12
 have H' := Aside0.mk H
 clear H
 have p5 : 0 ≤ (x6_1 : Int) := of_decide_eq_true tq_3
 have q5 : x6_1 < (a0.size : Int) := of_decide_eq_true tq_3
 have hx5 := bt_at a0 x6_1
 replace p5 := eq_true p5
 replace q5 := eq_true q5
 have p7 : 0 ≤ (x6_1 : Int) := of_decide_eq_true tq_3
 have q7 : x6_1 < (a0.size : Int) := of_decide_eq_true tq_3
 have hx7 := bt_at a0 x6_1
 replace p7 := eq_true p7
 replace q7 := eq_true q7
 have p9 : 0 ≤ (x6_1 : Int) := of_decide_eq_true tq_3
 have q9 : x6_1 < (a0.size : Int) := of_decide_eq_true tq_3
 have hx9 := bt_at a0 x6_1
 replace p9 := eq_true p9
 replace q9 := eq_true q9
 have p11 : 0 ≤ (x6_1 : Int) := of_decide_eq_true tq_3
 have q11 : x6_1 < (a0.size : Int) := of_decide_eq_true tq_3
 have hx11 := bt_at a0 x6_1
 replace p11 := eq_true p11
 replace q11 := eq_true q11
 go_wp2
 go_roundg k1
 case measure => have := HK1.out; omega
 case rel => exact ⟨(wrap64 (x6_1 + 1)), tq_4, H', ⟨tq_93⟩, tq_27⟩

/-! ### strings_Repeat: function 151 -/
def strings_Repeat.f (a0 : ByteArray) (a1 : Int) : Option (ByteArray) := if 0 ≤ a1 ∧ a1 ≤ 9223372036854775807 ∧ a0.size * a1.toNat ≤ 140737488355328 then some ⟨(Lib.repeatL a0.data.toList a1.toNat).toArray⟩ else none
theorem strings_Repeat.calls (a0 : ByteArray) (a1 : Int) (r : ByteArray) (w : World) (h : strings_Repeat.f a0 a1 = some r) :
  Calls Try.prog 151 #[.string a0, .int .i64 a1] w fun e w' => e = .returned (.string r) ∧ Below w.heap.size w w' := by
 unfold strings_Repeat.f at h
 split at h
 case isFalse => cases h
 case isTrue hc =>
  obtain ⟨h0, h1, h2⟩ := hc
  obtain ⟨c, rfl⟩ := Int.eq_ofNat_of_zero_le h0
  obtain rfl := Option.some.inj h
  exact Try.strings_Repeat a0 c w (by omega) h2

/-! ### impl_padded: function 149 -/
def impl_padded.f (a0 : ByteArray) (a1 : Int) : Option (ByteArray) := (strings_Repeat.f (⟨#[0]⟩ : ByteArray) (mx 0 (wrap64 (a1 - (a0.size : Int))))).bind fun t304 => (if a0.size + t304.size ≤ 9223372036854775807 then (some (a0 ++ t304)) else (none))
set_option maxHeartbeats 8000000 in
set_option maxRecDepth 100000 in
theorem impl_padded.calls (a0 : ByteArray) (a1 : Int) (r : ByteArray) (w : World) (h : impl_padded.f a0 a1 = some r) :
  Calls Try.prog 149 #[.string a0, .int .i64 a1] w fun e w' => e = .returned (.string r) ∧ Below w.heap.size w w' := by
 have HB := Aside0.mk (Below.refl w.heap.size w)
 have H : ((strings_Repeat.f (⟨#[0]⟩ : ByteArray) (mx 0 (wrap64 (a1 - (a0.size : Int))))).bind fun t304 => (if a0.size + t304.size ≤ 9223372036854775807 then (some (a0 ++ t304)) else (none))) = some r := h
 clear h
 obtain ⟨ji3, hji3⟩ : ∃ j_ : Int, (mx 0 (wrap64 (a1 - (a0.size : Int)))) = j_ := ⟨_, rfl⟩
 replace H : ((strings_Repeat.f (⟨#[0]⟩ : ByteArray) (ji3)).bind fun t304 => (if a0.size + t304.size ≤ 9223372036854775807 then (some (a0 ++ t304)) else (none))) = some r := by first | (rw [hji3] at H; exact H) | (simp only [hji3] at H ⊢; exact H)
 (try (have hji3l : 0 ≤ ji3 := by (rw [← hji3]; unfold mx; (repeat' split) <;> omega)))
 (try (have hji3m : 0 ≤ ji3 := by omega))
 have hji3_ : (if 0 < (wrap64 (a1 - (a0.size : Int))) then (wrap64 (a1 - (a0.size : Int))) else 0) = ji3 := hji3
 replace H := Option.bind_eq_some_iff.mp H
 obtain ⟨t304, A40, H⟩ := H
 replace H : (if a0.size + t304.size ≤ 9223372036854775807 then (some (a0 ++ t304)) else (none)) = some r := H
 have A4 := Aside0.mk A40
 clear A40
 by_cases c5 : a0.size + t304.size ≤ 9223372036854775807
 rotate_left
 ·rw [if_neg c5] at H
  exact absurd H (by simp)
 rw [if_pos c5] at H
 have c5b0 := eq_true c5
 have c5b1 := decide_eq_true c5
 try have c5b2 : (9223372036854775807 < a0.size + t304.size) = False := eq_false (Nat.not_lt.2 c5)
 obtain rfl := Option.some.inj H
 go_enter Try.func149, Try.ntmps149
 go_wp2_with (first | ((with_reducible refine gate_callee (f := 151) rfl ?_); refine goesL_ (some 11) rfl rfl Try.func151 (by kernel_rfl) rfl #[.string (⟨#[0]⟩ : ByteArray), .int .i64 ji3] rfl (by (try simp only [List.map_toArray, List.map_cons, List.map_nil]); first | done | (simp only [hji3]; rfl) | rfl | (simp only [List.length_drop, List.length_take]; rfl)) ?_; (with_reducible refine (strings_Repeat.calls (⟨#[0]⟩ : ByteArray) ji3 t304 _ A4.out).mono ?_); rintro e w6 ⟨rfl, hb⟩; refine ⟨_, rfl, ?_⟩; have n0_ := Aside0.mk (below_step tq_0 hb); clear HB; have HB := n0_; clear n0_; (try clear hb); (try clear hb2); (try clear hk); (try clear hi)))
 go_ret
 exact ⟨(by first | rfl | (simp [errW_none, errW_some] <;> rfl) | (simp only [← hji3]; first | rfl | (simp [errW_none, errW_some] <;> rfl)) | (simp [*, errW_none, errW_some] <;> rfl)), tq_0⟩

/-! ### impl_WordText: function 137 -/
def impl_WordText.f (a0 : ByteArray) : Option (ByteArray) := if (a0.size : Int) > 8 then (some (⟨#[]⟩ : ByteArray)) else ((impl_padded.f a0 8).bind fun t305 => (some t305))
set_option maxHeartbeats 8000000 in
set_option maxRecDepth 100000 in
theorem impl_WordText.calls (a0 : ByteArray) (r : ByteArray) (w : World) (h : impl_WordText.f a0 = some r) :
  Calls Try.prog 137 #[.string a0] w fun e w' => e = .returned (.string r) ∧ Below w.heap.size w w' := by
 have HB := Aside0.mk (Below.refl w.heap.size w)
 have H : (if (a0.size : Int) > 8 then (some (⟨#[]⟩ : ByteArray)) else ((impl_padded.f a0 8).bind fun t305 => (some t305))) = some r := h
 clear h
 by_cases c2 : (a0.size : Int) > 8
 ·rw [if_pos c2] at H
  have c2b0 := decide_eq_true c2
  have c2b1 : decide (8 < a0.size) = true := decide_eq_true (by omega)
  clear c2
  obtain rfl := Option.some.inj H
  go_enter Try.func137, Try.ntmps137
  go_wp2
  go_ret
  exact ⟨tq_2, tq_0⟩
 rw [if_neg c2] at H
 have c2b0 := decide_eq_false c2
 have c2b1 : decide (8 < a0.size) = false := decide_eq_false (by omega)
 clear c2
 replace H := Option.bind_eq_some_iff.mp H
 obtain ⟨t305, A30, H⟩ := H
 replace H : (some t305) = some r := H
 have A3 := Aside0.mk A30
 clear A30
 obtain rfl := Option.some.inj H
 go_enter Try.func137, Try.ntmps137
 go_wp2_with (first | ((with_reducible refine gate_callee (f := 149) rfl ?_); refine goesL_ (some 7) rfl rfl Try.func149 (by kernel_rfl) rfl #[.string a0, .int .i64 8] rfl tq_1 ?_; (with_reducible refine (impl_padded.calls a0 8 t305 _ A3.out).mono ?_); rintro e w4 ⟨rfl, hb⟩; refine ⟨_, rfl, ?_⟩; have n0_ := Aside0.mk (below_step tq_0 hb); clear HB; have HB := n0_; clear n0_; (try clear hb); (try clear hb2); (try clear hk); (try clear hi)))
 go_ret
 exact ⟨tq_2, tq_0⟩

/-! ### impl_EntryWord: function 118 -/
def impl_EntryWord.j0 : Nat → Bool → Int → ByteArray → Option (ByteArray)
 | 0, _, _, _ => none
 | k + 1, x12, x307000, x307001 => if x12 = true then (some (⟨#[]⟩ : ByteArray)) else ((impl_NumText.f k x307000 1).bind fun t309 => (if t309.size + x307001.size ≤ 9223372036854775807 then ((impl_WordText.f (t309 ++ x307001)).bind fun t310 => (some t310)) else (none)))
def impl_EntryWord.f (k : Nat) (a0_0 : Int) (a0_1 : ByteArray) : Option (ByteArray) := (impl_within.f a0_0 1 5).bind fun t307 => (if t307 = true then ((impl_NameOk.f k a0_1).bind fun t308 => (impl_EntryWord.j0 k (!t308) a0_0 a0_1)) else (impl_EntryWord.j0 k true a0_0 a0_1))
theorem impl_EntryWord.mono_l : ∀ k, (∀ y0 y1 y2, LeO (impl_EntryWord.j0 k y0 y1 y2) (impl_EntryWord.j0 (k + 1) y0 y1 y2))
 | 0 => fun _ _ _ r h => by simp [impl_EntryWord.j0] at h
 | k + 1 => by
  have ih0 := impl_EntryWord.mono_l k
  ·intro y0 y1 y2
   unfold impl_EntryWord.j0
   repeat' first
   | (with_reducible exact ih0 ..)
   | (with_reducible exact impl_NameOk.mono ..)
   | (with_reducible exact impl_NumText.mono ..)
   | (with_reducible exact LeO.refl _)
   | (with_reducible exact LeO.none _)
   | (with_reducible refine LeO.ite ?_ ?_)
   | (with_reducible refine LeO.bind ?_ (fun _ => ?_))
   | exact ih0 ..
   | exact impl_NameOk.mono ..
   | exact impl_NumText.mono ..
   | exact LeO.none _
   | refine LeO.ite ?_ ?_
   | refine LeO.bind ?_ (fun _ => ?_)
theorem impl_EntryWord.mono : ∀ a0 a1 k, LeO (impl_EntryWord.f k a0 a1) (impl_EntryWord.f (k + 1) a0 a1) := by
 intro a0 a1 k
 have ih0 := impl_EntryWord.mono_l k
 unfold impl_EntryWord.f
 repeat' first
   | (with_reducible exact ih0 ..)
   | (with_reducible exact impl_NameOk.mono ..)
   | (with_reducible exact impl_NumText.mono ..)
   | (with_reducible exact LeO.refl _)
   | (with_reducible exact LeO.none _)
   | (with_reducible refine LeO.ite ?_ ?_)
   | (with_reducible refine LeO.bind ?_ (fun _ => ?_))
   | exact ih0 ..
   | exact impl_NameOk.mono ..
   | exact impl_NumText.mono ..
   | exact LeO.none _
   | refine LeO.ite ?_ ?_
   | refine LeO.bind ?_ (fun _ => ?_)
def impl_EntryWord.T3 : Bool × List (List Nat × List Nat) := (true, [([], []), ([0], [0]), ([1], [1]), ([], []), ([3], [3]), ([2, 4], [2, 4]), ([5, 2], [5]), ([6, 6, 0, 1, 2, 3, 4, 5, 6], [6])])
def impl_EntryWord.B3 : List Nat := [0, 1, 3, 0, 8, 31, 63, 127]
theorem impl_EntryWord.tab3 : rtab .any (opsOf Try.f118 3) = impl_EntryWord.T3 := by kernel_rfl
theorem impl_EntryWord.bits3 : waitsOk impl_EntryWord.T3.2 impl_EntryWord.B3 = true := by kernel_rfl
set_option maxHeartbeats 8000000 in
set_option maxRecDepth 100000 in
theorem impl_EntryWord.calls (k : Nat) (a0_0 : Int) (a0_1 : ByteArray) (r : ByteArray) (w : World) (h : impl_EntryWord.f k a0_0 a0_1 = some r) :
  Calls Try.prog 118 #[.agg #[.int .i64 a0_0, .string a0_1]] w fun e w' => e = .returned (.string r) ∧ Below w.heap.size w w' := by
 have hu67 := Try.underlying67
 have HB := Aside0.mk (Below.refl w.heap.size w)
 have H : ((impl_within.f a0_0 1 5).bind fun t307 => (if t307 = true then ((impl_NameOk.f k a0_1).bind fun t308 => (impl_EntryWord.j0 k (!t308) a0_0 a0_1)) else (impl_EntryWord.j0 k true a0_0 a0_1))) = some r := h
 clear h
 have HC2 := Aside0.mk H
 clear H
 go_enter Try.func118, Try.ntmps118
 go_upto_region 1 with (first | ((with_reducible refine gate_dst (N := 1) rfl ?_); refine box_event ?hg (N := 1) ?hd (cs := #[.int .i64 a0_0, .string a0_1]) (t := 67) ?hr ?_; (case hd => rfl); (case hg => rfl); (case hr => first | (go_simp; done) | (go_simp; rfl)); intro gb306 hg w3 hbox hb; have z_ := p_ (below_step tq_0 hb) <| p_ (hbox) <| p_ (gb_ hg tq_0) <| a_ (gb_ hg tq_0); clear HB; obtain ⟨HB, BK306, GW306, GE306⟩ := z_; clear hb hbox hg))
 (try simp only [Act.put, List.setIfInBounds_toArray, List.set_cons_zero, List.set_cons_succ])
 go_cut [12] (fun v12 wc => ∃ (kq : Nat) (x12_1 : Bool), v12 = .bool x12_1 ∧ Aside0 (impl_EntryWord.j0 kq x12_1 a0_0 a0_1 = some r) ∧ Aside0 (kq ≤ k) ∧ Aside0 (wc.heap[gb306]? = some (.cells #[.int .i64 a0_0, .string a0_1] 67 (0, 0))) ∧ Aside0 (Below w.heap.size w wc))
 case first =>
  have H := HC2.out
  clear HC2
  replace H := Option.bind_eq_some_iff.mp H
  obtain ⟨t307, A40, H⟩ := H
  replace H : (if t307 = true then ((impl_NameOk.f k a0_1).bind fun t308 => (impl_EntryWord.j0 k (!t308) a0_0 a0_1)) else (impl_EntryWord.j0 k true a0_0 a0_1)) = some r := H
  have A4 := Aside0.mk A40
  clear A40
  by_cases c5 : t307 = true
  rotate_left
  ·replace c5 := Bool.eq_false_iff.mpr c5
   subst c5
   have H1 : (impl_EntryWord.j0 k true a0_0 a0_1) = some r := by rw [if_neg (show ¬ (false = true) by decide)] at H; exact H
   clear H
   have H := H1
   clear H1
   have H' := Aside0.mk H
   clear H
   obtain ⟨hcz8_0, hcz8_1⟩ := bk2_ BK306.out
   obtain ⟨hfz8_0, hfz8_1⟩ := bf2_ BK306.out
   go_wp2_with (first | ((with_reducible refine gate_callee (f := 40) rfl ?_); refine goesL_ (some 5) rfl rfl Try.func40 (by kernel_rfl) rfl #[.int .i64 a0_0, .int .i64 1, .int .i64 5] rfl tq_1 ?_; (with_reducible refine (impl_within.calls a0_0 1 5 false _ A4.out).mono ?_); rintro e w' ⟨rfl, ⟨nd, rfl⟩⟩; refine ⟨_, rfl, ?_⟩))
   go_meet
   case rel => exact ⟨_, (true), tq_4, H', ⟨tq_59⟩, ⟨tq_125⟩, ⟨tq_79⟩⟩
  subst c5
  have H1 : ((impl_NameOk.f k a0_1).bind fun t308 => (impl_EntryWord.j0 k (!t308) a0_0 a0_1)) = some r := by rw [if_pos rfl] at H; exact H
  clear H
  have H := H1
  clear H1
  replace H := Option.bind_eq_some_iff.mp H
  obtain ⟨t308, A60, H⟩ := H
  replace H : (impl_EntryWord.j0 k (!t308) a0_0 a0_1) = some r := H
  have A6 := Aside0.mk A60
  clear A60
  have H' := Aside0.mk H
  clear H
  obtain ⟨hcz7_0, hcz7_1⟩ := bk2_ BK306.out
  obtain ⟨hfz7_0, hfz7_1⟩ := bf2_ BK306.out
  go_wp2_with (first | ((with_reducible refine gate_callee (f := 40) rfl ?_); refine goesL_ (some 5) rfl rfl Try.func40 (by kernel_rfl) rfl #[.int .i64 a0_0, .int .i64 1, .int .i64 5] rfl tq_1 ?_; (with_reducible refine (impl_within.calls a0_0 1 5 true _ A4.out).mono ?_); rintro e w' ⟨rfl, ⟨nd, rfl⟩⟩; refine ⟨_, rfl, ?_⟩) | (go_at_call 136; (with_reducible refine (impl_NameOk.calls k a0_1 t308 _ A6.out).mono ?_); rintro e w' ⟨rfl, ⟨nd, rfl⟩⟩))
  go_meet
  case rel => exact ⟨_, (!t308), tq_4, H', ⟨tq_59⟩, ⟨tq_125⟩, ⟨tq_79⟩⟩
 case rest =>
 clear HC2
 try clear c1; try clear p2; try clear c4; try clear c5; try clear hcz7_0 hcz7_1; try clear hcz8_0 hcz8_1; try clear hfz7_0 hfz7_1; try clear hfz8_0 hfz8_1
 obtain ⟨kq, x12_1, rfl, HA, HJ1, BK306, HB⟩ := hcut
 cases kq with
 | zero => exact absurd HA.out (by simp [impl_EntryWord.j0])
 | succ kj1 =>
 have H := HA.out
 clear HA
 simp only [impl_EntryWord.j0] at H
 by_cases c9 : x12_1 = true
 ·subst c9
  have H1 : (some (⟨#[]⟩ : ByteArray)) = some r := by rw [if_pos rfl] at H; exact H
  clear H
  have H := H1
  clear H1
  obtain rfl := Option.some.inj H
  go_wp2
  go_ret
  exact ⟨tq_2, tq_79⟩
 replace c9 := Bool.eq_false_iff.mpr c9
 subst c9
 have H1 : ((impl_NumText.f kj1 a0_0 1).bind fun t309 => (if t309.size + a0_1.size ≤ 9223372036854775807 then ((impl_WordText.f (t309 ++ a0_1)).bind fun t310 => (some t310)) else (none))) = some r := by rw [if_neg (show ¬ (false = true) by decide)] at H; exact H
 clear H
 have H := H1
 clear H1
 replace H := Option.bind_eq_some_iff.mp H
 obtain ⟨t309, A100, H⟩ := H
 replace H : (if t309.size + a0_1.size ≤ 9223372036854775807 then ((impl_WordText.f (t309 ++ a0_1)).bind fun t310 => (some t310)) else (none)) = some r := H
 have A10 := Aside0.mk A100
 clear A100
 by_cases c11 : t309.size + a0_1.size ≤ 9223372036854775807
 rotate_left
 ·rw [if_neg c11] at H
  exact absurd H (by simp)
 rw [if_pos c11] at H
 have c11b0 := eq_true c11
 have c11b1 := decide_eq_true c11
 try have c11b2 : (9223372036854775807 < t309.size + a0_1.size) = False := eq_false (Nat.not_lt.2 c11)
 replace H := Option.bind_eq_some_iff.mp H
 obtain ⟨t310, A120, H⟩ := H
 replace H : (some t310) = some r := H
 have A12 := Aside0.mk A120
 clear A120
 obtain rfl := Option.some.inj H
 try go_wp2
 have z_ := p_ (blk_drew BK306.out) <| a_ (below_drew1 HB.out)
 clear BK306 HB
 obtain ⟨BK306, HB⟩ := z_
 refine start_ (n := 8) (S := fun w' => w'.cell? ⟨gb306, 0, none⟩ = some (.int .i64 a0_0) ∧ w'.cell? ⟨gb306, 1, none⟩ = some (.string a0_1)) (ds := []) bq_71 (by kernel_rfl) rfl rfl (bk2_ BK306.out) (fun hHeld => ?_); refine with_tabW impl_EntryWord.tab3 impl_EntryWord.bits3 (fun HT_ HW_ => ?_)
 generalize wc.drew = w13 at BK306 HB hHeld ⊢
 refine yq_ (i := 0) (N := some 13) bq_72 (any_of HT_.out (by kernel_rfl)) ?_
 refine yq_ (i := 3) (N := some 16) bq_93 (any_of HT_.out (by kernel_rfl)) ?_
 refine tk_ (i := 1) (N := some 14) bq_94 (take_ofW HT_.out HW_.out (by kernel_rfl)) hHeld ?_
 refine tk_ (i := 4) (N := some 17) bq_95 (take_ofW HT_.out HW_.out (by kernel_rfl)) hHeld ?_
 refine one_ (i := 2) (N := some 15) #[true, true, true, true, true, false, false, false] rfl rfl (one_of HT_.out (by kernel_rfl)) (by decide) (fun K hK => ?_)
 refine goes_ Try.func134 (by kernel_rfl) rfl #[.int .i64 a0_0, .int .i64 1] (by rfl) rfl rfl tq_1 ?_
 with_reducible refine (impl_NumText.calls kj1 a0_0 1 t309 _ A10.out).mono ?_
 rintro e w14 ⟨rfl, hb⟩
 refine ⟨_, rfl, ?_⟩
 have z_ := p_ (blk_below tq_125 hb) <| a_ (below_step tq_79 hb)
 clear BK306 HB
 obtain ⟨BK306, HB⟩ := z_
 (try clear hb)
 (try clear hb2)
 (try clear hk)
 (try clear hi)
 refine hK.out _ _ (bk2_ BK306.out) (fun hHeld => ?_)
 clear hK K
 refine nm_ (some 15) ?_
 refine yq_ (i := 5) (N := some 18) bq_73 (any_of HT_.out (by kernel_rfl)) ?_
 refine one_ (i := 6) (N := some 19) bq_74 rfl rfl (one_of HT_.out (by kernel_rfl)) (by decide) (fun K hK => ?_)
 refine goes_ Try.func137 (by kernel_rfl) rfl #[.string (t309 ++ a0_1)] (by rfl) rfl rfl tq_1 ?_
 with_reducible refine (impl_WordText.calls (t309 ++ a0_1) t310 _ A12.out).mono ?_
 rintro e w15 ⟨rfl, hb⟩
 refine ⟨_, rfl, ?_⟩
 have z_ := p_ (blk_below tq_125 hb) <| a_ (below_step tq_79 hb)
 clear BK306 HB
 obtain ⟨BK306, HB⟩ := z_
 (try clear hb)
 (try clear hb2)
 (try clear hk)
 (try clear hi)
 refine hK.out _ _ (bk2_ BK306.out) (fun hHeld => ?_)
 clear hK K
 refine nm_ (some 19) ?_
 refine yq_ (i := 7) (N := some 2) bq_75 (any_of HT_.out (by kernel_rfl)) ?_
 refine done_ (done_of HT_.out (by kernel_rfl)) ?_
 try go_wp2
 go_ret
 exact ⟨tq_2, tq_79⟩

end Go.Proofs.Ytljnnmpfeningaa.PFnExactPartOk
