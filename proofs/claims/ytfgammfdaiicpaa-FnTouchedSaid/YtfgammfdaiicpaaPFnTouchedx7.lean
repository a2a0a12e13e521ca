/- Contracts of Go functions, written by a program of ours over the print of the kit: each says that the call returns what the Lean function beside it computes. Conditions: as each theorem states them. -/
import Derived.Test.YtfgammfdaiicpaaPFnTouchedx0
import Derived.Test.YtfgammfdaiicpaaPFnTouchedx1
import Derived.Test.YtfgammfdaiicpaaPFnTouchedx4
namespace Go.Proofs.Ytfgammfdaiicpaa.PFnTouched
open Go.RowKit Go.Proofs.YtfgammfdaiicpaaW.PrintWords Go.Proofs.YtfgammfdaiicpaaW.PrintLast Go.Proofs.YtfgammfdaiicpaaW.PrintMore
attribute [local go_sem] max2_int min2_int max_two min_two max_three min_three max_four min_four   -- for this text's walks alone
set_option linter.unusedVariables false
set_option linter.unusedSimpArgs false

/-! ### strings_Repeat: function 92 -/
def strings_Repeat.f (a0 : ByteArray) (a1 : Int) : Option (ByteArray) := if 0 ≤ a1 ∧ a1 ≤ 9223372036854775807 ∧ a0.size * a1.toNat ≤ 140737488355328 then some ⟨(Lib.repeatL a0.data.toList a1.toNat).toArray⟩ else none
theorem strings_Repeat.calls (a0 : ByteArray) (a1 : Int) (r : ByteArray) (w : World) (h : strings_Repeat.f a0 a1 = some r) :
    Calls Try.prog 92 #[.string a0, .int .i64 a1] w fun e w' => e = .returned (.string r) ∧ Below w.heap.size w w' := by
  unfold strings_Repeat.f at h
  split at h
  case isFalse => cases h
  case isTrue hc =>
    obtain ⟨h0, h1, h2⟩ := hc
    obtain ⟨c, rfl⟩ := Int.eq_ofNat_of_zero_le h0
    obtain rfl := Option.some.inj h
    exact Try.strings_Repeat a0 c w (by omega) h2

/-! ### impl_padded: function 53 -/
def impl_padded.f (a0 : ByteArray) (a1 : Int) : Option (ByteArray) := (strings_Repeat.f (⟨#[0]⟩ : ByteArray) (mx 0 (wrap64 (a1 - (a0.size : Int))))).bind fun t346 => (if a0.size + t346.size ≤ 9223372036854775807 then (some (a0 ++ t346)) else (none))
set_option maxHeartbeats 8000000 in
set_option maxRecDepth 100000 in
theorem impl_padded.calls (a0 : ByteArray) (a1 : Int) (r : ByteArray) (w : World) (h : impl_padded.f a0 a1 = some r) :
    Calls Try.prog 53 #[.string a0, .int .i64 a1] w fun e w' => e = .returned (.string r) ∧ Below w.heap.size w w' := by
  have HB := Aside0.mk (Below.refl w.heap.size w)
  have H : ((strings_Repeat.f (⟨#[0]⟩ : ByteArray) (mx 0 (wrap64 (a1 - (a0.size : Int))))).bind fun t346 => (if a0.size + t346.size ≤ 9223372036854775807 then (some (a0 ++ t346)) else (none))) = some r := h
  clear h
  obtain ⟨ji3, hji3⟩ : ∃ j_ : Int, (mx 0 (wrap64 (a1 - (a0.size : Int)))) = j_ := ⟨_, rfl⟩
  replace H : ((strings_Repeat.f (⟨#[0]⟩ : ByteArray) (ji3)).bind fun t346 => (if a0.size + t346.size ≤ 9223372036854775807 then (some (a0 ++ t346)) else (none))) = some r := by first | (rw [hji3] at H; exact H) | (simp only [hji3] at H ⊢; exact H)
  (try (have hji3l : 0 ≤ ji3 := by (rw [← hji3]; unfold mx; (repeat' split) <;> omega)))
  (try (have hji3m : 0 ≤ ji3 := by omega))
  have hji3_ : (if 0 < (wrap64 (a1 - (a0.size : Int))) then (wrap64 (a1 - (a0.size : Int))) else 0) = ji3 := hji3
  replace H := Option.bind_eq_some_iff.mp H
  obtain ⟨t346, A40, H⟩ := H
  replace H : (if a0.size + t346.size ≤ 9223372036854775807 then (some (a0 ++ t346)) else (none)) = some r := H
  have A4 := Aside0.mk A40
  clear A40
  by_cases c5 : a0.size + t346.size ≤ 9223372036854775807
  · rw [if_pos c5] at H
    have c5b0 := eq_true c5
    have c5b1 : decide (a0.size + t346.size ≤ 9223372036854775807) = true := decide_eq_true c5
    try have c5b2 : (9223372036854775807 < a0.size + t346.size) = False := eq_false (Nat.not_lt.2 c5)
    obtain rfl := Option.some.inj H
    go_enter Try.func53, Try.ntmps53
    go_wp2_with (first | ((with_reducible refine gate_callee (f := 92) rfl ?_); refine goesL_ (some 11) rfl rfl Try.func92 (by kernel_rfl) rfl #[.string (⟨#[0]⟩ : ByteArray), .int .i64 ji3] rfl (by (try simp only [List.map_toArray, List.map_cons, List.map_nil]); first | done | (simp only [hji3]; rfl) | rfl | (simp only [List.length_drop, List.length_take]; rfl)) ?_; (with_reducible refine (strings_Repeat.calls (⟨#[0]⟩ : ByteArray) ji3 t346 _ A4.out).mono ?_); rintro e w6 ⟨rfl, hb⟩; refine ⟨_, rfl, ?_⟩; have n0_ := Aside0.mk (below_step (by repeat (first | (with_reducible first | exact HB.out | apply below_alloc | apply pw_below_drewN | apply below_drew1) | exact HB.out)) hb); clear HB; have HB := n0_; clear n0_; (try clear hb); (try clear hb2); (try clear hk); (try clear hi)))
    go_ret
    exact ⟨by first | rfl | (simp [errW_none, errW_some] <;> rfl) | (simp only [← hji3]; first | rfl | (simp [errW_none, errW_some] <;> rfl)) | (simp [*, errW_none, errW_some] <;> rfl), by repeat (first | (with_reducible first | exact HB.out | apply below_alloc | apply pw_below_drewN | apply below_drew1) | exact HB.out)⟩
  · rw [if_neg c5] at H
    exact absurd H (by simp)

/-! ### impl_PageOf: function 36 -/
def impl_PageOf.f (a0 : ByteArray) (a1 : Int) : Option (ByteArray) := (impl_within.f a1 0 3).bind fun t347 => (if t347 = true then (if 0 ≤ (mn (wrap64 (a1 * 32)) (a0.size : Int)) then (if (mn (wrap64 (a1 * 32)) (a0.size : Int)) ≤ (mn (wrap64 ((mn (wrap64 (a1 * 32)) (a0.size : Int)) + 32)) (a0.size : Int)) then (if (mn (wrap64 ((mn (wrap64 (a1 * 32)) (a0.size : Int)) + 32)) (a0.size : Int)) ≤ (a0.size : Int) then ((impl_padded.f (a0.extract ((mn (wrap64 (a1 * 32)) (a0.size : Int)) : Int).toNat ((mn (wrap64 ((mn (wrap64 (a1 * 32)) (a0.size : Int)) + 32)) (a0.size : Int)) : Int).toNat) 32).bind fun t348 => (some t348)) else (none)) else (none)) else (none)) else (some (⟨#[]⟩ : ByteArray)))
set_option maxHeartbeats 8000000 in
set_option maxRecDepth 100000 in
theorem impl_PageOf.calls (a0 : ByteArray) (a1 : Int) (r : ByteArray) (w : World) (h : impl_PageOf.f a0 a1 = some r) :
    Calls Try.prog 36 #[.string a0, .int .i64 a1] w fun e w' => e = .returned (.string r) ∧ Below w.heap.size w w' := by
  have HB := Aside0.mk (Below.refl w.heap.size w)
  have H : ((impl_within.f a1 0 3).bind fun t347 => (if t347 = true then (if 0 ≤ (mn (wrap64 (a1 * 32)) (a0.size : Int)) then (if (mn (wrap64 (a1 * 32)) (a0.size : Int)) ≤ (mn (wrap64 ((mn (wrap64 (a1 * 32)) (a0.size : Int)) + 32)) (a0.size : Int)) then (if (mn (wrap64 ((mn (wrap64 (a1 * 32)) (a0.size : Int)) + 32)) (a0.size : Int)) ≤ (a0.size : Int) then ((impl_padded.f (a0.extract ((mn (wrap64 (a1 * 32)) (a0.size : Int)) : Int).toNat ((mn (wrap64 ((mn (wrap64 (a1 * 32)) (a0.size : Int)) + 32)) (a0.size : Int)) : Int).toNat) 32).bind fun t348 => (some t348)) else (none)) else (none)) else (none)) else (some (⟨#[]⟩ : ByteArray)))) = some r := h
  clear h
  replace H := Option.bind_eq_some_iff.mp H
  obtain ⟨t347, A30, H⟩ := H
  replace H : (if t347 = true then (if 0 ≤ (mn (wrap64 (a1 * 32)) (a0.size : Int)) then (if (mn (wrap64 (a1 * 32)) (a0.size : Int)) ≤ (mn (wrap64 ((mn (wrap64 (a1 * 32)) (a0.size : Int)) + 32)) (a0.size : Int)) then (if (mn (wrap64 ((mn (wrap64 (a1 * 32)) (a0.size : Int)) + 32)) (a0.size : Int)) ≤ (a0.size : Int) then ((impl_padded.f (a0.extract ((mn (wrap64 (a1 * 32)) (a0.size : Int)) : Int).toNat ((mn (wrap64 ((mn (wrap64 (a1 * 32)) (a0.size : Int)) + 32)) (a0.size : Int)) : Int).toNat) 32).bind fun t348 => (some t348)) else (none)) else (none)) else (none)) else (some (⟨#[]⟩ : ByteArray))) = some r := H
  have A3 := Aside0.mk A30
  clear A30
  by_cases c4 : t347 = true
  · subst c4
    have H1 : (if 0 ≤ (mn (wrap64 (a1 * 32)) (a0.size : Int)) then (if (mn (wrap64 (a1 * 32)) (a0.size : Int)) ≤ (mn (wrap64 ((mn (wrap64 (a1 * 32)) (a0.size : Int)) + 32)) (a0.size : Int)) then (if (mn (wrap64 ((mn (wrap64 (a1 * 32)) (a0.size : Int)) + 32)) (a0.size : Int)) ≤ (a0.size : Int) then ((impl_padded.f (a0.extract ((mn (wrap64 (a1 * 32)) (a0.size : Int)) : Int).toNat ((mn (wrap64 ((mn (wrap64 (a1 * 32)) (a0.size : Int)) + 32)) (a0.size : Int)) : Int).toNat) 32).bind fun t348 => (some t348)) else (none)) else (none)) else (none)) = some r := by rw [if_pos rfl] at H; exact H
    clear H
    have H := H1
    clear H1
    obtain ⟨ji5, hji5⟩ : ∃ j_ : Int, (mn (wrap64 (a1 * 32)) (a0.size : Int)) = j_ := ⟨_, rfl⟩
    replace H : (if 0 ≤ (ji5) then (if (ji5) ≤ (mn (wrap64 ((ji5) + 32)) (a0.size : Int)) then (if (mn (wrap64 ((ji5) + 32)) (a0.size : Int)) ≤ (a0.size : Int) then ((impl_padded.f (a0.extract ((ji5) : Int).toNat ((mn (wrap64 ((ji5) + 32)) (a0.size : Int)) : Int).toNat) 32).bind fun t348 => (some t348)) else (none)) else (none)) else (none)) = some r := by first | (rw [hji5] at H; exact H) | (simp only [hji5] at H ⊢; exact H)
    (try rw [hji5] at A3)
    have hji5_ : (if (a0.size : Int) < (wrap64 (a1 * 32)) then (a0.size : Int) else (wrap64 (a1 * 32))) = ji5 := hji5
    obtain ⟨ji6, hji6⟩ : ∃ j_ : Int, (mn (wrap64 ((ji5) + 32)) (a0.size : Int)) = j_ := ⟨_, rfl⟩
    replace H : (if 0 ≤ (ji5) then (if (ji5) ≤ (ji6) then (if (ji6) ≤ (a0.size : Int) then ((impl_padded.f (a0.extract ((ji5) : Int).toNat ((ji6) : Int).toNat) 32).bind fun t348 => (some t348)) else (none)) else (none)) else (none)) = some r := by first | (rw [hji6] at H; exact H) | (simp only [hji6] at H ⊢; exact H)
    (try rw [hji6] at A3)
    have hji6_ : (if (a0.size : Int) < (wrap64 ((ji5) + 32)) then (a0.size : Int) else (wrap64 ((ji5) + 32))) = ji6 := hji6
    by_cases c7 : 0 ≤ (ji5)
    · rw [if_pos c7] at H
      have c7b0 := eq_true c7
      have c7b1 : decide (0 ≤ (ji5)) = true := decide_eq_true c7
      clear c7
      by_cases c8 : (ji5) ≤ (ji6)
      · rw [if_pos c8] at H
        have c8b0 := eq_true c8
        have c8b1 : decide ((ji5) ≤ (ji6)) = true := decide_eq_true c8
        clear c8
        by_cases c9 : (ji6) ≤ (a0.size : Int)
        · rw [if_pos c9] at H
          have c9b0 := eq_true c9
          have c9b1 : decide ((ji6) ≤ (a0.size : Int)) = true := decide_eq_true c9
          clear c9
          replace H := Option.bind_eq_some_iff.mp H
          obtain ⟨t348, A100, H⟩ := H
          replace H : (some t348) = some r := H
          have A10 := Aside0.mk A100
          clear A100
          obtain rfl := Option.some.inj H
          go_enter Try.func36, Try.ntmps36
          go_wp2_with (first | ((with_reducible refine gate_callee (f := 55) rfl ?_); refine goesL_ (some 7) rfl rfl Try.func55 (by kernel_rfl) rfl #[.int .i64 a1, .int .i64 0, .int .i64 3] rfl (by (try simp only [List.map_toArray, List.map_cons, List.map_nil]); first | done | rfl | (simp only [List.length_drop, List.length_take]; rfl)) ?_; (with_reducible refine (impl_within.calls a1 0 3 true _ A3.out).mono ?_); rintro e w' ⟨rfl, ⟨nd, rfl⟩⟩; refine ⟨_, rfl, ?_⟩) | ((with_reducible refine gate_callee (f := 53) rfl ?_); refine goesL_ (some 22) rfl rfl Try.func53 (by kernel_rfl) rfl #[.string (a0.extract ((ji5) : Int).toNat ((ji6) : Int).toNat), .int .i64 32] rfl (by (try simp only [List.map_toArray, List.map_cons, List.map_nil]); first | done | (simp only [hji5, hji6]; rfl) | rfl | (simp only [List.length_drop, List.length_take]; rfl)) ?_; (with_reducible refine (impl_padded.calls (a0.extract ((ji5) : Int).toNat ((ji6) : Int).toNat) 32 t348 _ A10.out).mono ?_); rintro e w11 ⟨rfl, hb⟩; refine ⟨_, rfl, ?_⟩; have n0_ := Aside0.mk (below_step (by repeat (first | (with_reducible first | exact HB.out | apply below_alloc | apply pw_below_drewN | apply below_drew1) | exact HB.out)) hb); clear HB; have HB := n0_; clear n0_; (try clear hb); (try clear hb2); (try clear hk); (try clear hi)))
          go_ret
          exact ⟨by first | rfl | (simp [errW_none, errW_some] <;> rfl) | (simp only [← hji5, ← hji6]; first | rfl | (simp [errW_none, errW_some] <;> rfl)) | (simp [*, errW_none, errW_some] <;> rfl), by repeat (first | (with_reducible first | exact HB.out | apply below_alloc | apply pw_below_drewN | apply below_drew1) | exact HB.out)⟩
        · rw [if_neg c9] at H
          exact absurd H (by simp)
      · rw [if_neg c8] at H
        exact absurd H (by simp)
    · rw [if_neg c7] at H
      exact absurd H (by simp)
  · replace c4 := Bool.eq_false_iff.mpr c4
    subst c4
    have H1 : (some (⟨#[]⟩ : ByteArray)) = some r := by rw [if_neg (show ¬ (false = true) by decide)] at H; exact H
    clear H
    have H := H1
    clear H1
    obtain rfl := Option.some.inj H
    go_enter Try.func36, Try.ntmps36
    go_wp2_with (first | ((with_reducible refine gate_callee (f := 55) rfl ?_); refine goesL_ (some 7) rfl rfl Try.func55 (by kernel_rfl) rfl #[.int .i64 a1, .int .i64 0, .int .i64 3] rfl (by (try simp only [List.map_toArray, List.map_cons, List.map_nil]); first | done | rfl | (simp only [List.length_drop, List.length_take]; rfl)) ?_; (with_reducible refine (impl_within.calls a1 0 3 false _ A3.out).mono ?_); rintro e w' ⟨rfl, ⟨nd, rfl⟩⟩; refine ⟨_, rfl, ?_⟩))
    go_ret
    exact ⟨by first | rfl | (simp [errW_none, errW_some] <;> rfl) | (simp [*, errW_none, errW_some] <;> rfl), by repeat (first | (with_reducible first | exact HB.out | apply below_alloc | apply pw_below_drewN | apply below_drew1) | exact HB.out)⟩

/-! ### spec_TextCut: function 37 -/
def spec_TextCut.f (k : Nat) (a0 : ByteArray) (a1 : Int) : Option (ByteArray) := (spec_l01In.f a1 0 128).bind fun t349 => (if t349 = true then (if a1 ≤ (a0.size : Int) then (if 0 ≤ a1 then (some (a0.extract 0 (a1 : Int).toNat)) else (none)) else ((spec_ZeroText.f k (wrap64 (a1 - (a0.size : Int)))).bind fun t350 => (if a0.size + t350.size ≤ 9223372036854775807 then (some (a0 ++ t350)) else (none)))) else (some a0))
theorem spec_TextCut.mono : ∀ a0 a1 k, LeO (spec_TextCut.f k a0 a1) (spec_TextCut.f (k + 1) a0 a1) := by
  intro a0 a1 k
  unfold spec_TextCut.f
  repeat' first
      | (with_reducible exact spec_ZeroText.mono _ _)
      | (with_reducible exact LeO.refl _)
      | (with_reducible exact LeO.none _)
      | (with_reducible refine LeO.ite ?_ ?_)
      | (with_reducible refine LeO.bind ?_ (fun _ => ?_))
      | exact spec_ZeroText.mono _ _
      | exact LeO.none _
      | refine LeO.ite ?_ ?_
      | refine LeO.bind ?_ (fun _ => ?_)
set_option maxHeartbeats 8000000 in
set_option maxRecDepth 100000 in
theorem spec_TextCut.calls (k : Nat) (a0 : ByteArray) (a1 : Int) (r : ByteArray) (w : World) (h : spec_TextCut.f k a0 a1 = some r) :
    Calls Try.prog 37 #[.string a0, .int .i64 a1] w fun e w' => e = .returned (.string r) ∧ Below w.heap.size w w' := by
  have HB := Aside0.mk (Below.refl w.heap.size w)
  have H : ((spec_l01In.f a1 0 128).bind fun t349 => (if t349 = true then (if a1 ≤ (a0.size : Int) then (if 0 ≤ a1 then (some (a0.extract 0 (a1 : Int).toNat)) else (none)) else ((spec_ZeroText.f k (wrap64 (a1 - (a0.size : Int)))).bind fun t350 => (if a0.size + t350.size ≤ 9223372036854775807 then (some (a0 ++ t350)) else (none)))) else (some a0))) = some r := h
  clear h
  replace H := Option.bind_eq_some_iff.mp H
  obtain ⟨t349, A30, H⟩ := H
  replace H : (if t349 = true then (if a1 ≤ (a0.size : Int) then (if 0 ≤ a1 then (some (a0.extract 0 (a1 : Int).toNat)) else (none)) else ((spec_ZeroText.f k (wrap64 (a1 - (a0.size : Int)))).bind fun t350 => (if a0.size + t350.size ≤ 9223372036854775807 then (some (a0 ++ t350)) else (none)))) else (some a0)) = some r := H
  have A3 := Aside0.mk A30
  clear A30
  by_cases c4 : t349 = true
  · subst c4
    have H1 : (if a1 ≤ (a0.size : Int) then (if 0 ≤ a1 then (some (a0.extract 0 (a1 : Int).toNat)) else (none)) else ((spec_ZeroText.f k (wrap64 (a1 - (a0.size : Int)))).bind fun t350 => (if a0.size + t350.size ≤ 9223372036854775807 then (some (a0 ++ t350)) else (none)))) = some r := by rw [if_pos rfl] at H; exact H
    clear H
    have H := H1
    clear H1
    by_cases c5 : a1 ≤ (a0.size : Int)
    · rw [if_pos c5] at H
      have c5b0 : decide (a1 ≤ (a0.size : Int)) = true := decide_eq_true c5
      clear c5
      by_cases c6 : 0 ≤ a1
      · rw [if_pos c6] at H
        have c6b0 := eq_true c6
        have c6b1 : decide (0 ≤ a1) = true := decide_eq_true c6
        clear c6
        have c7b0 := eq_true (of_decide_eq_true (by first | (with_reducible assumption) | assumption) : a1 ≤ (a0.size : Int))
        obtain rfl := Option.some.inj H
        go_enter Try.func37, Try.ntmps37
        go_wp2_with (first | ((with_reducible refine gate_callee (f := 59) rfl ?_); refine goesL_ (some 6) rfl rfl Try.func59 (by kernel_rfl) rfl #[.int .i64 a1, .int .i64 0, .int .i64 128] rfl (by (try simp only [List.map_toArray, List.map_cons, List.map_nil]); first | done | rfl | (simp only [List.length_drop, List.length_take]; rfl)) ?_; (with_reducible refine (spec_l01In.calls a1 0 128 true _ A3.out).mono ?_); rintro e w' ⟨rfl, ⟨nd, rfl⟩⟩; refine ⟨_, rfl, ?_⟩))
        go_ret
        exact ⟨by first | rfl | (simp [errW_none, errW_some] <;> rfl) | (simp [*, errW_none, errW_some] <;> rfl), by repeat (first | (with_reducible first | exact HB.out | apply below_alloc | apply pw_below_drewN | apply below_drew1) | exact HB.out)⟩
      · rw [if_neg c6] at H
        exact absurd H (by simp)
    · rw [if_neg c5] at H
      have c5b0 : decide (a1 ≤ (a0.size : Int)) = false := decide_eq_false c5
      clear c5
      replace H := Option.bind_eq_some_iff.mp H
      obtain ⟨t350, A80, H⟩ := H
      replace H : (if a0.size + t350.size ≤ 9223372036854775807 then (some (a0 ++ t350)) else (none)) = some r := H
      have A8 := Aside0.mk A80
      clear A80
      by_cases c9 : a0.size + t350.size ≤ 9223372036854775807
      · rw [if_pos c9] at H
        have c9b0 := eq_true c9
        have c9b1 : decide (a0.size + t350.size ≤ 9223372036854775807) = true := decide_eq_true c9
        try have c9b2 : (9223372036854775807 < a0.size + t350.size) = False := eq_false (Nat.not_lt.2 c9)
        obtain rfl := Option.some.inj H
        go_enter Try.func37, Try.ntmps37
        go_wp2_with (first | ((with_reducible refine gate_callee (f := 59) rfl ?_); refine goesL_ (some 6) rfl rfl Try.func59 (by kernel_rfl) rfl #[.int .i64 a1, .int .i64 0, .int .i64 128] rfl (by (try simp only [List.map_toArray, List.map_cons, List.map_nil]); first | done | rfl | (simp only [List.length_drop, List.length_take]; rfl)) ?_; (with_reducible refine (spec_l01In.calls a1 0 128 true _ A3.out).mono ?_); rintro e w' ⟨rfl, ⟨nd, rfl⟩⟩; refine ⟨_, rfl, ?_⟩) | ((with_reducible refine gate_callee (f := 54) rfl ?_); refine goesL_ (some 21) rfl rfl Try.func54 (by kernel_rfl) rfl #[.int .i64 (wrap64 (a1 - (a0.size : Int)))] rfl (by (try simp only [List.map_toArray, List.map_cons, List.map_nil]); first | done | rfl | (simp only [List.length_drop, List.length_take]; rfl)) ?_; (with_reducible refine (spec_ZeroText.calls k (wrap64 (a1 - (a0.size : Int))) t350 _ A8.out).mono ?_); rintro e w10 ⟨rfl, hb⟩; refine ⟨_, rfl, ?_⟩; have n0_ := Aside0.mk (below_step (by repeat (first | (with_reducible first | exact HB.out | apply below_alloc | apply pw_below_drewN | apply below_drew1) | exact HB.out)) hb); clear HB; have HB := n0_; clear n0_; (try clear hb); (try clear hb2); (try clear hk); (try clear hi)))
        go_ret
        exact ⟨by first | rfl | (simp [errW_none, errW_some] <;> rfl) | (simp [*, errW_none, errW_some] <;> rfl), by repeat (first | (with_reducible first | exact HB.out | apply below_alloc | apply pw_below_drewN | apply below_drew1) | exact HB.out)⟩
      · rw [if_neg c9] at H
        exact absurd H (by simp)
  · replace c4 := Bool.eq_false_iff.mpr c4
    subst c4
    have H1 : (some a0) = some r := by rw [if_neg (show ¬ (false = true) by decide)] at H; exact H
    clear H
    have H := H1
    clear H1
    obtain rfl := Option.some.inj H
    go_enter Try.func37, Try.ntmps37
    go_wp2_with (first | ((with_reducible refine gate_callee (f := 59) rfl ?_); refine goesL_ (some 6) rfl rfl Try.func59 (by kernel_rfl) rfl #[.int .i64 a1, .int .i64 0, .int .i64 128] rfl (by (try simp only [List.map_toArray, List.map_cons, List.map_nil]); first | done | rfl | (simp only [List.length_drop, List.length_take]; rfl)) ?_; (with_reducible refine (spec_l01In.calls a1 0 128 false _ A3.out).mono ?_); rintro e w' ⟨rfl, ⟨nd, rfl⟩⟩; refine ⟨_, rfl, ?_⟩))
    go_ret
    exact ⟨by first | rfl | (simp [errW_none, errW_some] <;> rfl) | (simp [*, errW_none, errW_some] <;> rfl), by repeat (first | (with_reducible first | exact HB.out | apply below_alloc | apply pw_below_drewN | apply below_drew1) | exact HB.out)⟩

/-! ### spec_PageOf: function 38 -/
def spec_PageOf.f (k : Nat) (a0 : ByteArray) (a1 : Int) : Option (ByteArray) := (spec_l01In.f a1 0 3).bind fun t351 => (if t351 = true then (if (wrap64 (a1 * 32)) < (a0.size : Int) then (if 0 ≤ (wrap64 (a1 * 32)) then (if (wrap64 (a1 * 32)) ≤ (a0.size : Int) then ((some (a0.extract ((wrap64 (a1 * 32)) : Int).toNat a0.size : ByteArray)).bind fun y352 => (if (y352.size : Int) > 32 then (if 32 ≤ (y352.size : Int) then ((some (y352.extract 0 32 : ByteArray)).bind fun y353 => ((spec_ZeroText.f k (wrap64 (32 - (y353.size : Int)))).bind fun t354 => (if y353.size + t354.size ≤ 9223372036854775807 then ((some (y353 ++ t354 : ByteArray)).bind fun y355 => (some y355)) else (none)))) else (none)) else ((spec_ZeroText.f k (wrap64 (32 - (y352.size : Int)))).bind fun t356 => (if y352.size + t356.size ≤ 9223372036854775807 then ((some (y352 ++ t356 : ByteArray)).bind fun y357 => (some y357)) else (none))))) else (none)) else (none)) else ((spec_ZeroText.f k 32).bind fun t358 => (if t358.size ≤ 9223372036854775807 then ((some ((⟨#[]⟩ : ByteArray) ++ t358 : ByteArray)).bind fun y359 => (some y359)) else (none)))) else (some (⟨#[]⟩ : ByteArray)))
theorem spec_PageOf.mono : ∀ a0 a1 k, LeO (spec_PageOf.f k a0 a1) (spec_PageOf.f (k + 1) a0 a1) := by
  intro a0 a1 k
  unfold spec_PageOf.f
  repeat' first
      | (with_reducible exact spec_ZeroText.mono _ _)
      | (with_reducible exact LeO.refl _)
      | (with_reducible exact LeO.none _)
      | (with_reducible refine LeO.ite ?_ ?_)
      | (with_reducible refine LeO.bind ?_ (fun _ => ?_))
      | exact spec_ZeroText.mono _ _
      | exact LeO.none _
      | refine LeO.ite ?_ ?_
      | refine LeO.bind ?_ (fun _ => ?_)
set_option maxHeartbeats 8000000 in
set_option maxRecDepth 100000 in
theorem spec_PageOf.calls (k : Nat) (a0 : ByteArray) (a1 : Int) (r : ByteArray) (w : World) (h : spec_PageOf.f k a0 a1 = some r) :
    Calls Try.prog 38 #[.string a0, .int .i64 a1] w fun e w' => e = .returned (.string r) ∧ Below w.heap.size w w' := by
  have HB := Aside0.mk (Below.refl w.heap.size w)
  have H : ((spec_l01In.f a1 0 3).bind fun t351 => (if t351 = true then (if (wrap64 (a1 * 32)) < (a0.size : Int) then (if 0 ≤ (wrap64 (a1 * 32)) then (if (wrap64 (a1 * 32)) ≤ (a0.size : Int) then ((some (a0.extract ((wrap64 (a1 * 32)) : Int).toNat a0.size : ByteArray)).bind fun y352 => (if (y352.size : Int) > 32 then (if 32 ≤ (y352.size : Int) then ((some (y352.extract 0 32 : ByteArray)).bind fun y353 => ((spec_ZeroText.f k (wrap64 (32 - (y353.size : Int)))).bind fun t354 => (if y353.size + t354.size ≤ 9223372036854775807 then ((some (y353 ++ t354 : ByteArray)).bind fun y355 => (some y355)) else (none)))) else (none)) else ((spec_ZeroText.f k (wrap64 (32 - (y352.size : Int)))).bind fun t356 => (if y352.size + t356.size ≤ 9223372036854775807 then ((some (y352 ++ t356 : ByteArray)).bind fun y357 => (some y357)) else (none))))) else (none)) else (none)) else ((spec_ZeroText.f k 32).bind fun t358 => (if t358.size ≤ 9223372036854775807 then ((some ((⟨#[]⟩ : ByteArray) ++ t358 : ByteArray)).bind fun y359 => (some y359)) else (none)))) else (some (⟨#[]⟩ : ByteArray)))) = some r := h
  clear h
  replace H := Option.bind_eq_some_iff.mp H
  obtain ⟨t351, A30, H⟩ := H
  replace H : (if t351 = true then (if (wrap64 (a1 * 32)) < (a0.size : Int) then (if 0 ≤ (wrap64 (a1 * 32)) then (if (wrap64 (a1 * 32)) ≤ (a0.size : Int) then ((some (a0.extract ((wrap64 (a1 * 32)) : Int).toNat a0.size : ByteArray)).bind fun y352 => (if (y352.size : Int) > 32 then (if 32 ≤ (y352.size : Int) then ((some (y352.extract 0 32 : ByteArray)).bind fun y353 => ((spec_ZeroText.f k (wrap64 (32 - (y353.size : Int)))).bind fun t354 => (if y353.size + t354.size ≤ 9223372036854775807 then ((some (y353 ++ t354 : ByteArray)).bind fun y355 => (some y355)) else (none)))) else (none)) else ((spec_ZeroText.f k (wrap64 (32 - (y352.size : Int)))).bind fun t356 => (if y352.size + t356.size ≤ 9223372036854775807 then ((some (y352 ++ t356 : ByteArray)).bind fun y357 => (some y357)) else (none))))) else (none)) else (none)) else ((spec_ZeroText.f k 32).bind fun t358 => (if t358.size ≤ 9223372036854775807 then ((some ((⟨#[]⟩ : ByteArray) ++ t358 : ByteArray)).bind fun y359 => (some y359)) else (none)))) else (some (⟨#[]⟩ : ByteArray))) = some r := H
  have A3 := Aside0.mk A30
  clear A30
  by_cases c4 : t351 = true
  · subst c4
    have H1 : (if (wrap64 (a1 * 32)) < (a0.size : Int) then (if 0 ≤ (wrap64 (a1 * 32)) then (if (wrap64 (a1 * 32)) ≤ (a0.size : Int) then ((some (a0.extract ((wrap64 (a1 * 32)) : Int).toNat a0.size : ByteArray)).bind fun y352 => (if (y352.size : Int) > 32 then (if 32 ≤ (y352.size : Int) then ((some (y352.extract 0 32 : ByteArray)).bind fun y353 => ((spec_ZeroText.f k (wrap64 (32 - (y353.size : Int)))).bind fun t354 => (if y353.size + t354.size ≤ 9223372036854775807 then ((some (y353 ++ t354 : ByteArray)).bind fun y355 => (some y355)) else (none)))) else (none)) else ((spec_ZeroText.f k (wrap64 (32 - (y352.size : Int)))).bind fun t356 => (if y352.size + t356.size ≤ 9223372036854775807 then ((some (y352 ++ t356 : ByteArray)).bind fun y357 => (some y357)) else (none))))) else (none)) else (none)) else ((spec_ZeroText.f k 32).bind fun t358 => (if t358.size ≤ 9223372036854775807 then ((some ((⟨#[]⟩ : ByteArray) ++ t358 : ByteArray)).bind fun y359 => (some y359)) else (none)))) = some r := by rw [if_pos rfl] at H; exact H
    clear H
    have H := H1
    clear H1
    by_cases c5 : (wrap64 (a1 * 32)) < (a0.size : Int)
    · rw [if_pos c5] at H
      have c5b0 : decide ((wrap64 (a1 * 32)) < (a0.size : Int)) = true := decide_eq_true c5
      clear c5
      obtain ⟨ji6, hji6⟩ : ∃ j_ : Int, (wrap64 (a1 * 32)) = j_ := ⟨_, rfl⟩
      replace H : (if 0 ≤ (ji6) then (if (ji6) ≤ (a0.size : Int) then ((some (a0.extract ((ji6) : Int).toNat a0.size : ByteArray)).bind fun y352 => (if (y352.size : Int) > 32 then (if 32 ≤ (y352.size : Int) then ((some (y352.extract 0 32 : ByteArray)).bind fun y353 => ((spec_ZeroText.f k (wrap64 (32 - (y353.size : Int)))).bind fun t354 => (if y353.size + t354.size ≤ 9223372036854775807 then ((some (y353 ++ t354 : ByteArray)).bind fun y355 => (some y355)) else (none)))) else (none)) else ((spec_ZeroText.f k (wrap64 (32 - (y352.size : Int)))).bind fun t356 => (if y352.size + t356.size ≤ 9223372036854775807 then ((some (y352 ++ t356 : ByteArray)).bind fun y357 => (some y357)) else (none))))) else (none)) else (none)) = some r := by first | (rw [hji6] at H; exact H) | (simp only [hji6] at H ⊢; exact H)
      (try rw [hji6] at c5b0)
      (try rw [hji6] at A3)
      have hji6w : (IntKind.i64.wrap (a1 * 32)) = ji6 := (i64_w _).trans hji6
      by_cases c7 : 0 ≤ (ji6)
      · rw [if_pos c7] at H
        have c7b0 := eq_true c7
        have c7b1 : decide (0 ≤ (ji6)) = true := decide_eq_true c7
        clear c7
        by_cases c8 : (ji6) ≤ (a0.size : Int)
        · rw [if_pos c8] at H
          have c8b0 := eq_true c8
          have c8b1 : decide ((ji6) ≤ (a0.size : Int)) = true := decide_eq_true c8
          clear c8
          obtain ⟨y352, hy352⟩ : ∃ y_ : ByteArray, (a0.extract ((ji6) : Int).toNat a0.size) = y_ := ⟨_, rfl⟩
          replace H : (if (y352.size : Int) > 32 then (if 32 ≤ (y352.size : Int) then ((some (y352.extract 0 32 : ByteArray)).bind fun y353 => ((spec_ZeroText.f k (wrap64 (32 - (y353.size : Int)))).bind fun t354 => (if y353.size + t354.size ≤ 9223372036854775807 then ((some (y353 ++ t354 : ByteArray)).bind fun y355 => (some y355)) else (none)))) else (none)) else ((spec_ZeroText.f k (wrap64 (32 - (y352.size : Int)))).bind fun t356 => (if y352.size + t356.size ≤ 9223372036854775807 then ((some (y352 ++ t356 : ByteArray)).bind fun y357 => (some y357)) else (none)))) = some r := by rw [← hy352]; exact (Option.bind_some _ _).symm.trans H
          by_cases c9 : (y352.size : Int) > 32
          · rw [if_pos c9] at H
            have c9b0 : decide (32 < (y352.size : Int)) = true := decide_eq_true c9
            have c9b1 : decide (32 < y352.size) = true := decide_eq_true (by omega)
            clear c9
            by_cases c10 : 32 ≤ (y352.size : Int)
            · rw [if_pos c10] at H
              have c10b0 := eq_true c10
              have c10b1 : decide (32 ≤ (y352.size : Int)) = true := decide_eq_true c10
              clear c10
              obtain ⟨y353, hy353⟩ : ∃ y_ : ByteArray, (y352.extract 0 32) = y_ := ⟨_, rfl⟩
              replace H : ((spec_ZeroText.f k (wrap64 (32 - (y353.size : Int)))).bind fun t354 => (if y353.size + t354.size ≤ 9223372036854775807 then ((some (y353 ++ t354 : ByteArray)).bind fun y355 => (some y355)) else (none))) = some r := by rw [← hy353]; exact (Option.bind_some _ _).symm.trans H
              replace H := Option.bind_eq_some_iff.mp H
              obtain ⟨t354, A110, H⟩ := H
              replace H : (if y353.size + t354.size ≤ 9223372036854775807 then ((some (y353 ++ t354 : ByteArray)).bind fun y355 => (some y355)) else (none)) = some r := H
              have A11 := Aside0.mk A110
              clear A110
              by_cases c12 : y353.size + t354.size ≤ 9223372036854775807
              · rw [if_pos c12] at H
                have c12b0 := eq_true c12
                have c12b1 : decide (y353.size + t354.size ≤ 9223372036854775807) = true := decide_eq_true c12
                try have c12b2 : (9223372036854775807 < y353.size + t354.size) = False := eq_false (Nat.not_lt.2 c12)
                clear c12
                obtain ⟨y355, hy355⟩ : ∃ y_ : ByteArray, (y353 ++ t354) = y_ := ⟨_, rfl⟩
                replace H : (some y355) = some r := by rw [← hy355]; exact (Option.bind_some _ _).symm.trans H
                obtain rfl := Option.some.inj H
                go_enter Try.func38, Try.ntmps38
                go_wp2_with (first | ((with_reducible refine gate_callee (f := 59) rfl ?_); refine goesL_ (some 7) rfl rfl Try.func59 (by kernel_rfl) rfl #[.int .i64 a1, .int .i64 0, .int .i64 3] rfl (by (try simp only [List.map_toArray, List.map_cons, List.map_nil]); first | done | rfl | (simp only [List.length_drop, List.length_take]; rfl)) ?_; (with_reducible refine (spec_l01In.calls a1 0 3 true _ A3.out).mono ?_); rintro e w' ⟨rfl, ⟨nd, rfl⟩⟩; refine ⟨_, rfl, ?_⟩) | ((with_reducible refine gate_callee (f := 54) rfl ?_); refine goesL_ (some 27) rfl rfl Try.func54 (by kernel_rfl) rfl #[.int .i64 (wrap64 (32 - (y353.size : Int)))] rfl (by (try simp only [List.map_toArray, List.map_cons, List.map_nil]); first | done | rfl | (simp only [List.length_drop, List.length_take]; rfl)) ?_; (with_reducible refine (spec_ZeroText.calls k (wrap64 (32 - (y353.size : Int))) t354 _ A11.out).mono ?_); rintro e w13 ⟨rfl, hb⟩; refine ⟨_, rfl, ?_⟩; have n0_ := Aside0.mk (below_step (by repeat (first | (with_reducible first | exact HB.out | apply below_alloc | apply pw_below_drewN | apply below_drew1) | exact HB.out)) hb); clear HB; have HB := n0_; clear n0_; (try clear hb); (try clear hb2); (try clear hk); (try clear hi)))
                go_ret
                exact ⟨by first | rfl | (simp [errW_none, errW_some] <;> rfl) | (simp only [← hji6]; first | rfl | (simp [errW_none, errW_some] <;> rfl)) | (simp [*, errW_none, errW_some] <;> rfl), by repeat (first | (with_reducible first | exact HB.out | apply below_alloc | apply pw_below_drewN | apply below_drew1) | exact HB.out)⟩
              · rw [if_neg c12] at H
                exact absurd H (by simp)
            · rw [if_neg c10] at H
              exact absurd H (by simp)
          · rw [if_neg c9] at H
            have c9b0 : decide (32 < (y352.size : Int)) = false := decide_eq_false c9
            have c9b1 : decide (32 < y352.size) = false := decide_eq_false (by omega)
            clear c9
            replace H := Option.bind_eq_some_iff.mp H
            obtain ⟨t356, A140, H⟩ := H
            replace H : (if y352.size + t356.size ≤ 9223372036854775807 then ((some (y352 ++ t356 : ByteArray)).bind fun y357 => (some y357)) else (none)) = some r := H
            have A14 := Aside0.mk A140
            clear A140
            by_cases c15 : y352.size + t356.size ≤ 9223372036854775807
            · rw [if_pos c15] at H
              have c15b0 := eq_true c15
              have c15b1 : decide (y352.size + t356.size ≤ 9223372036854775807) = true := decide_eq_true c15
              try have c15b2 : (9223372036854775807 < y352.size + t356.size) = False := eq_false (Nat.not_lt.2 c15)
              clear c15
              obtain ⟨y357, hy357⟩ : ∃ y_ : ByteArray, (y352 ++ t356) = y_ := ⟨_, rfl⟩
              replace H : (some y357) = some r := by rw [← hy357]; exact (Option.bind_some _ _).symm.trans H
              obtain rfl := Option.some.inj H
              go_enter Try.func38, Try.ntmps38
              go_wp2_with (first | ((with_reducible refine gate_callee (f := 59) rfl ?_); refine goesL_ (some 7) rfl rfl Try.func59 (by kernel_rfl) rfl #[.int .i64 a1, .int .i64 0, .int .i64 3] rfl (by (try simp only [List.map_toArray, List.map_cons, List.map_nil]); first | done | rfl | (simp only [List.length_drop, List.length_take]; rfl)) ?_; (with_reducible refine (spec_l01In.calls a1 0 3 true _ A3.out).mono ?_); rintro e w' ⟨rfl, ⟨nd, rfl⟩⟩; refine ⟨_, rfl, ?_⟩) | ((with_reducible refine gate_callee (f := 54) rfl ?_); refine goesL_ (some 27) rfl rfl Try.func54 (by kernel_rfl) rfl #[.int .i64 (wrap64 (32 - (y352.size : Int)))] rfl (by (try simp only [List.map_toArray, List.map_cons, List.map_nil]); first | done | rfl | (simp only [List.length_drop, List.length_take]; rfl)) ?_; (with_reducible refine (spec_ZeroText.calls k (wrap64 (32 - (y352.size : Int))) t356 _ A14.out).mono ?_); rintro e w16 ⟨rfl, hb⟩; refine ⟨_, rfl, ?_⟩; have n0_ := Aside0.mk (below_step (by repeat (first | (with_reducible first | exact HB.out | apply below_alloc | apply pw_below_drewN | apply below_drew1) | exact HB.out)) hb); clear HB; have HB := n0_; clear n0_; (try clear hb); (try clear hb2); (try clear hk); (try clear hi)))
              go_ret
              exact ⟨by first | rfl | (simp [errW_none, errW_some] <;> rfl) | (simp only [← hji6]; first | rfl | (simp [errW_none, errW_some] <;> rfl)) | (simp [*, errW_none, errW_some] <;> rfl), by repeat (first | (with_reducible first | exact HB.out | apply below_alloc | apply pw_below_drewN | apply below_drew1) | exact HB.out)⟩
            · rw [if_neg c15] at H
              exact absurd H (by simp)
        · rw [if_neg c8] at H
          exact absurd H (by simp)
      · rw [if_neg c7] at H
        exact absurd H (by simp)
    · rw [if_neg c5] at H
      have c5b0 : decide ((wrap64 (a1 * 32)) < (a0.size : Int)) = false := decide_eq_false c5
      clear c5
      replace H := Option.bind_eq_some_iff.mp H
      obtain ⟨t358, A170, H⟩ := H
      replace H : (if t358.size ≤ 9223372036854775807 then ((some ((⟨#[]⟩ : ByteArray) ++ t358 : ByteArray)).bind fun y359 => (some y359)) else (none)) = some r := H
      have A17 := Aside0.mk A170
      clear A170
      by_cases c18 : t358.size ≤ 9223372036854775807
      · rw [if_pos c18] at H
        have c18b0 := eq_true c18
        have c18b1 : decide (t358.size ≤ 9223372036854775807) = true := decide_eq_true c18
        try have c18b2 : (9223372036854775807 < t358.size) = False := eq_false (Nat.not_lt.2 c18)
        clear c18
        obtain ⟨y359, hy359⟩ : ∃ y_ : ByteArray, ((⟨#[]⟩ : ByteArray) ++ t358) = y_ := ⟨_, rfl⟩
        replace H : (some y359) = some r := by rw [← hy359]; exact (Option.bind_some _ _).symm.trans H
        obtain rfl := Option.some.inj H
        go_enter Try.func38, Try.ntmps38
        go_wp2_with (first | ((with_reducible refine gate_callee (f := 59) rfl ?_); refine goesL_ (some 7) rfl rfl Try.func59 (by kernel_rfl) rfl #[.int .i64 a1, .int .i64 0, .int .i64 3] rfl (by (try simp only [List.map_toArray, List.map_cons, List.map_nil]); first | done | rfl | (simp only [List.length_drop, List.length_take]; rfl)) ?_; (with_reducible refine (spec_l01In.calls a1 0 3 true _ A3.out).mono ?_); rintro e w' ⟨rfl, ⟨nd, rfl⟩⟩; refine ⟨_, rfl, ?_⟩) | ((with_reducible refine gate_callee (f := 54) rfl ?_); refine goesL_ (some 27) rfl rfl Try.func54 (by kernel_rfl) rfl #[.int .i64 32] rfl (by (try simp only [List.map_toArray, List.map_cons, List.map_nil]); first | done | rfl | (simp only [List.length_drop, List.length_take]; rfl)) ?_; (with_reducible refine (spec_ZeroText.calls k 32 t358 _ A17.out).mono ?_); rintro e w19 ⟨rfl, hb⟩; refine ⟨_, rfl, ?_⟩; have n0_ := Aside0.mk (below_step (by repeat (first | (with_reducible first | exact HB.out | apply below_alloc | apply pw_below_drewN | apply below_drew1) | exact HB.out)) hb); clear HB; have HB := n0_; clear n0_; (try clear hb); (try clear hb2); (try clear hk); (try clear hi)))
        go_ret
        exact ⟨by first | rfl | (simp [errW_none, errW_some] <;> rfl) | (simp [*, errW_none, errW_some] <;> rfl), by repeat (first | (with_reducible first | exact HB.out | apply below_alloc | apply pw_below_drewN | apply below_drew1) | exact HB.out)⟩
      · rw [if_neg c18] at H
        exact absurd H (by simp)
  · replace c4 := Bool.eq_false_iff.mpr c4
    subst c4
    have H1 : (some (⟨#[]⟩ : ByteArray)) = some r := by rw [if_neg (show ¬ (false = true) by decide)] at H; exact H
    clear H
    have H := H1
    clear H1
    obtain rfl := Option.some.inj H
    go_enter Try.func38, Try.ntmps38
    go_wp2_with (first | ((with_reducible refine gate_callee (f := 59) rfl ?_); refine goesL_ (some 7) rfl rfl Try.func59 (by kernel_rfl) rfl #[.int .i64 a1, .int .i64 0, .int .i64 3] rfl (by (try simp only [List.map_toArray, List.map_cons, List.map_nil]); first | done | rfl | (simp only [List.length_drop, List.length_take]; rfl)) ?_; (with_reducible refine (spec_l01In.calls a1 0 3 false _ A3.out).mono ?_); rintro e w' ⟨rfl, ⟨nd, rfl⟩⟩; refine ⟨_, rfl, ?_⟩))
    go_ret
    exact ⟨by first | rfl | (simp [errW_none, errW_some] <;> rfl) | (simp [*, errW_none, errW_some] <;> rfl), by repeat (first | (with_reducible first | exact HB.out | apply below_alloc | apply pw_below_drewN | apply below_drew1) | exact HB.out)⟩

end Go.Proofs.Ytfgammfdaiicpaa.PFnTouched
