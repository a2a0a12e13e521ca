/- The pure statement of FnExactStatesOk is proved: for all arguments within the row's own bounds the Lean function that the law's walk comes to answers true. Conditions: none beyond these bounds. -/
import Derived.Test.YtdlinbemiilkmaaStFnExactStatesOk
import Derived.Test.YtdlinbemiilkmaaBase
namespace Go.Proofs.Ytdlinbemiilkmaa.Pure
open Go.RowKit Go.Proofs.Ytdlinbemiilkmaa.PFnExactStatesOk Go.Proofs.YtdlinbemiilkmaaW.PrintWords Go.Proofs.YtdlinbemiilkmaaW.PrintLast Go.Proofs.Ytdlinbemiilkmaa.Base
set_option linter.unusedVariables false
set_option linter.unusedSimpArgs false
/-! ### toints -/
theorem toIntS_l (xs : List Int) (hn : xs.length ≤ 4000000) : ∀ (i : Nat) (ys : List Int), i ≤ xs.length → ys.length = xs.length → ys.take i = xs.take i →
    Ev (fun k => laws_toIntS.l0 k xs ys i) xs
  | i, ys, hi, hl, ht => by
    refine Ev.step (laws_toIntS.l0.eq_2 _ _ _) ?_
    by_cases h : i < xs.length
    · refine ev_pos (by omega) (ev_pos (by omega) (ev_pos (by omega) ?_))
      rw [rd_at xs i h, w64s i (by omega), Int.toNat_natCast]
      exact toIntS_l xs hn (i + 1) _ (by omega) (by simp [hl]) (take_set hl ht h rfl)
    · have : i = xs.length := by omega
      subst this
      exact ev_neg (by omega) (ev_now (take_all hl ht))
  termination_by i => xs.length - i
theorem toIntS_ev (xs : List Int) (hn : xs.length ≤ 4000000) : Ev (fun k => laws_toIntS.f k xs) xs := by
  unfold laws_toIntS.f
  exact ev_pos (by omega) (ev_pos (by omega) (toIntS_l xs hn 0 _ (by omega) (by simp) (by simp)))


/-! ### ints -/
theorem eqIntS_l (xs : List Int) (hn : xs.length ≤ 4000000) : ∀ (i : Nat), i ≤ xs.length → Ev (fun k => laws_eqIntS.l0 k xs xs i) true
  | i, hi => by
    refine Ev.step (laws_eqIntS.l0.eq_2 _ _ _) ?_
    by_cases h : i < xs.length
    · refine ev_pos (by omega) (ev_pos (by omega) (ev_pos (by omega) (ev_pos rfl ?_)))
      rw [w64s i (by omega)]
      exact eqIntS_l xs hn (i + 1) (by omega)
    · exact ev_neg (by omega) (ev_now rfl)
  termination_by i => xs.length - i
theorem eqIntS_ev (xs : List Int) (hn : xs.length ≤ 4000000) : Ev (fun k => laws_eqIntS.f k xs xs) true := by
  unfold laws_eqIntS.f
  exact ev_pos rfl (eqIntS_l xs hn 0 (by omega))


/-! ### okl -/
def okL : List Int → Bool
  | [] => true
  | n :: r => decide (0 ≤ n ∧ n ≤ 2) && okL r
theorem okL_mem : ∀ {xs : List Int}, okL xs = true → ∀ n ∈ xs, 0 ≤ n ∧ n ≤ 2
  | [], _, n, h => by cases h
  | x :: r, ho, n, h => by
    simp only [okL, Bool.and_eq_true, decide_eq_true_eq] at ho
    rcases List.mem_cons.1 h with rfl | h
    · exact ho.1
    · exact okL_mem ho.2 n h
def stB (xs : List Int) (p : Int) : Bool := okL xs && (decide ((xs.length : Int) = p) && decide (1 ≤ p ∧ p ≤ 12))

/-! ### lin -/
theorem l01In_eq (a b c : Int) : spec_l01In.f a b c = some (decide (b ≤ a ∧ a ≤ c)) := by
  unfold spec_l01In.f
  by_cases h : a ≥ b
  · rw [if_pos h]; congr 1; simp; omega
  · rw [if_neg h]; congr 1; simp; omega

/-! ### statesok_s -/
theorem sStatesOk_l (xs : List Int) (p : Int) (hn : xs.length ≤ 4000000) : ∀ i : Nat, i ≤ xs.length → Ev (fun k => spec_StatesOk.l0 k xs p i) (okL (xs.drop i) && (decide ((xs.length : Int) = p) && decide (1 ≤ p ∧ p ≤ 12)))
  | i, hi => by
    refine Ev.step (spec_StatesOk.l0.eq_2 _ _ _) ?_
    by_cases h : i < xs.length
    · refine ev_pos (by omega) (ev_pos (by omega) (Ev.bind (ev_eq (l01In_eq _ _ _)) ?_))
      rw [rd_at _ i h, drop_at xs i h, w64s i (by omega)]
      simp only [okL]
      by_cases hv : 0 ≤ xs[i] ∧ xs[i] ≤ 2
      · rw [decide_eq_true hv]
        exact ev_pos rfl (ev_to (sStatesOk_l xs p hn (i + 1) (by omega)) (by simp))
      · rw [decide_eq_false hv]
        exact ev_neg (by simp) (ev_now (by simp))
    · refine ev_neg (by omega) ?_
      rw [List.drop_of_length_le (by omega)]
      by_cases hp : (xs.length : Int) = p
      · exact ev_pos hp (Ev.bind (ev_eq (l01In_eq _ _ _)) (ev_now (by simp [okL, hp])))
      · exact ev_neg hp (ev_now (by simp [hp]))
  termination_by i => xs.length - i
theorem sStatesOk_ev (xs : List Int) (p : Int) (hn : xs.length ≤ 4000000) : Ev (fun k => spec_StatesOk.f k xs p) (stB xs p) := by
  unfold spec_StatesOk.f
  have := sStatesOk_l xs p hn 0 (by omega)
  rw [List.drop_zero] at this
  exact this

/-! ### within -/
theorem within_eq (a b c : Int) : impl_within.f a b c = some (decide (b ≤ a ∧ a ≤ c)) := by
  unfold impl_within.f
  by_cases h : a ≥ b
  · rw [if_pos h]; congr 1; simp; omega
  · rw [if_neg h]; congr 1; simp; omega

/-! ### statesok_i -/
theorem iBad_l (xs : List Int) (hn : xs.length ≤ 4000000) : ∀ i : Nat, i ≤ xs.length → ∃ r : Int, Ev (fun k => slices_IndexFunc_int.l0 k xs xs.length i) r ∧ (okL (xs.drop i) = true → r = -1) ∧ (okL (xs.drop i) = false → 0 ≤ r)
  | i, hi => by
    by_cases h : i < xs.length
    · by_cases hv : 0 ≤ xs[i] ∧ xs[i] ≤ 2
      · obtain ⟨r, h1, h2, h3⟩ := iBad_l xs hn (i + 1) (by omega)
        refine ⟨r, ?_, ?_, ?_⟩
        · refine Ev.step (slices_IndexFunc_int.l0.eq_2 _ _ _) ?_
          refine ev_pos (by omega) (ev_pos (by omega) (ev_pos (by omega) ?_))
          rw [rd_at _ i h, w64s i (by omega)]
          refine Ev.bind (a := false) (by unfold impl_StatesOk_1.f; exact Ev.bind (ev_eq (within_eq _ _ _)) (ev_now (by rw [decide_eq_true hv]; rfl))) (ev_neg (by simp) h1)
        · rw [drop_at xs i h]; simp only [okL, decide_eq_true hv, Bool.true_and]; exact h2
        · rw [drop_at xs i h]; simp only [okL, decide_eq_true hv, Bool.true_and]; exact h3
      · refine ⟨i, ?_, ?_, ?_⟩
        · refine Ev.step (slices_IndexFunc_int.l0.eq_2 _ _ _) ?_
          refine ev_pos (by omega) (ev_pos (by omega) (ev_pos (by omega) ?_))
          rw [rd_at _ i h]
          refine Ev.bind (a := true) (by unfold impl_StatesOk_1.f; exact Ev.bind (ev_eq (within_eq _ _ _)) (ev_now (by rw [decide_eq_false hv]; rfl))) (ev_pos rfl (ev_now rfl))
        · rw [drop_at xs i h]; simp only [okL, decide_eq_false hv, Bool.false_and]; intro hc; cases hc
        · intro _; omega
    · refine ⟨-1, ?_, fun _ => rfl, ?_⟩
      · refine Ev.step (slices_IndexFunc_int.l0.eq_2 _ _ _) ?_
        exact ev_neg (by omega) (ev_now rfl)
      · rw [List.drop_of_length_le (by omega)]; intro hc; cases hc
  termination_by i => xs.length - i
theorem iStatesOk_ev (xs : List Int) (p : Int) (hn : xs.length ≤ 4000000) : Ev (fun k => impl_StatesOk.f k xs p) (stB xs p) := by
  obtain ⟨r, h1, h2, h3⟩ := iBad_l xs hn 0 (by omega)
  rw [List.drop_zero] at h2 h3
  unfold impl_StatesOk.f
  refine Ev.bind (ev_eq (within_eq _ _ _)) ?_
  unfold stB
  by_cases hp : 1 ≤ p ∧ p ≤ 12
  · refine ev_pos (by simpa using hp) ?_
    by_cases hl : (xs.length : Int) = p
    · refine ev_pos hl ?_
      refine Ev.bind (a := decide (r ≥ 0)) (by unfold slices_ContainsFunc_int.f slices_IndexFunc_int.f; exact Ev.bind h1 (ev_now rfl)) (ev_now ?_)
      cases ho : okL xs with
      | true => rw [h2 ho]; simp [hl, hp]
      | false => have := h3 ho; simp; omega
    · exact ev_neg hl (ev_now (by simp [hl]))
  · exact ev_neg (by simpa using hp) (ev_now (by rw [decide_eq_false hp]; simp))

/-! ### FnExactStatesOk -/
theorem FnExactStatesOk : laws_FnExactStatesOk.Law := by
  intro xs p hx _
  apply Ev.rounds
  unfold laws_FnExactStatesOk.f
  by_cases h : (xs.length : Int) > 1048576
  · exact ev_pos h (ev_now rfl)
  refine ev_neg h ?_
  repeat' first
    | (with_reducible exact ev_now rfl)
    | (with_reducible refine Ev.bind (toIntS_ev _ (by omega)) ?_)
    | (with_reducible refine Ev.bind (eqIntS_ev _ (by omega)) ?_)
    | (with_reducible refine Ev.bind (sStatesOk_ev _ _ (by omega)) ?_)
    | (with_reducible refine Ev.bind (iStatesOk_ev _ _ (by omega)) ?_)
    | (with_reducible refine ev_pos rfl ?_)
    | ((with_reducible refine ev_pos ?c_ ?_); (case c_ => first | rfl | omega | (dsimp only; omega) | (simp only [decide_eq_true_eq]; omega) | (simp; done)))
    | ((with_reducible refine ev_neg ?c_ ?_); (case c_ => first | rfl | omega | (dsimp only; omega) | (simp only [decide_eq_true_eq]; omega) | (simp; done)))
    | ((with_reducible refine ev_now ?c_); (case c_ => first | rfl | (simp; done)))

end Go.Proofs.Ytdlinbemiilkmaa.Pure
