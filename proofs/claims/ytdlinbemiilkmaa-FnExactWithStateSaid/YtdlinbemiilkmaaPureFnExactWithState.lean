/- The pure statement of FnExactWithState is proved: for all arguments within the row's own bounds the Lean function that the law's walk comes to answers true. Conditions: none beyond these bounds. -/
import Derived.Test.YtdlinbemiilkmaaStFnExactWithState
import Derived.Test.YtdlinbemiilkmaaBase
namespace Go.Proofs.Ytdlinbemiilkmaa.Pure
open Go.RowKit Go.Proofs.Ytdlinbemiilkmaa.PFnExactWithState Go.Proofs.YtdlinbemiilkmaaW.PrintWords Go.Proofs.YtdlinbemiilkmaaW.PrintLast Go.Proofs.Ytdlinbemiilkmaa.Base
set_option linter.unusedVariables false
set_option linter.unusedSimpArgs false
/-! ### toints -/
theorem toIntS_l (xs : List Int) (hn : xs.length ≤ 1048576) : ∀ (i : Nat) (ys : List Int), i ≤ xs.length → ys.length = xs.length → ys.take i = xs.take i →
    Ev (fun k => laws_toIntS.l0 k xs ys i) xs
  | i, ys, hi, hl, ht => by
    refine Ev.step (laws_toIntS.l0.eq_2 _ _ _) ?_
    by_cases h : i < xs.length
    · refine ev_pos (by omega) (ev_pos (by omega) (ev_pos (by omega) ?_))
      rw [rd_at xs i h, w64s i (by omega), Int.toNat_natCast]
      exact toIntS_l xs hn (i + 1) _ (by omega) (by simp [hl]) (take_set hl ht h rfl)
    · have : i = xs.length := by omega
      subst this
      exact ev_neg (by omega) (ev_now (take_all hl ht))
  termination_by i => xs.length - i
theorem toIntS_ev (xs : List Int) (hn : xs.length ≤ 1048576) : Ev (fun k => laws_toIntS.f k xs) xs := by
  unfold laws_toIntS.f
  exact ev_pos (by omega) (ev_pos (by omega) (toIntS_l xs hn 0 _ (by omega) (by simp) (by simp)))

/-! ### ints -/
theorem eqIntS_l (xs : List Int) (hn : xs.length ≤ 1048576) : ∀ (i : Nat), i ≤ xs.length → Ev (fun k => laws_eqIntS.l0 k xs xs i) true
  | i, hi => by
    refine Ev.step (laws_eqIntS.l0.eq_2 _ _ _) ?_
    by_cases h : i < xs.length
    · refine ev_pos (by omega) (ev_pos (by omega) (ev_pos (by omega) (ev_pos rfl ?_)))
      rw [w64s i (by omega)]
      exact eqIntS_l xs hn (i + 1) (by omega)
    · exact ev_neg (by omega) (ev_now rfl)
  termination_by i => xs.length - i
theorem eqIntS_ev (xs : List Int) (hn : xs.length ≤ 1048576) : Ev (fun k => laws_eqIntS.f k xs xs) true := by
  unfold laws_eqIntS.f
  exact ev_pos rfl (eqIntS_l xs hn 0 (by omega))

/-! ### markints -/
def marks (a n : Nat) : List Int := (List.range' a n).map (fun j : Nat => (j : Int))
theorem marks_len (a n : Nat) : (marks a n).length = n := by simp [marks]
theorem markIntS_l (n a : Nat) (hn : n ≤ 1048576) (ha : a ≤ 4000000000000) : ∀ (i : Nat) (ys : List Int), i ≤ n → ys.length = n →
    Ev (fun k => laws_markIntS.l0 k ys ((a + i : Nat) : Int) i) (((a + n : Nat) : Int), ys.take i ++ marks (a + i) (n - i))
  | i, ys, hi, hl => by
    refine Ev.step (laws_markIntS.l0.eq_2 _ _ _) ?_
    by_cases h : i < n
    · refine ev_pos (by omega) (ev_pos (by omega) ?_)
      rw [w64s i (by omega), w64s (a + i) (by omega), Int.toNat_natCast]
      refine ev_to (markIntS_l n a hn ha (i + 1) (ys.set i _) (by omega) (by simp [hl])) ?_
      congr 1
      rw [List.take_succ_eq_append_getElem (by simp; omega)]
      simp only [List.getElem_set_self, List.append_assoc, List.take_set_of_le (Nat.le_refl i)]
      congr 1
      unfold marks
      rw [show n - i = (n - (i + 1)) + 1 by omega, List.range'_succ]
      simp [Nat.add_assoc]
    · have : i = n := by omega
      subst this
      refine ev_neg (by omega) (ev_now ?_)
      simp [marks, ← hl]
  termination_by i => n - i
theorem markIntS_ev (xs : List Int) (a : Nat) (hn : xs.length ≤ 1048576) (ha : a ≤ 4000000000000) : Ev (fun k => laws_markIntS.f k xs (a : Int)) (((a + xs.length : Nat) : Int), marks a xs.length) := by
  unfold laws_markIntS.f
  have := markIntS_l xs.length a hn ha 0 xs (by omega) rfl
  simpa using this
theorem heldIntS_l (n a : Nat) (hn : n ≤ 1048576) (ha : a ≤ 4000000000000) : ∀ (i : Nat), i ≤ n → Ev (fun k => laws_heldIntS.l0 k (marks a n) ((a + i : Nat) : Int) i) ((a + n : Nat) : Int)
  | i, hi => by
    refine Ev.step (laws_heldIntS.l0.eq_2 _ _ _) ?_
    have hl := marks_len a n
    by_cases h : i < n
    · refine ev_pos (by omega) (ev_pos (by omega) (ev_pos ?_ ?_))
      · rw [rd_at _ i (by omega)]
        simp [marks]
      · rw [w64s i (by omega), w64s (a + i) (by omega)]
        exact heldIntS_l n a hn ha (i + 1) (by omega)
    · have : i = n := by omega
      subst this
      exact ev_neg (by omega) (ev_now rfl)
  termination_by i => n - i
theorem heldIntS_ev (n a : Nat) (hn : n ≤ 1048576) (ha : a ≤ 4000000000000) : Ev (fun k => laws_heldIntS.f k (marks a n) (a : Int)) ((a + n : Nat) : Int) := by
  unfold laws_heldIntS.f
  have := heldIntS_l n a hn ha 0 (by omega)
  simpa using this

/-! ### lin -/
theorem l01In_eq (a b c : Int) : spec_l01In.f a b c = some (decide (b ≤ a ∧ a ≤ c)) := by
  unfold spec_l01In.f
  by_cases h : a ≥ b
  · rw [if_pos h]; congr 1; simp; omega
  · rw [if_neg h]; congr 1; simp; omega
theorem within_eq (a b c : Int) : impl_within.f a b c = some (decide (b ≤ a ∧ a ≤ c)) := by
  unfold impl_within.f
  by_cases h : a ≥ b
  · rw [if_pos h]; congr 1; simp; omega
  · rw [if_neg h]; congr 1; simp; omega

/-! ### clone_int -/
theorem clone_int_eq (xs : List Int) (h : xs.length ≤ 1048576) : slices_Clone_int.f xs = some xs := by unfold slices_Clone_int.f; rw [if_pos (by omega)]

/-! ### withstate -/
def setAll (st : Int) : List Int → List Int → List Int
  | [], o => o
  | p :: r, o => setAll st r (if 0 ≤ p ∧ p ≤ (o.length : Int) - 1 then o.set p.toNat st else o)
theorem setAll_len (st : Int) (ps : List Int) : ∀ o : List Int, (setAll st ps o).length = o.length := by
  induction ps with
  | nil => intro o; rfl
  | cons p r ih => intro o; simp only [setAll]; rw [ih]; split <;> simp
theorem sWith_l (ps : List Int) (st : Int) (hn : ps.length ≤ 1048576) : ∀ (i : Nat) (o : List Int), i ≤ ps.length → o.length ≤ 1048576 → Ev (fun k => spec_WithState.l0 k ps st o i) (setAll st (ps.drop i) o)
  | i, o, hi, ho => by
    refine Ev.step (spec_WithState.l0.eq_2 _ _ _ _) ?_
    by_cases h : i < ps.length
    · refine ev_pos (by omega) (ev_pos (by omega) ?_)
      rw [rd_at ps i h, w64s i (by omega), w64 (x := (o.length : Int) - 1) (by omega) (by omega), drop_at ps i h]
      refine Ev.bind (ev_eq (l01In_eq _ _ _)) ?_
      simp only [setAll]
      by_cases hp : 0 ≤ ps[i] ∧ ps[i] ≤ (o.length : Int) - 1
      · rw [if_pos hp]
        exact ev_pos (by simpa using hp) (ev_pos (by omega) (ev_pos (by omega) (sWith_l ps st hn (i + 1) _ (by omega) (by simpa using ho))))
      · rw [if_neg hp]
        exact ev_neg (by simpa using hp) (sWith_l ps st hn (i + 1) _ (by omega) ho)
    · refine ev_neg (by omega) (ev_now ?_)
      rw [List.drop_of_length_le (by omega)]; rfl
  termination_by i => ps.length - i
theorem iWith_l (ps : List Int) (st : Int) (hn : ps.length ≤ 1048576) : ∀ (i : Nat) (o : List Int), i ≤ ps.length → o.length ≤ 1048576 → Ev (fun k => impl_WithState.l0 k st o ps ps.length i) (setAll st (ps.drop i) o)
  | i, o, hi, ho => by
    refine Ev.step (impl_WithState.l0.eq_2 _ _ _ _ _) ?_
    by_cases h : i < ps.length
    · refine ev_pos (by omega) (ev_pos (by omega) (ev_pos (by omega) ?_))
      rw [rd_at ps i h, w64s i (by omega), w64 (x := (o.length : Int) - 1) (by omega) (by omega), drop_at ps i h]
      refine Ev.bind (ev_eq (within_eq _ _ _)) ?_
      simp only [setAll]
      by_cases hp : 0 ≤ ps[i] ∧ ps[i] ≤ (o.length : Int) - 1
      · rw [if_pos hp]
        exact ev_pos (by simpa using hp) (ev_pos (by omega) (ev_pos (by omega) (iWith_l ps st hn (i + 1) _ (by omega) (by simpa using ho))))
      · rw [if_neg hp]
        exact ev_neg (by simpa using hp) (iWith_l ps st hn (i + 1) _ (by omega) ho)
    · refine ev_neg (by omega) (ev_now ?_)
      rw [List.drop_of_length_le (by omega)]; rfl
  termination_by i => ps.length - i
theorem sWith_ev (xs ps : List Int) (st : Int) (hx : xs.length ≤ 1048576) (hn : ps.length ≤ 1048576) : Ev (fun k => spec_WithState.f k xs ps st) (setAll st ps xs) := by
  unfold spec_WithState.f
  exact Ev.bind (Ev.now _) (ev_pos (by simp; omega) (by simpa using sWith_l ps st hn 0 xs (by omega) hx))
theorem iWith_ev (xs ps : List Int) (st : Int) (hx : xs.length ≤ 1048576) (hn : ps.length ≤ 1048576) : Ev (fun k => impl_WithState.f k xs ps st) (setAll st ps xs) := by
  unfold impl_WithState.f
  exact Ev.bind (ev_eq (clone_int_eq xs hx)) (by simpa using iWith_l ps st hn 0 xs (by omega) hx)

/-! ### FnExactWithState -/
theorem FnExactWithState : laws_FnExactWithState.Law := by
  intro xs ps st hx hp _
  apply Ev.rounds
  unfold laws_FnExactWithState.f
  by_cases h : (xs.length : Int) > 1048576
  · exact ev_pos h (ev_now rfl)
  refine ev_neg h ?_
  by_cases h2 : (ps.length : Int) > 1048576
  · exact ev_pos h2 (ev_now rfl)
  refine ev_neg h2 ?_
  have hs := setAll_len st ps xs
  repeat' first
    | (with_reducible exact ev_now rfl)
    | (with_reducible refine Ev.bind (toIntS_ev _ (by omega)) ?_)
    | (with_reducible refine Ev.bind (eqIntS_ev _ (by omega)) ?_)
    | (with_reducible refine Ev.bind (sWith_ev _ _ _ (by omega) (by omega)) ?_)
    | (with_reducible refine Ev.bind (iWith_ev _ _ _ (by omega) (by omega)) ?_)
    | (with_reducible refine Ev.bind (markIntS_ev _ 1 (by omega) (by omega)) ?_)
    | (with_reducible refine Ev.bind (markIntS_ev _ _ (by omega) (by omega)) ?_)
    | (with_reducible refine Ev.bind (heldIntS_ev _ 1 (by omega) (by omega)) ?_)
    | (with_reducible refine ev_pos rfl ?_)
    | ((with_reducible refine ev_pos ?c_ ?_); (case c_ => first | rfl | omega | (dsimp only; omega) | (simp only [decide_eq_true_eq]; omega) | (simp; done)))
    | ((with_reducible refine ev_neg ?c_ ?_); (case c_ => first | rfl | omega | (dsimp only; omega) | (simp only [decide_eq_true_eq]; omega) | (simp; done)))
    | (refine Ev.step (laws_FnExactWithState.j0.eq_2 _ _ _ _ _ _) ?_)
    | ((with_reducible refine ev_now ?c_); (case c_ => first | rfl | (simp; done)))

end Go.Proofs.Ytdlinbemiilkmaa.Pure
