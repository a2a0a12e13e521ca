/- The pure statement of FnExactFirstClean is proved: for all arguments within the row's own bounds the Lean function that the law's walk comes to answers true. Conditions: none beyond these bounds. -/
import Derived.Test.YtdlinbemiilkmaaStFnExactFirstClean
import Derived.Test.YtdlinbemiilkmaaBase
namespace Go.Proofs.Ytdlinbemiilkmaa.Pure
open Go.RowKit Go.Proofs.Ytdlinbemiilkmaa.PFnExactFirstClean Go.Proofs.YtdlinbemiilkmaaW.PrintWords Go.Proofs.YtdlinbemiilkmaaW.PrintLast Go.Proofs.Ytdlinbemiilkmaa.Base
set_option linter.unusedVariables false
set_option linter.unusedSimpArgs false
/-! ### toints -/
theorem toIntS_l (xs : List Int) (hn : xs.length ≤ 1048576) : ∀ (i : Nat) (ys : List Int), i ≤ xs.length → ys.length = xs.length → ys.take i = xs.take i →
    Ev (fun k => laws_toIntS.l0 k xs ys i) xs
  | i, ys, hi, hl, ht => by
    refine Ev.step (laws_toIntS.l0.eq_2 _ _ _) ?_
    by_cases h : i < xs.length
    · refine ev_pos (by omega) (ev_pos (by omega) (ev_pos (by omega) ?_))
      rw [rd_at xs i h, w64s i (by omega), Int.toNat_natCast]
      exact toIntS_l xs hn (i + 1) _ (by omega) (by simp [hl]) (take_set hl ht h rfl)
    · have : i = xs.length := by omega
      subst this
      exact ev_neg (by omega) (ev_now (take_all hl ht))
  termination_by i => xs.length - i
theorem toIntS_ev (xs : List Int) (hn : xs.length ≤ 1048576) : Ev (fun k => laws_toIntS.f k xs) xs := by
  unfold laws_toIntS.f
  exact ev_pos (by omega) (ev_pos (by omega) (toIntS_l xs hn 0 _ (by omega) (by simp) (by simp)))

/-! ### ints -/
theorem eqIntS_l (xs : List Int) (hn : xs.length ≤ 1048576) : ∀ (i : Nat), i ≤ xs.length → Ev (fun k => laws_eqIntS.l0 k xs xs i) true
  | i, hi => by
    refine Ev.step (laws_eqIntS.l0.eq_2 _ _ _) ?_
    by_cases h : i < xs.length
    · refine ev_pos (by omega) (ev_pos (by omega) (ev_pos (by omega) (ev_pos rfl ?_)))
      rw [w64s i (by omega)]
      exact eqIntS_l xs hn (i + 1) (by omega)
    · exact ev_neg (by omega) (ev_now rfl)
  termination_by i => xs.length - i
theorem eqIntS_ev (xs : List Int) (hn : xs.length ≤ 1048576) : Ev (fun k => laws_eqIntS.f k xs xs) true := by
  unfold laws_eqIntS.f
  exact ev_pos rfl (eqIntS_l xs hn 0 (by omega))

/-! ### markints -/
def marks (a n : Nat) : List Int := (List.range' a n).map (fun j : Nat => (j : Int))
theorem marks_len (a n : Nat) : (marks a n).length = n := by simp [marks]
theorem markIntS_l (n a : Nat) (hn : n ≤ 1048576) (ha : a ≤ 4000000000000) : ∀ (i : Nat) (ys : List Int), i ≤ n → ys.length = n →
    Ev (fun k => laws_markIntS.l0 k ys ((a + i : Nat) : Int) i) (((a + n : Nat) : Int), ys.take i ++ marks (a + i) (n - i))
  | i, ys, hi, hl => by
    refine Ev.step (laws_markIntS.l0.eq_2 _ _ _) ?_
    by_cases h : i < n
    · refine ev_pos (by omega) (ev_pos (by omega) ?_)
      rw [w64s i (by omega), w64s (a + i) (by omega), Int.toNat_natCast]
      refine ev_to (markIntS_l n a hn ha (i + 1) (ys.set i _) (by omega) (by simp [hl])) ?_
      congr 1
      rw [List.take_succ_eq_append_getElem (by simp; omega)]
      simp only [List.getElem_set_self, List.append_assoc, List.take_set_of_le (Nat.le_refl i)]
      congr 1
      unfold marks
      rw [show n - i = (n - (i + 1)) + 1 by omega, List.range'_succ]
      simp [Nat.add_assoc]
    · have : i = n := by omega
      subst this
      refine ev_neg (by omega) (ev_now ?_)
      simp [marks, ← hl]
  termination_by i => n - i
theorem markIntS_ev (xs : List Int) (a : Nat) (hn : xs.length ≤ 1048576) (ha : a ≤ 4000000000000) : Ev (fun k => laws_markIntS.f k xs (a : Int)) (((a + xs.length : Nat) : Int), marks a xs.length) := by
  unfold laws_markIntS.f
  have := markIntS_l xs.length a hn ha 0 xs (by omega) rfl
  simpa using this
theorem heldIntS_l (n a : Nat) (hn : n ≤ 1048576) (ha : a ≤ 4000000000000) : ∀ (i : Nat), i ≤ n → Ev (fun k => laws_heldIntS.l0 k (marks a n) ((a + i : Nat) : Int) i) ((a + n : Nat) : Int)
  | i, hi => by
    refine Ev.step (laws_heldIntS.l0.eq_2 _ _ _) ?_
    have hl := marks_len a n
    by_cases h : i < n
    · refine ev_pos (by omega) (ev_pos (by omega) (ev_pos ?_ ?_))
      · rw [rd_at _ i (by omega)]
        simp [marks]
      · rw [w64s i (by omega), w64s (a + i) (by omega)]
        exact heldIntS_l n a hn ha (i + 1) (by omega)
    · have : i = n := by omega
      subst this
      exact ev_neg (by omega) (ev_now rfl)
  termination_by i => n - i
theorem heldIntS_ev (n a : Nat) (hn : n ≤ 1048576) (ha : a ≤ 4000000000000) : Ev (fun k => laws_heldIntS.f k (marks a n) (a : Int)) ((a + n : Nat) : Int) := by
  unfold laws_heldIntS.f
  have := heldIntS_l n a hn ha 0 (by omega)
  simpa using this

/-! ### lin -/
theorem l01In_eq (a b c : Int) : spec_l01In.f a b c = some (decide (b ≤ a ∧ a ≤ c)) := by
  unfold spec_l01In.f
  by_cases h : a ≥ b
  · rw [if_pos h]; congr 1; simp; omega
  · rw [if_neg h]; congr 1; simp; omega
theorem within_eq (a b c : Int) : impl_within.f a b c = some (decide (b ≤ a ∧ a ≤ c)) := by
  unfold impl_within.f
  by_cases h : a ≥ b
  · rw [if_pos h]; congr 1; simp; omega
  · rw [if_neg h]; congr 1; simp; omega

/-! ### clone_int -/
theorem clone_int_eq (xs : List Int) (h : xs.length ≤ 1048576) : slices_Clone_int.f xs = some xs := by unfold slices_Clone_int.f; rw [if_pos (by omega)]

/-! ### pageswith -/
def withS (a : Int) (xs : List Int) (i : Nat) : List Int := match xs with
  | [] => []
  | x :: r => if x = a then (i : Int) :: withS a r (i + 1) else withS a r (i + 1)
theorem withS_len (a : Int) (xs : List Int) : ∀ i, (withS a xs i).length ≤ xs.length := by
  induction xs with
  | nil => intro i; simp [withS]
  | cons x r ih => intro i; simp only [withS]; split <;> simp <;> have := ih (i + 1) <;> omega
theorem sPagesWith_l (xs : List Int) (a : Int) (hn : xs.length ≤ 1048576) : ∀ (i : Nat) (o : List Int), i ≤ xs.length → o.length ≤ i → Ev (fun k => spec_PagesWith.l0 k xs a o i) (o ++ withS a (xs.drop i) i)
  | i, o, hi, ho => by
    refine Ev.step (spec_PagesWith.l0.eq_2 _ _ _ _) ?_
    by_cases h : i < xs.length
    · refine ev_pos (by omega) (ev_pos (by omega) ?_)
      rw [rd_at xs i h, w64s i (by omega), drop_at xs i h]
      simp only [withS]
      by_cases he : xs[i] = a
      · rw [if_pos he]
        exact ev_pos he (ev_pos (by omega) (ev_to (sPagesWith_l xs a hn (i + 1) _ (by omega) (by simp; omega)) (by simp)))
      · rw [if_neg he]
        exact ev_neg he (sPagesWith_l xs a hn (i + 1) _ (by omega) (by omega))
    · refine ev_neg (by omega) (ev_now ?_)
      rw [List.drop_of_length_le (by omega)]; simp [withS]
  termination_by i => xs.length - i
theorem iPagesWith_l (xs : List Int) (a : Int) (hn : xs.length ≤ 1048576) : ∀ (i : Nat) (o : List Int), i ≤ xs.length → o.length ≤ i → Ev (fun k => impl_PagesWith.l0 k a o xs xs.length i) (o ++ withS a (xs.drop i) i)
  | i, o, hi, ho => by
    refine Ev.step (impl_PagesWith.l0.eq_2 _ _ _ _ _) ?_
    by_cases h : i < xs.length
    · refine ev_pos (by omega) (ev_pos (by omega) (ev_pos (by omega) ?_))
      rw [rd_at xs i h, w64s i (by omega), drop_at xs i h]
      simp only [withS]
      by_cases he : xs[i] = a
      · rw [if_pos he]
        exact ev_pos he (ev_pos (by omega) (ev_to (iPagesWith_l xs a hn (i + 1) _ (by omega) (by simp; omega)) (by simp)))
      · rw [if_neg he]
        exact ev_neg he (iPagesWith_l xs a hn (i + 1) _ (by omega) (by omega))
    · refine ev_neg (by omega) (ev_now ?_)
      rw [List.drop_of_length_le (by omega)]; simp [withS]
  termination_by i => xs.length - i
theorem sPagesWith_ev (xs : List Int) (a : Int) (hn : xs.length ≤ 1048576) : Ev (fun k => spec_PagesWith.f k xs a) (withS a xs 0) := by
  unfold spec_PagesWith.f
  simpa using sPagesWith_l xs a hn 0 [] (by omega) (by simp)
theorem iPagesWith_ev (xs : List Int) (a : Int) (hn : xs.length ≤ 1048576) : Ev (fun k => impl_PagesWith.f k xs a) (withS a xs 0) := by
  unfold impl_PagesWith.f
  simpa using iPagesWith_l xs a hn 0 [] (by omega) (by simp)

/-! ### firstclean -/
def fcl (xs : List Int) (n : Int) : List Int × Bool := if 0 ≤ n ∧ n ≤ ((withS 0 xs 0).length : Int) then ((withS 0 xs 0).take n.toNat, true) else ([], false)
theorem fcl_len (xs : List Int) (n : Int) : (fcl xs n).1.length ≤ xs.length := by
  have := withS_len 0 xs 0
  unfold fcl
  split
  · simp; omega
  · simp
theorem sFirst_ev (xs : List Int) (n : Int) (hn : xs.length ≤ 1048576) : Ev (fun k => spec_FirstClean.f k xs n) (fcl xs n) := by
  unfold spec_FirstClean.f fcl
  have hw := withS_len 0 xs 0
  refine Ev.bind (sPagesWith_ev xs 0 hn) (Ev.bind (ev_eq (l01In_eq _ _ _)) ?_)
  by_cases h : 0 ≤ n ∧ n ≤ ((withS 0 xs 0).length : Int)
  · rw [if_pos h]
    refine ev_pos (by simpa using h) (Ev.bind (Ev.now _) (ev_pos (by omega) (ev_pos (by omega) (Ev.bind (Ev.now _) (ev_pos (by simp; omega) (ev_now (by simp)))))))
  · rw [if_neg h]
    exact ev_neg (by simpa using h) (ev_now rfl)
theorem iFirst_ev (xs : List Int) (n : Int) (hn : xs.length ≤ 1048576) : Ev (fun k => impl_FirstClean.f k xs n) (fcl xs n) := by
  unfold impl_FirstClean.f fcl
  have hw := withS_len 0 xs 0
  refine Ev.bind (iPagesWith_ev xs 0 hn) (Ev.bind (ev_eq (within_eq _ _ _)) ?_)
  by_cases h : 0 ≤ n ∧ n ≤ ((withS 0 xs 0).length : Int)
  · rw [if_pos h]
    exact ev_pos (by simpa using h) (ev_pos (by omega) (ev_pos (by omega) (Ev.bind (ev_eq (clone_int_eq _ (by simp; omega))) (ev_now rfl))))
  · rw [if_neg h]
    exact ev_neg (by simpa using h) (ev_now rfl)

/-! ### FnExactFirstClean -/
theorem FnExactFirstClean : laws_FnExactFirstClean.Law := by
  intro xs n hx _
  apply Ev.rounds
  unfold laws_FnExactFirstClean.f
  by_cases h : (xs.length : Int) > 1048576
  · exact ev_pos h (ev_now rfl)
  refine ev_neg h ?_
  have hs := fcl_len xs n
  repeat' first
    | (with_reducible exact ev_now rfl)
    | (with_reducible refine Ev.bind (toIntS_ev _ (by omega)) ?_)
    | (with_reducible refine Ev.bind (eqIntS_ev _ (by omega)) ?_)
    | (with_reducible refine Ev.bind (sFirst_ev _ _ (by omega)) ?_)
    | (with_reducible refine Ev.bind (iFirst_ev _ _ (by omega)) ?_)
    | (with_reducible refine Ev.bind (markIntS_ev _ 1 (by omega) (by omega)) ?_)
    | (with_reducible refine Ev.bind (heldIntS_ev _ 1 (by omega) (by omega)) ?_)
    | (with_reducible refine ev_pos rfl ?_)
    | ((with_reducible refine ev_pos ?c_ ?_); (case c_ => first | rfl | omega | (dsimp only; omega) | (simp only [decide_eq_true_eq]; omega) | (simp; done)))
    | ((with_reducible refine ev_neg ?c_ ?_); (case c_ => first | rfl | omega | (dsimp only; omega) | (simp only [decide_eq_true_eq]; omega) | (simp; done)))
    | (refine Ev.step (laws_FnExactFirstClean.j0.eq_2 _ _ _ _ _ _ _ _) ?_)
    | (refine Ev.step (laws_FnExactFirstClean.j1.eq_2 _ _ _ _ _ _) ?_)
    | (refine Ev.step (laws_FnExactFirstClean.j2.eq_2 _ _ _) ?_)
    | ((with_reducible refine ev_now ?c_); (case c_ => first | rfl | (simp; done)))

end Go.Proofs.Ytdlinbemiilkmaa.Pure
