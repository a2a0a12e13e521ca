/- The pure statement of FnExactJoinPath is proved: for all arguments within the row's own bounds the Lean function that the law's walk comes to answers true. Conditions: none beyond these bounds. -/
import Derived.Test.YtdlinbemiilkmaaStFnExactJoinPath
import Derived.Test.YtdlinbemiilkmaaBase
namespace Go.Proofs.Ytdlinbemiilkmaa.Pure
open Go.RowKit Go.Proofs.Ytdlinbemiilkmaa.PFnExactJoinPath Go.Proofs.YtdlinbemiilkmaaW.PrintWords Go.Proofs.YtdlinbemiilkmaaW.PrintLast Go.Proofs.Ytdlinbemiilkmaa.Base
set_option linter.unusedVariables false
set_option linter.unusedSimpArgs false
/-! ### szstrings -/
def wtS (s : ByteArray) : Nat := s.size
def wtSS (xs : List ByteArray) : Nat := xs.length + sumBy wtS xs
theorem rd_str (xs : List ByteArray) (i : Nat) (h : i < xs.length) : rdOf ByteArray.empty xs (i : Int) = xs[i] := rdOf_at _ xs i h
theorem szStringS_l (xs : List ByteArray) (hn : xs.length ≤ 1048576) (hw : ∀ y ∈ xs, y.size ≤ 140737488351232) : ∀ (i : Nat) (a : Int), i ≤ xs.length → 0 ≤ a → a ≤ 1048576 →
    Ev (fun k => laws_szStringS.l0 k xs a i) (left a (sumBy wtS (xs.drop i)))
  | i, a, hi, h0, h1 => by
    refine Ev.step (laws_szStringS.l0.eq_2 _ _ _) ?_
    by_cases h : i < xs.length
    · refine ev_pos (by omega) (ev_pos (by omega) ?_)
      have hz := hw _ (List.getElem_mem h)
      rw [rd_str xs i h, w64s i (by omega), w64 (x := a - (xs[i].size : Int)) (by omega) (by omega), drop_at xs i h, sumBy_cons, ← left_add]
      have e : wtS xs[i] = xs[i].size := rfl
      by_cases h2 : a - (xs[i].size : Int) < 0
      · have h3 : left a (wtS xs[i]) < 0 := by unfold left; rw [if_neg (by omega)]; omega
        exact ev_pos h2 (ev_now (if_pos h3).symm)
      · have h3 : left a (wtS xs[i]) = a - xs[i].size := by unfold left; rw [if_pos (by omega), e]
        rw [h3, if_neg h2]
        exact ev_neg h2 (szStringS_l xs hn hw (i + 1) _ (by omega) (by omega) (by omega))
    · refine ev_neg (by omega) (ev_now ?_)
      rw [List.drop_of_length_le (by omega), sumBy_nil, left_zero h0]
  termination_by i => xs.length - i
theorem szStringS_ev (xs : List ByteArray) (hb : xs.length ≤ 140737488351232) (hw : ∀ y ∈ xs, y.size ≤ 140737488351232) (a : Int) (h0 : 0 ≤ a) (h1 : a ≤ 1048576) : Ev (fun k => laws_szStringS.f k xs a) (left a (wtSS xs)) := by
  unfold laws_szStringS.f
  rw [w64 (by omega) (by omega)]
  unfold wtSS
  rw [← left_add]
  by_cases h : a - (xs.length : Int) < 0
  · exact ev_pos h (ev_now (by rw [if_pos]; unfold left; rw [if_neg (by omega)]; omega))
  · have h2 : left a xs.length = a - xs.length := by unfold left; rw [if_pos (by omega)]
    have := szStringS_l xs (by omega) hw 0 (a - xs.length) (by omega) (by omega) (by omega)
    rw [List.drop_zero] at this
    exact ev_neg h (ev_to this (by rw [h2, if_neg h]))

/-! ### tostrings -/
theorem toStringS_l (xs : List ByteArray) (hn : xs.length ≤ 1048576) : ∀ (i : Nat) (ys : List ByteArray), i ≤ xs.length → ys.length = xs.length → ys.take i = xs.take i →
    Ev (fun k => laws_toStringS.l0 k xs ys i) xs
  | i, ys, hi, hl, ht => by
    refine Ev.step (laws_toStringS.l0.eq_2 _ _ _) ?_
    by_cases h : i < xs.length
    · refine ev_pos (by omega) (ev_pos (by omega) (ev_pos (by omega) ?_))
      rw [rdOf_at _ xs i h, w64s i (by omega), Int.toNat_natCast]
      exact toStringS_l xs hn (i + 1) _ (by omega) (by simp [hl]) (take_set hl ht h rfl)
    · have : i = xs.length := by omega
      subst this
      exact ev_neg (by omega) (ev_now (take_all hl ht))
  termination_by i => xs.length - i
theorem toStringS_ev (xs : List ByteArray) (hn : xs.length ≤ 1048576) : Ev (fun k => laws_toStringS.f k xs) xs := by
  unfold laws_toStringS.f
  exact ev_pos (by omega) (ev_pos (by omega) (toStringS_l xs hn 0 _ (by omega) (by simp) (by simp)))

/-! ### eqstrings -/
theorem eqStringS_l (xs : List ByteArray) (hn : xs.length ≤ 1048576) : ∀ (i : Nat), i ≤ xs.length → Ev (fun k => laws_eqStringS.l0 k xs xs i) true
  | i, hi => by
    refine Ev.step (laws_eqStringS.l0.eq_2 _ _ _) ?_
    by_cases h : i < xs.length
    · refine ev_pos (by omega) (ev_pos (by omega) (ev_pos (by omega) (ev_pos rfl ?_)))
      rw [w64s i (by omega)]
      exact eqStringS_l xs hn (i + 1) (by omega)
    · exact ev_neg (by omega) (ev_now rfl)
  termination_by i => xs.length - i
theorem eqStringS_ev (xs : List ByteArray) (hn : xs.length ≤ 1048576) : Ev (fun k => laws_eqStringS.f k xs xs) true := by
  unfold laws_eqStringS.f
  exact ev_pos rfl (eqStringS_l xs hn 0 (by omega))

/-! ### joinpath -/
def jn : List ByteArray → List UInt8
  | [] => []
  | x :: r => 47 :: (x.data.toList ++ jn r)
theorem jn_len (xs : List ByteArray) : (jn xs).length = xs.length + sumBy (fun s : ByteArray => s.size) xs := by
  induction xs with
  | nil => rfl
  | cons x r ih => rw [sumBy_cons]; simp [jn, ih]; omega
def jp (xs : List ByteArray) : ByteArray := if xs = [] then ⟨#[47]⟩ else ⟨(jn xs).toArray⟩
theorem jn_join (x : ByteArray) (r : List ByteArray) : jn (x :: r) = 47 :: Lib.join ((x :: r).map (·.data.toList)) [47] := by
  unfold Lib.join
  induction r generalizing x with
  | nil => simp [jn, List.intercalate]
  | cons y s ih =>
    have := ih y
    simp only [jn] at this ⊢
    rw [List.map_cons, List.map_cons, List.intercalate_cons_cons]
    simp only [List.map_cons] at this
    rw [this]
    simp
theorem sJoin_l (xs : List ByteArray) (hn : xs.length + sumBy (fun s : ByteArray => s.size) xs ≤ 4000000) : ∀ (i : Nat) (o : ByteArray), i ≤ xs.length → o.size + (jn (xs.drop i)).length ≤ 4000000 → Ev (fun k => spec_JoinPath.l0 k xs o i) (⟨(o.data.toList ++ jn (xs.drop i)).toArray⟩)
  | i, o, hi, ho => by
    refine Ev.step (spec_JoinPath.l0.eq_2 _ _ _) ?_
    by_cases h : i < xs.length
    · rw [drop_at xs i h] at ho ⊢
      have hl : (jn (xs[i] :: xs.drop (i + 1))).length = 1 + xs[i].size + (jn (xs.drop (i + 1))).length := by simp [jn]; omega
      have e1 : (⟨#[47]⟩ : ByteArray).size = 1 := rfl
      refine ev_pos (by omega) (ev_pos (by omega) (ev_pos (by omega) ?_))
      rw [rdOf_at _ xs i h, w64s i (by omega)]
      refine ev_pos (by rw [ByteArray.size_append, e1]; omega) (ev_to (sJoin_l xs hn (i + 1) _ (by omega) (by rw [ByteArray.size_append, ByteArray.size_append, e1]; omega)) ?_)
      rw [b_app, b_app]
      simp [jn]
    · refine ev_neg (by omega) (ev_now (b_inj ?_))
      rw [b_mk, List.drop_of_length_le (by omega)]; simp [jn]
  termination_by i => xs.length - i
theorem sJoin_ev (xs : List ByteArray) (hn : xs.length + sumBy (fun s : ByteArray => s.size) xs ≤ 4000000) : Ev (fun k => spec_JoinPath.f k xs) (jp xs) := by
  unfold spec_JoinPath.f jp
  by_cases h : xs = []
  · subst h
    exact ev_pos rfl (ev_now rfl)
  · rw [if_neg h]
    refine ev_neg (by have := List.length_pos_iff.2 h; omega) (ev_to (sJoin_l xs hn 0 _ (by omega) (by rw [List.drop_zero, jn_len]; have : (⟨#[]⟩ : ByteArray).size = 0 := rfl; omega)) ?_)
    rfl
theorem iJoin_eq (xs : List ByteArray) (hn : xs.length + sumBy (fun s : ByteArray => s.size) xs ≤ 4000000) : impl_JoinPath.f xs = some (jp xs) := by
  unfold impl_JoinPath.f jp
  match xs with
  | [] => rfl
  | x :: r =>
    have hj := jn_join x r
    have hl := jn_len (x :: r)
    have hl2 : (Lib.join ((x :: r).map (·.data.toList)) (⟨#[47]⟩ : ByteArray).data.toList).length + 1 = (jn (x :: r)).length := by rw [hj]; rfl
    rw [if_neg (by simp; omega), if_neg (by simp)]
    unfold strings_Join.f
    rw [if_pos ⟨by omega, by omega⟩, Option.bind_some, if_pos (by rw [b_size]; omega)]
    congr 1
    refine b_inj ?_
    rw [b_app, b_mk, b_mk, hj]; rfl

/-! ### FnExactJoinPath -/
theorem FnExactJoinPath : laws_FnExactJoinPath.Law := by
  intro xs hx
  apply Ev.rounds
  unfold laws_FnExactJoinPath.f
  refine Ev.bind (szStringS_ev xs (by omega) hx.2 _ (by omega) (by omega)) ?_
  by_cases h : left 1048576 (wtSS xs) < 0
  · exact ev_pos h (ev_now rfl)
  have h1 := (left_le (a := 1048576) (t := wtSS xs) (by omega)).1
  have h2 : xs.length + sumBy (fun s : ByteArray => s.size) xs ≤ 1048576 := by
    have : wtSS xs = xs.length + sumBy (fun s : ByteArray => s.size) xs := rfl
    omega
  refine ev_neg h ?_
  repeat' first
    | (with_reducible exact ev_now rfl)
    | (with_reducible refine Ev.bind (toStringS_ev _ (by omega)) ?_)
    | (with_reducible refine Ev.bind (sJoin_ev _ (by omega)) ?_)
    | (with_reducible refine Ev.bind (ev_eq (iJoin_eq _ (by omega))) ?_)
    | (with_reducible refine Ev.bind (eqStringS_ev _ (by omega)) ?_)
    | (with_reducible refine ev_pos rfl ?_)
    | ((with_reducible refine ev_pos ?c_ ?_); (case c_ => first | rfl | omega | (dsimp only; omega) | (simp only [decide_eq_true_eq]; omega) | (simp; done)))
    | ((with_reducible refine ev_neg ?c_ ?_); (case c_ => first | rfl | omega | (dsimp only; omega) | (simp only [decide_eq_true_eq]; omega) | (simp; done)))
    | ((with_reducible refine ev_now ?c_); (case c_ => first | rfl | (simp; done)))

end Go.Proofs.Ytdlinbemiilkmaa.Pure
