/- The pure statement of FnExactItemAt is proved: for all arguments within the row's own bounds the Lean function that the law's walk comes to answers true. Conditions: none beyond these bounds. -/
import Derived.Test.YtdlinbemiilkmaaStFnExactItemAt
import Derived.Test.YtdlinbemiilkmaaBase
namespace Go.Proofs.Ytdlinbemiilkmaa.Pure
open Go.RowKit Go.Proofs.Ytdlinbemiilkmaa.PFnExactItemAt Go.Proofs.YtdlinbemiilkmaaW.PrintWords Go.Proofs.YtdlinbemiilkmaaW.PrintLast Go.Proofs.Ytdlinbemiilkmaa.Base
set_option linter.unusedVariables false
set_option linter.unusedSimpArgs false
/-! ### items -/
def cvItem (x : S84) : S70 := ⟨x.f0, x.f1, x.f2⟩
def wtItem (x : S84) : Nat := x.f0.size + x.f2.size
theorem rd_itemL (xs : List S84) (i : Nat) (h : i < xs.length) : rd_T84 xs (i : Int) = xs[i] := getD_at _ xs i h
theorem rd_itemI (xs : List S70) (i : Nat) (h : i < xs.length) : rd_T70 xs (i : Int) = xs[i] := getD_at _ xs i h
theorem szItem_eq (x : S84) (hx : Wf84 x) (a : Int) (h0 : 0 ≤ a) (h1 : a ≤ 1048576) : laws_szItem.f x.f0 x.f1 x.f2 a = some (left a (wtItem x)) := by
  obtain ⟨h2, _, h3⟩ := hx
  simp only [laws_szItem.f]
  rw [w64 (x := a - (x.f0.size : Int)) (by omega) (by omega), w64 (x := a - (x.f0.size : Int) - (x.f2.size : Int)) (by omega) (by omega)]
  unfold left wtItem
  split
  · rw [if_neg (by omega)]
  · split
    · rw [if_neg (by omega)]
    · rw [if_pos (by omega)]; congr 1; omega
theorem szItemS_l (xs : List S84) (hn : xs.length ≤ 1048576) (hw : ∀ y ∈ xs, Wf84 y) : ∀ (i : Nat) (a : Int), i ≤ xs.length → 0 ≤ a → a ≤ 1048576 →
    Ev (fun k => laws_szItemS.l0 k xs a i) (left a (sumBy wtItem (xs.drop i)))
  | i, a, hi, h0, h1 => by
    refine Ev.step (laws_szItemS.l0.eq_2 _ _ _) ?_
    by_cases h : i < xs.length
    · refine ev_pos (by omega) (ev_pos (by omega) ?_)
      rw [rd_itemL xs i h, w64s i (by omega)]
      refine Ev.bind (ev_eq (szItem_eq _ (hw _ (List.getElem_mem h)) a h0 h1)) ?_
      rw [drop_at xs i h, sumBy_cons, ← left_add]
      by_cases h2 : left a (wtItem xs[i]) < 0
      · exact ev_pos h2 (ev_now (if_pos h2).symm)
      · obtain ⟨h3, h4⟩ := left_le (a := a) (t := wtItem xs[i]) (by omega)
        refine ev_neg h2 (ev_to (szItemS_l xs hn hw (i + 1) _ (by omega) (by omega) (by omega)) (if_neg h2).symm)
    · refine ev_neg (by omega) (ev_now ?_)
      rw [List.drop_of_length_le (by omega), sumBy_nil, left_zero h0]
  termination_by i => xs.length - i
def wtItemS (xs : List S84) : Nat := xs.length + sumBy wtItem xs
theorem szItemS_ev (xs : List S84) (hb : xs.length ≤ 140737488351232) (hw : ∀ y ∈ xs, Wf84 y) (a : Int) (h0 : 0 ≤ a) (h1 : a ≤ 1048576) : Ev (fun k => laws_szItemS.f k xs a) (left a (wtItemS xs)) := by
  unfold laws_szItemS.f
  rw [w64 (by omega) (by omega)]
  unfold wtItemS
  rw [← left_add]
  by_cases h : a - (xs.length : Int) < 0
  · exact ev_pos h (ev_now (by rw [if_pos]; unfold left; rw [if_neg (by omega)]; omega))
  · have h2 : left a xs.length = a - xs.length := by unfold left; rw [if_pos (by omega)]
    have := szItemS_l xs (by omega) hw 0 (a - xs.length) (by omega) (by omega) (by omega)
    rw [List.drop_zero] at this
    exact ev_neg h (ev_to this (by rw [h2, if_neg h]))
theorem toItemS_l (xs : List S84) (hn : xs.length ≤ 1048576) : ∀ (i : Nat) (ys : List S70), i ≤ xs.length → ys.length = xs.length → ys.take i = (xs.map cvItem).take i →
    Ev (fun k => laws_toItemS.l0 k xs ys i) (xs.map cvItem)
  | i, ys, hi, hl, ht => by
    refine Ev.step (laws_toItemS.l0.eq_2 _ _ _) ?_
    by_cases h : i < xs.length
    · refine ev_pos (by omega) (ev_pos (by omega) ?_)
      rw [rd_itemL xs i h, w64s i (by omega)]
      refine Ev.bind (ev_eq rfl) (ev_pos (by omega) ?_)
      rw [Int.toNat_natCast]
      exact toItemS_l xs hn (i + 1) _ (by omega) (by simp [hl]) (take_set (by simp [hl]) ht (by simpa using h) (by simp [cvItem]))
    · have : i = xs.length := by omega
      subst this
      exact ev_neg (by omega) (ev_now (take_all (by simp [hl]) (by simpa using ht)))
  termination_by i => xs.length - i
theorem toItemS_ev (xs : List S84) (hn : xs.length ≤ 1048576) : Ev (fun k => laws_toItemS.f k xs) (xs.map cvItem) := by
  unfold laws_toItemS.f
  exact ev_pos (by omega) (ev_pos (by omega) (toItemS_l xs hn 0 _ (by omega) (by simp) (by simp)))
theorem eqItem_eq (x : S70) : laws_eqItem.f x.f0 x.f1 x.f2 x.f0 x.f1 x.f2 = some true := by simp [laws_eqItem.f]
theorem eqItemS_l (xs : List S70) (hn : xs.length ≤ 1048576) : ∀ (i : Nat), i ≤ xs.length → Ev (fun k => laws_eqItemS.l0 k xs xs i) true
  | i, hi => by
    refine Ev.step (laws_eqItemS.l0.eq_2 _ _ _) ?_
    by_cases h : i < xs.length
    · refine ev_pos (by omega) (ev_pos (by omega) (ev_pos (by omega) ?_))
      rw [w64s i (by omega)]
      exact Ev.bind (ev_eq (eqItem_eq _)) (ev_pos rfl (eqItemS_l xs hn (i + 1) (by omega)))
    · exact ev_neg (by omega) (ev_now rfl)
  termination_by i => xs.length - i
theorem eqItemS_ev (xs : List S70) (hn : xs.length ≤ 1048576) : Ev (fun k => laws_eqItemS.f k xs xs) true := by
  unfold laws_eqItemS.f
  exact ev_pos rfl (eqItemS_l xs hn 0 (by omega))

/-! ### view -/
theorem szView_ev (xs : List S84) (hb : xs.length * 40 ≤ 140737488351232 ∧ ∀ y ∈ xs, Wf84 y) (a : Int) (h0 : 0 ≤ a) (h1 : a ≤ 1048576) : Ev (fun k => laws_szView.f k xs a) (left a (wtItemS xs)) := by
  unfold laws_szView.f
  refine Ev.bind (szItemS_ev xs (by omega) hb.2 a h0 h1) ev_left
theorem toView_ev (xs : List S84) (hn : xs.length ≤ 1048576) : Ev (fun k => laws_toView.f k xs) (xs.map cvItem) := by
  unfold laws_toView.f
  exact Ev.bind (toItemS_ev xs hn) (ev_now rfl)
theorem eqView_ev (xs : List S70) (hn : xs.length ≤ 1048576) : Ev (fun k => laws_eqView.f k xs xs) true := by
  unfold laws_eqView.f
  exact Ev.bind (eqItemS_ev xs hn) (ev_pos rfl (ev_now rfl))
theorem wtItemS_len {xs : List S84} {a : Int} (h : 0 ≤ left a (wtItemS xs)) (ha : a ≤ 1048576) : xs.length ≤ 1048576 ∧ (∀ y ∈ xs, wtItem y ≤ 1048576) := by
  have h2 := (left_le h).1
  unfold wtItemS at h2
  exact ⟨by omega, fun y hy => by have := sumBy_mem (f := wtItem) hy; omega⟩

/-! ### itemat -/
def itP (p : ByteArray) : S70 → S70 → Bool := fun _ y => y.f0.toList == p.toList
theorem sItemAt_l (xs : List S70) (p : ByteArray) (hn : xs.length ≤ 4000000) : ∀ i : Nat, i ≤ xs.length → Ev (fun k => spec_ItemAt.l0 k p i xs) (Lib.idxByFrom (itP p) z70 (xs.drop i) i)
  | i, hi => by
    refine Ev.step (spec_ItemAt.l0.eq_2 _ _ _) ?_
    by_cases h : i < xs.length
    · refine ev_pos (by omega) (ev_pos (by omega) ?_)
      rw [rd_itemI xs i h, w64s i (by omega), drop_at xs i h]
      by_cases he : (xs[i].f0).toList = p.toList
      · exact ev_pos he (ev_now (by simp [Lib.idxByFrom, itP, he]))
      · refine ev_neg he (ev_to (sItemAt_l xs p hn (i + 1) (by omega)) ?_)
        simp [Lib.idxByFrom, itP, he]
    · refine ev_neg (by omega) (ev_now ?_)
      rw [List.drop_of_length_le (by omega)]; rfl
  termination_by i => xs.length - i
theorem sItemAt_ev (xs : List S70) (p : ByteArray) (hn : xs.length ≤ 4000000) : Ev (fun k => spec_ItemAt.f k xs p) (Lib.idxBy (itP p) xs z70) := by
  unfold spec_ItemAt.f
  have := sItemAt_l xs p hn 0 (by omega)
  rw [List.drop_zero] at this
  exact this
theorem iItemAt_eq (xs : List S70) (p : ByteArray) (hn : xs.length ≤ 4000000) : impl_ItemAt.f xs p = some (Lib.idxBy (itP p) xs z70) := by
  unfold impl_ItemAt.f
  rw [if_pos (by omega)]; rfl

/-! ### FnExactItemAt -/
theorem FnExactItemAt : laws_FnExactItemAt.Law := by
  intro xs p hx hp
  apply Ev.rounds
  unfold laws_FnExactItemAt.f
  by_cases h0 : (p.size : Int) > 1048576
  · exact ev_pos h0 (ev_now rfl)
  refine ev_neg h0 (Ev.bind (szView_ev xs hx _ (by omega) (by omega)) ?_)
  by_cases h : left 1048576 (wtItemS xs) < 0
  · exact ev_pos h (ev_now rfl)
  have hb := wtItemS_len (xs := xs) (a := 1048576) (by omega) (by omega)
  have nx := hb.1
  have nm : (xs.map cvItem).length ≤ 1048576 := by simpa using nx
  refine ev_neg h ?_
  repeat' first
    | (with_reducible exact ev_now rfl)
    | (with_reducible refine Ev.bind (toView_ev xs nx) ?_)
    | (with_reducible refine Ev.bind (sItemAt_ev _ _ (by omega)) ?_)
    | (with_reducible refine Ev.bind (ev_eq (iItemAt_eq _ _ (by omega))) ?_)
    | (with_reducible refine Ev.bind (eqView_ev _ nm) ?_)
    | (with_reducible refine ev_pos rfl ?_)
    | ((with_reducible refine ev_pos ?c_ ?_); (case c_ => first | rfl | omega | (dsimp only; omega) | (simp only [decide_eq_true_eq]; omega) | (simp; done)))
    | ((with_reducible refine ev_neg ?c_ ?_); (case c_ => first | rfl | omega | (dsimp only; omega) | (simp only [decide_eq_true_eq]; omega) | (simp; done)))
    | ((with_reducible refine ev_now ?c_); (case c_ => first | rfl | (simp; done)))

end Go.Proofs.Ytdlinbemiilkmaa.Pure
