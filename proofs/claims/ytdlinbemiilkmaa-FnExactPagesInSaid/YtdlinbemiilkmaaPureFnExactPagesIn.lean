/- The pure statement of FnExactPagesIn is proved: for all arguments within the row's own bounds the Lean function that the law's walk comes to answers true. Conditions: none beyond these bounds. -/
import Derived.Test.YtdlinbemiilkmaaStFnExactPagesIn
import Derived.Test.YtdlinbemiilkmaaBase
namespace Go.Proofs.Ytdlinbemiilkmaa.Pure
open Go.RowKit Go.Proofs.Ytdlinbemiilkmaa.PFnExactPagesIn Go.Proofs.YtdlinbemiilkmaaW.PrintWords Go.Proofs.YtdlinbemiilkmaaW.PrintLast Go.Proofs.Ytdlinbemiilkmaa.Base
set_option linter.unusedVariables false
set_option linter.unusedSimpArgs false
/-! ### items -/
def cvItem (x : S84) : S70 := ⟨x.f0, x.f1, x.f2⟩
def wtItem (x : S84) : Nat := x.f0.size + x.f2.size
theorem rd_itemL (xs : List S84) (i : Nat) (h : i < xs.length) : rd_T84 xs (i : Int) = xs[i] := getD_at _ xs i h
theorem rd_itemI (xs : List S70) (i : Nat) (h : i < xs.length) : rd_T70 xs (i : Int) = xs[i] := getD_at _ xs i h
theorem szItem_eq (x : S84) (hx : Wf84 x) (a : Int) (h0 : 0 ≤ a) (h1 : a ≤ 1048576) : laws_szItem.f x.f0 x.f1 x.f2 a = some (left a (wtItem x)) := by
  obtain ⟨h2, _, h3⟩ := hx
  simp only [laws_szItem.f]
  rw [w64 (x := a - (x.f0.size : Int)) (by omega) (by omega), w64 (x := a - (x.f0.size : Int) - (x.f2.size : Int)) (by omega) (by omega)]
  unfold left wtItem
  split
  · rw [if_neg (by omega)]
  · split
    · rw [if_neg (by omega)]
    · rw [if_pos (by omega)]; congr 1; omega
theorem szItemS_l (xs : List S84) (hn : xs.length ≤ 1048576) (hw : ∀ y ∈ xs, Wf84 y) : ∀ (i : Nat) (a : Int), i ≤ xs.length → 0 ≤ a → a ≤ 1048576 →
    Ev (fun k => laws_szItemS.l0 k xs a i) (left a (sumBy wtItem (xs.drop i)))
  | i, a, hi, h0, h1 => by
    refine Ev.step (laws_szItemS.l0.eq_2 _ _ _) ?_
    by_cases h : i < xs.length
    · refine ev_pos (by omega) (ev_pos (by omega) ?_)
      rw [rd_itemL xs i h, w64s i (by omega)]
      refine Ev.bind (ev_eq (szItem_eq _ (hw _ (List.getElem_mem h)) a h0 h1)) ?_
      rw [drop_at xs i h, sumBy_cons, ← left_add]
      by_cases h2 : left a (wtItem xs[i]) < 0
      · exact ev_pos h2 (ev_now (if_pos h2).symm)
      · obtain ⟨h3, h4⟩ := left_le (a := a) (t := wtItem xs[i]) (by omega)
        refine ev_neg h2 (ev_to (szItemS_l xs hn hw (i + 1) _ (by omega) (by omega) (by omega)) (if_neg h2).symm)
    · refine ev_neg (by omega) (ev_now ?_)
      rw [List.drop_of_length_le (by omega), sumBy_nil, left_zero h0]
  termination_by i => xs.length - i
def wtItemS (xs : List S84) : Nat := xs.length + sumBy wtItem xs
theorem szItemS_ev (xs : List S84) (hb : xs.length ≤ 140737488351232) (hw : ∀ y ∈ xs, Wf84 y) (a : Int) (h0 : 0 ≤ a) (h1 : a ≤ 1048576) : Ev (fun k => laws_szItemS.f k xs a) (left a (wtItemS xs)) := by
  unfold laws_szItemS.f
  rw [w64 (by omega) (by omega)]
  unfold wtItemS
  rw [← left_add]
  by_cases h : a - (xs.length : Int) < 0
  · exact ev_pos h (ev_now (by rw [if_pos]; unfold left; rw [if_neg (by omega)]; omega))
  · have h2 : left a xs.length = a - xs.length := by unfold left; rw [if_pos (by omega)]
    have := szItemS_l xs (by omega) hw 0 (a - xs.length) (by omega) (by omega) (by omega)
    rw [List.drop_zero] at this
    exact ev_neg h (ev_to this (by rw [h2, if_neg h]))
theorem toItemS_l (xs : List S84) (hn : xs.length ≤ 1048576) : ∀ (i : Nat) (ys : List S70), i ≤ xs.length → ys.length = xs.length → ys.take i = (xs.map cvItem).take i →
    Ev (fun k => laws_toItemS.l0 k xs ys i) (xs.map cvItem)
  | i, ys, hi, hl, ht => by
    refine Ev.step (laws_toItemS.l0.eq_2 _ _ _) ?_
    by_cases h : i < xs.length
    · refine ev_pos (by omega) (ev_pos (by omega) ?_)
      rw [rd_itemL xs i h, w64s i (by omega)]
      refine Ev.bind (ev_eq rfl) (ev_pos (by omega) ?_)
      rw [Int.toNat_natCast]
      exact toItemS_l xs hn (i + 1) _ (by omega) (by simp [hl]) (take_set (by simp [hl]) ht (by simpa using h) (by simp [cvItem]))
    · have : i = xs.length := by omega
      subst this
      exact ev_neg (by omega) (ev_now (take_all (by simp [hl]) (by simpa using ht)))
  termination_by i => xs.length - i
theorem toItemS_ev (xs : List S84) (hn : xs.length ≤ 1048576) : Ev (fun k => laws_toItemS.f k xs) (xs.map cvItem) := by
  unfold laws_toItemS.f
  exact ev_pos (by omega) (ev_pos (by omega) (toItemS_l xs hn 0 _ (by omega) (by simp) (by simp)))
theorem eqItem_eq (x : S70) : laws_eqItem.f x.f0 x.f1 x.f2 x.f0 x.f1 x.f2 = some true := by simp [laws_eqItem.f]
theorem eqItemS_l (xs : List S70) (hn : xs.length ≤ 1048576) : ∀ (i : Nat), i ≤ xs.length → Ev (fun k => laws_eqItemS.l0 k xs xs i) true
  | i, hi => by
    refine Ev.step (laws_eqItemS.l0.eq_2 _ _ _) ?_
    by_cases h : i < xs.length
    · refine ev_pos (by omega) (ev_pos (by omega) (ev_pos (by omega) ?_))
      rw [w64s i (by omega)]
      exact Ev.bind (ev_eq (eqItem_eq _)) (ev_pos rfl (eqItemS_l xs hn (i + 1) (by omega)))
    · exact ev_neg (by omega) (ev_now rfl)
  termination_by i => xs.length - i
theorem eqItemS_ev (xs : List S70) (hn : xs.length ≤ 1048576) : Ev (fun k => laws_eqItemS.f k xs xs) true := by
  unfold laws_eqItemS.f
  exact ev_pos rfl (eqItemS_l xs hn 0 (by omega))

/-! ### view -/
theorem szView_ev (xs : List S84) (hb : xs.length * 40 ≤ 140737488351232 ∧ ∀ y ∈ xs, Wf84 y) (a : Int) (h0 : 0 ≤ a) (h1 : a ≤ 1048576) : Ev (fun k => laws_szView.f k xs a) (left a (wtItemS xs)) := by
  unfold laws_szView.f
  refine Ev.bind (szItemS_ev xs (by omega) hb.2 a h0 h1) ev_left
theorem toView_ev (xs : List S84) (hn : xs.length ≤ 1048576) : Ev (fun k => laws_toView.f k xs) (xs.map cvItem) := by
  unfold laws_toView.f
  exact Ev.bind (toItemS_ev xs hn) (ev_now rfl)
theorem eqView_ev (xs : List S70) (hn : xs.length ≤ 1048576) : Ev (fun k => laws_eqView.f k xs xs) true := by
  unfold laws_eqView.f
  exact Ev.bind (eqItemS_ev xs hn) (ev_pos rfl (ev_now rfl))
theorem wtItemS_len {xs : List S84} {a : Int} (h : 0 ≤ left a (wtItemS xs)) (ha : a ≤ 1048576) : xs.length ≤ 1048576 ∧ (∀ y ∈ xs, wtItem y ≤ 1048576) := by
  have h2 := (left_le h).1
  unfold wtItemS at h2
  exact ⟨by omega, fun y hy => by have := sumBy_mem (f := wtItem) hy; omega⟩

/-! ### FnExactPagesIn -/
def pgF (n : Int) : Int := if n ≤ 0 then 0 else (n - 1) / 32 + 1
theorem sPagesFor_eq (n : Int) (h : 0 ≤ n) (h1 : n ≤ 1048576) : spec_PagesFor.f n = some (pgF n) := by
  unfold spec_PagesFor.f pgF
  split
  · rfl
  · rw [w64 (x := n - 1) (by omega) (by omega), Int.tdiv_eq_ediv_of_nonneg (by omega), w64 (x := (n - 1) / 32) (by omega) (by omega), w64 (by omega) (by omega)]
theorem iPagesFor_eq (n : Int) (h : 0 ≤ n) (h1 : n ≤ 1048576) : impl_PagesFor.f n = some (pgF n) := by
  unfold impl_PagesFor.f pgF
  rw [if_neg (by omega), Int.tdiv_eq_ediv_of_nonneg h, Int.tmod_eq_emod_of_nonneg h, w64 (x := n / 32) (by omega) (by omega), w64 (x := n / 32 + 1) (by omega) (by omega)]
  split <;> split <;> congr 1 <;> omega
theorem pgF_le (n : Int) (h1 : n ≤ 1048576) : 0 ≤ pgF n ∧ pgF n ≤ 32768 := by
  unfold pgF
  split <;> omega
def pgIn : List S70 → Int → Int
  | [], a => a
  | x :: r, a => if x.f1 = true then pgIn r a else pgIn r (a + pgF x.f2.size)
theorem sPagesIn_l (xs : List S70) (hn : xs.length ≤ 1048576) (hs : ∀ y ∈ xs, y.f2.size ≤ 1048576) : ∀ (i : Nat) (a : Int), i ≤ xs.length → 0 ≤ a → a ≤ 32768 * i → Ev (fun k => spec_PagesIn.l0 k a i xs) (pgIn (xs.drop i) a)
  | i, a, hi, h0, h1 => by
    refine Ev.step (spec_PagesIn.l0.eq_2 _ _ _) ?_
    by_cases h : i < xs.length
    · refine ev_pos (by omega) (ev_pos (by omega) ?_)
      rw [rd_itemI xs i h, w64s i (by omega), drop_at xs i h]
      simp only [pgIn]
      have hz := hs _ (List.getElem_mem h)
      by_cases hd : xs[i].f1 = true
      · rw [if_pos hd]
        exact ev_pos hd (sPagesIn_l xs hn hs (i + 1) a (by omega) h0 (by omega))
      · rw [if_neg hd]
        have hb := pgF_le (xs[i].f2.size : Int) (by omega)
        refine ev_neg hd (Ev.bind (ev_eq (sPagesFor_eq _ (by omega) (by omega))) ?_)
        rw [w64 (by omega) (by omega)]
        exact sPagesIn_l xs hn hs (i + 1) _ (by omega) (by omega) (by omega)
    · refine ev_neg (by omega) (ev_now ?_)
      rw [List.drop_of_length_le (by omega)]; rfl
  termination_by i => xs.length - i
theorem iPagesIn_l (xs : List S70) (hn : xs.length ≤ 1048576) (hs : ∀ y ∈ xs, y.f2.size ≤ 1048576) : ∀ (i : Nat) (a : Int), i ≤ xs.length → 0 ≤ a → a ≤ 32768 * i → Ev (fun k => impl_PagesIn.l0 k a xs xs.length i) (pgIn (xs.drop i) a)
  | i, a, hi, h0, h1 => by
    refine Ev.step (impl_PagesIn.l0.eq_2 _ _ _ _) ?_
    by_cases h : i < xs.length
    · refine ev_pos (by omega) (ev_pos (by omega) (ev_pos (by omega) ?_))
      rw [rd_itemI xs i h, w64s i (by omega), drop_at xs i h]
      simp only [pgIn]
      have hz := hs _ (List.getElem_mem h)
      by_cases hd : xs[i].f1 = true
      · rw [if_pos hd]
        exact ev_pos hd (iPagesIn_l xs hn hs (i + 1) a (by omega) h0 (by omega))
      · rw [if_neg hd]
        have hb := pgF_le (xs[i].f2.size : Int) (by omega)
        refine ev_neg hd (Ev.bind (ev_eq (iPagesFor_eq _ (by omega) (by omega))) ?_)
        rw [w64 (by omega) (by omega)]
        exact iPagesIn_l xs hn hs (i + 1) _ (by omega) (by omega) (by omega)
    · refine ev_neg (by omega) (ev_now ?_)
      rw [List.drop_of_length_le (by omega)]; rfl
  termination_by i => xs.length - i
theorem sPagesIn_ev (xs : List S70) (hn : xs.length ≤ 1048576) (hs : ∀ y ∈ xs, y.f2.size ≤ 1048576) : Ev (fun k => spec_PagesIn.f k xs) (pgIn xs 0) := by
  unfold spec_PagesIn.f
  exact sPagesIn_l xs hn hs 0 0 (by omega) (by omega) (by omega)
theorem iPagesIn_ev (xs : List S70) (hn : xs.length ≤ 1048576) (hs : ∀ y ∈ xs, y.f2.size ≤ 1048576) : Ev (fun k => impl_PagesIn.f k xs) (pgIn xs 0) := by
  unfold impl_PagesIn.f
  exact iPagesIn_l xs hn hs 0 0 (by omega) (by omega) (by omega)
theorem FnExactPagesIn : laws_FnExactPagesIn.Law := by
  intro xs hx
  apply Ev.rounds
  unfold laws_FnExactPagesIn.f
  refine Ev.bind (szView_ev xs hx _ (by omega) (by omega)) ?_
  by_cases h : left 1048576 (wtItemS xs) < 0
  · exact ev_pos h (ev_now rfl)
  have hb := wtItemS_len (xs := xs) (a := 1048576) (by omega) (by omega)
  have nx := hb.1
  have ns : ∀ y ∈ xs.map cvItem, y.f2.size ≤ 1048576 := by
    intro y hy
    obtain ⟨x, hx, rfl⟩ := List.mem_map.1 hy
    have := hb.2 x hx
    simp only [wtItem, cvItem] at this ⊢
    omega
  refine ev_neg h (Ev.bind (toView_ev xs nx) (Ev.bind (sPagesIn_ev _ (by simpa using nx) ns) ?_))
  refine Ev.bind (toView_ev xs nx) (Ev.bind (iPagesIn_ev _ (by simpa using nx) ns) (ev_pos rfl ?_))
  exact Ev.bind (toView_ev xs nx) (Ev.bind (eqView_ev _ (by simpa using nx)) (ev_pos rfl (ev_now rfl)))

end Go.Proofs.Ytdlinbemiilkmaa.Pure
