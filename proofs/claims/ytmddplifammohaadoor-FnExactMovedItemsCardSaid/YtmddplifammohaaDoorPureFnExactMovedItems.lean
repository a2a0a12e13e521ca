/- The pure statement of FnExactMovedItems is proved: for all arguments within the row's own bounds the Lean function that the law's walk comes to answers true. Conditions: none beyond these bounds. -/
import Derived.Test.YtmddplifammohaaDoorStFnExactMovedItems
import Derived.Test.YtmddplifammohaaDoorBase
namespace Go.Proofs.YtmddplifammohaaDoor.Pure
open Go.RowKit Go.Proofs.YtmddplifammohaaDoor.PFnExactMovedItems Go.Proofs.YtmddplifammohaaDoorW.PrintWords Go.Proofs.YtmddplifammohaaDoorW.PrintLast Go.Proofs.YtmddplifammohaaDoor.Base
set_option linter.unusedVariables false
set_option linter.unusedSimpArgs false
/-! ### markstrings -/
theorem mt_l (n : Nat) : ∀ o : ByteArray, o.size + 40 * (n + 1) ≤ 4000000000000000 → ∃ r : ByteArray, Ev (fun k => laws_markText.l0 k n o) r := by
  induction n using Nat.strongRecOn with
  | _ n ih =>
    intro o ho
    by_cases h : (n : Int) > 0
    · have hd : wrap64 (Int.tdiv (n : Int) 10) = ((n / 10 : Nat) : Int) := by
        rw [Int.tdiv_eq_ediv_of_nonneg (by omega), w64 (by omega) (by omega)]; omega
      obtain ⟨r, hr⟩ := ih (n / 10) (by omega) (strOfNums [wrap64 (48 + Int.tmod (n : Int) 10) % 256] ++ o) (by rw [ByteArray.size_append, strOfNums_size]; simp only [List.length_singleton]; omega)
      refine ⟨r, ?_⟩
      refine Ev.step (laws_markText.l0.eq_2 _ _) ?_
      refine ev_pos h (Ev.bind (Ev.now _) (ev_pos (by rw [strOfNums_size]; simp only [List.length_singleton]; omega) ?_))
      rw [hd]
      exact hr
    · refine ⟨(⟨#[109]⟩ : ByteArray) ++ o, ?_⟩
      refine Ev.step (laws_markText.l0.eq_2 _ _) ?_
      exact ev_neg h (ev_pos (by omega) (ev_now rfl))
noncomputable def mtx (n : Nat) : ByteArray := evv ⟨#[]⟩ (fun k => laws_markText.f k (n : Int))
theorem mtx_ev (n : Nat) (hn : n ≤ 40000000) : Ev (fun k => laws_markText.f k (n : Int)) (mtx n) := by
  unfold mtx
  apply evv_ev
  by_cases h : (n : Int) ≤ 0
  · exact ⟨_, by unfold laws_markText.f; exact ev_pos h (Ev.now _)⟩
  · have e0 : (⟨#[]⟩ : ByteArray).size = 0 := rfl
    obtain ⟨r, hr⟩ := mt_l n ⟨#[]⟩ (by omega)
    exact ⟨r, by unfold laws_markText.f; exact ev_neg h hr⟩
noncomputable def smarks (a n : Nat) : List ByteArray := (List.range' a n).map mtx
theorem smarks_len (a n : Nat) : (smarks a n).length = n := by simp [smarks]



/-! ### items -/
def cvItem (x : S46) : S36 := ⟨x.f0, x.f1, x.f2⟩
def wtItem (x : S46) : Nat := x.f0.size + x.f2.size
theorem rd_itemL (xs : List S46) (i : Nat) (h : i < xs.length) : rd_T46 xs (i : Int) = xs[i] := getD_at _ xs i h
theorem rd_itemI (xs : List S36) (i : Nat) (h : i < xs.length) : rd_T36 xs (i : Int) = xs[i] := getD_at _ xs i h
theorem szItem_eq (x : S46) (hx : Wf46 x) (a : Int) (h0 : 0 ≤ a) (h1 : a ≤ 1048576) : laws_szItem.f x.f0 x.f1 x.f2 a = some (left a (wtItem x)) := by
  obtain ⟨h2, _, h3⟩ := hx
  simp only [laws_szItem.f]
  rw [w64 (x := a - (x.f0.size : Int)) (by omega) (by omega), w64 (x := a - (x.f0.size : Int) - (x.f2.size : Int)) (by omega) (by omega)]
  unfold left wtItem
  split
  · rw [if_neg (by omega)]
  · split
    · rw [if_neg (by omega)]
    · rw [if_pos (by omega)]; congr 1; omega
theorem szItemS_l (xs : List S46) (hn : xs.length ≤ 1048576) (hw : ∀ y ∈ xs, Wf46 y) : ∀ (i : Nat) (a : Int), i ≤ xs.length → 0 ≤ a → a ≤ 1048576 →
    Ev (fun k => laws_szItemS.l0 k xs a i) (left a (sumBy wtItem (xs.drop i)))
  | i, a, hi, h0, h1 => by
    refine Ev.step (laws_szItemS.l0.eq_2 _ _ _) ?_
    by_cases h : i < xs.length
    · refine ev_pos (by omega) (ev_pos (by omega) ?_)
      rw [rd_itemL xs i h, w64s i (by omega)]
      refine Ev.bind (ev_eq (szItem_eq _ (hw _ (List.getElem_mem h)) a h0 h1)) ?_
      rw [drop_at xs i h, sumBy_cons, ← left_add]
      by_cases h2 : left a (wtItem xs[i]) < 0
      · exact ev_pos h2 (ev_now (if_pos h2).symm)
      · obtain ⟨h3, h4⟩ := left_le (a := a) (t := wtItem xs[i]) (by omega)
        refine ev_neg h2 (ev_to (szItemS_l xs hn hw (i + 1) _ (by omega) (by omega) (by omega)) (if_neg h2).symm)
    · refine ev_neg (by omega) (ev_now ?_)
      rw [List.drop_of_length_le (by omega), sumBy_nil, left_zero h0]
  termination_by i => xs.length - i
def wtItemS (xs : List S46) : Nat := xs.length + sumBy wtItem xs
theorem szItemS_ev (xs : List S46) (hb : xs.length ≤ 140737488351232) (hw : ∀ y ∈ xs, Wf46 y) (a : Int) (h0 : 0 ≤ a) (h1 : a ≤ 1048576) : Ev (fun k => laws_szItemS.f k xs a) (left a (wtItemS xs)) := by
  unfold laws_szItemS.f
  rw [w64 (by omega) (by omega)]
  unfold wtItemS
  rw [← left_add]
  by_cases h : a - (xs.length : Int) < 0
  · exact ev_pos h (ev_now (by rw [if_pos]; unfold left; rw [if_neg (by omega)]; omega))
  · have h2 : left a xs.length = a - xs.length := by unfold left; rw [if_pos (by omega)]
    have := szItemS_l xs (by omega) hw 0 (a - xs.length) (by omega) (by omega) (by omega)
    rw [List.drop_zero] at this
    exact ev_neg h (ev_to this (by rw [h2, if_neg h]))
theorem toItemS_l (xs : List S46) (hn : xs.length ≤ 1048576) : ∀ (i : Nat) (ys : List S36), i ≤ xs.length → ys.length = xs.length → ys.take i = (xs.map cvItem).take i →
    Ev (fun k => laws_toItemS.l0 k xs ys i) (xs.map cvItem)
  | i, ys, hi, hl, ht => by
    refine Ev.step (laws_toItemS.l0.eq_2 _ _ _) ?_
    by_cases h : i < xs.length
    · refine ev_pos (by omega) (ev_pos (by omega) ?_)
      rw [rd_itemL xs i h, w64s i (by omega)]
      refine Ev.bind (ev_eq rfl) (ev_pos (by omega) ?_)
      rw [Int.toNat_natCast]
      exact toItemS_l xs hn (i + 1) _ (by omega) (by simp [hl]) (take_set (by simp [hl]) ht (by simpa using h) (by simp [cvItem]))
    · have : i = xs.length := by omega
      subst this
      exact ev_neg (by omega) (ev_now (take_all (by simp [hl]) (by simpa using ht)))
  termination_by i => xs.length - i
theorem toItemS_ev (xs : List S46) (hn : xs.length ≤ 1048576) : Ev (fun k => laws_toItemS.f k xs) (xs.map cvItem) := by
  unfold laws_toItemS.f
  exact ev_pos (by omega) (ev_pos (by omega) (toItemS_l xs hn 0 _ (by omega) (by simp) (by simp)))
theorem eqItem_eq (x : S36) : laws_eqItem.f x.f0 x.f1 x.f2 x.f0 x.f1 x.f2 = some true := by simp [laws_eqItem.f]
theorem eqItemS_l (xs : List S36) (hn : xs.length ≤ 2000000) : ∀ (i : Nat), i ≤ xs.length → Ev (fun k => laws_eqItemS.l0 k xs xs i) true
  | i, hi => by
    refine Ev.step (laws_eqItemS.l0.eq_2 _ _ _) ?_
    by_cases h : i < xs.length
    · refine ev_pos (by omega) (ev_pos (by omega) (ev_pos (by omega) ?_))
      rw [w64s i (by omega)]
      exact Ev.bind (ev_eq (eqItem_eq _)) (ev_pos rfl (eqItemS_l xs hn (i + 1) (by omega)))
    · exact ev_neg (by omega) (ev_now rfl)
  termination_by i => xs.length - i
theorem eqItemS2_ev (xs : List S36) (hn : xs.length ≤ 2000000) : Ev (fun k => laws_eqItemS.f k xs xs) true := by
  unfold laws_eqItemS.f
  exact ev_pos rfl (eqItemS_l xs hn 0 (by omega))
theorem eqItemS_ev (xs : List S36) (hn : xs.length ≤ 1048576) : Ev (fun k => laws_eqItemS.f k xs xs) true := eqItemS2_ev xs (by omega)

/-! ### view -/
theorem szView_ev (xs : List S46) (hb : xs.length * 40 ≤ 140737488351232 ∧ ∀ y ∈ xs, Wf46 y) (a : Int) (h0 : 0 ≤ a) (h1 : a ≤ 1048576) : Ev (fun k => laws_szView.f k xs a) (left a (wtItemS xs)) := by
  unfold laws_szView.f
  refine Ev.bind (szItemS_ev xs (by omega) hb.2 a h0 h1) ev_left
theorem toView_ev (xs : List S46) (hn : xs.length ≤ 1048576) : Ev (fun k => laws_toView.f k xs) (xs.map cvItem) := by
  unfold laws_toView.f
  exact Ev.bind (toItemS_ev xs hn) (ev_now rfl)
theorem eqView_ev (xs : List S36) (hn : xs.length ≤ 1048576) : Ev (fun k => laws_eqView.f k xs xs) true := by
  unfold laws_eqView.f
  exact Ev.bind (eqItemS_ev xs hn) (ev_pos rfl (ev_now rfl))
theorem wtItemS_len {xs : List S46} {a : Int} (h : 0 ≤ left a (wtItemS xs)) (ha : a ≤ 1048576) : xs.length ≤ 1048576 ∧ (∀ y ∈ xs, wtItem y ≤ 1048576) := by
  have h2 := (left_le h).1
  unfold wtItemS at h2
  exact ⟨by omega, fun y hy => by have := sumBy_mem (f := wtItem) hy; omega⟩
theorem eqView2_ev (xs : List S36) (hn : xs.length ≤ 2000000) : Ev (fun k => laws_eqView.f k xs xs) true := by
  unfold laws_eqView.f
  exact Ev.bind (eqItemS2_ev xs hn) (ev_pos rfl (ev_now rfl))

/-! ### marksview -/
noncomputable def imk (a i : Nat) : S36 := ⟨mtx (a + 3 * i), ((Int.tmod (((a + 3 * i + 1 : Nat) : Int)) 3) == 0), mtx (a + 3 * i + 2)⟩
noncomputable def imarks (a n : Nat) : List S36 := (List.range' 0 n).map (imk a)
theorem imarks_len (a n : Nat) : (imarks a n).length = n := by simp [imarks]
theorem rd_setI (ys : List S36) (x : S36) (i : Nat) (h : i < ys.length) : rd_T36 (ys.set i x) (i : Int) = x := by rw [rd_itemI _ i (by simpa using h), List.getElem_set_self]
theorem markItemS_m (n a : Nat) (hn : n ≤ 1048577) (ha : a ≤ 10) : ∀ (i : Nat) (ys : List S36), i ≤ n → ys.length = n →
    Ev (fun k => laws_markItemS.l0 k ys ((a + 3 * i : Nat) : Int) (i : Int)) (((a + 3 * n : Nat) : Int), ys.take i ++ (List.range' i (n - i)).map (imk a))
  | i, ys, hi, hl => by
    refine Ev.step (laws_markItemS.l0.eq_2 _ _ _) ?_
    by_cases h : i < n
    · have e1 : wrap64 (((a + 3 * i : Nat) : Int) + 1) = ((a + 3 * i + 1 : Nat) : Int) := w64s _ (by omega)
      have e2 : wrap64 (((a + 3 * i + 1 : Nat) : Int) + 1) = ((a + 3 * i + 2 : Nat) : Int) := w64s _ (by omega)
      have e3 : wrap64 (((a + 3 * i + 2 : Nat) : Int) + 1) = ((a + 3 * (i + 1) : Nat) : Int) := by rw [show a + 3 * (i + 1) = a + 3 * i + 2 + 1 by omega]; exact w64s _ (by omega)
      refine ev_pos (by omega) (Ev.bind (mtx_ev _ (by omega)) (ev_pos (by omega) (Ev.bind (Ev.now _) (Ev.bind (Ev.now _) ?_))))
      rw [e1, e2, e3, Int.toNat_natCast, w64s i (by omega)]
      refine Ev.bind (mtx_ev _ (by omega)) ?_
      refine ev_to (markItemS_m n a hn ha (i + 1) _ (by omega) (by rw [List.length_set, List.length_set, List.length_set]; exact hl)) ?_
      rw [rd_setI ys _ i (by omega), rd_setI (ys.set i _) _ i (by rw [List.length_set]; omega)]
      simp only [List.set_set]
      congr 1
      rw [List.take_succ_eq_append_getElem (by simp; omega)]
      simp only [List.getElem_set_self, List.append_assoc, List.take_set_of_le (Nat.le_refl i)]
      congr 1
      rw [show n - i = (n - (i + 1)) + 1 by omega, List.range'_succ]
      rfl
    · have : i = n := by omega
      subst this
      refine ev_neg (by omega) (ev_now ?_)
      simp [← hl]
  termination_by i => n - i
theorem markView_m (xs : List S36) (hn : xs.length ≤ 1048577) : Ev (fun k => laws_markView.f k xs 1) (((1 + 3 * xs.length : Nat) : Int), imarks 1 xs.length) := by
  have he := markItemS_m xs.length 1 hn (by omega) 0 xs (by omega) rfl
  rw [List.take_zero, List.nil_append, Nat.sub_zero] at he
  unfold laws_markView.f laws_markItemS.f
  exact Ev.bind he (ev_now rfl)
theorem heldItemS_l (n a : Nat) (hn : n ≤ 1048577) (ha : a ≤ 10) : ∀ (i : Nat), i ≤ n → Ev (fun k => laws_heldItemS.l0 k (imarks a n) ((a + 3 * i : Nat) : Int) (i : Int)) ((a + 3 * n : Nat) : Int)
  | i, hi => by
    refine Ev.step (laws_heldItemS.l0.eq_2 _ _ _) ?_
    have hl := imarks_len a n
    by_cases h : i < n
    · have e1 : wrap64 (((a + 3 * i : Nat) : Int) + 1) = ((a + 3 * i + 1 : Nat) : Int) := w64s _ (by omega)
      have e2 : wrap64 (((a + 3 * i + 1 : Nat) : Int) + 1) = ((a + 3 * i + 2 : Nat) : Int) := w64s _ (by omega)
      have e3 : wrap64 (((a + 3 * i + 2 : Nat) : Int) + 1) = ((a + 3 * (i + 1) : Nat) : Int) := by rw [show a + 3 * (i + 1) = a + 3 * i + 2 + 1 by omega]; exact w64s _ (by omega)
      have he : rd_T36 (imarks a n) (i : Int) = imk a i := by
        rw [rd_itemI _ i (by omega)]; simp [imarks]
      rw [he, e1, e2, e3, w64s i (by omega)]
      exact ev_pos (by omega) (ev_pos (by omega) (Ev.bind (mtx_ev _ (by omega)) (ev_pos rfl (ev_neg (by simp [imk]) (Ev.bind (mtx_ev _ (by omega)) (ev_pos rfl (heldItemS_l n a hn ha (i + 1) (by omega))))))))
    · have : i = n := by omega
      subst this
      exact ev_neg (by omega) (ev_now rfl)
  termination_by i => n - i
theorem heldView_m (n : Nat) (hn : n ≤ 1048577) : Ev (fun k => laws_heldView.f k (imarks 1 n) 1) ((1 + 3 * n : Nat) : Int) := by
  unfold laws_heldView.f laws_heldItemS.f
  exact Ev.bind (heldItemS_l n 1 hn (by omega) 0 (by omega)) (ev_neg (by omega) (ev_now rfl))

/-! ### stable -/
/-- An order that ties: who is before whom. -/
structure Wk {α : Type} (lt : α → α → Bool) : Prop where
  irr : ∀ a, lt a a = false
  asy : ∀ a b, lt a b = true → lt b a = false
  neg : ∀ a b c, lt b a = false → lt c b = false → lt c a = false
section
variable {α : Type} {lt : α → α → Bool}
def tie (lt : α → α → Bool) (a b : α) : Bool := !lt a b && !lt b a
def Srt (lt : α → α → Bool) (xs : List α) : Prop := xs.Pairwise (fun a b => lt b a = false)
/-- The same, with ties in their order. -/
def Stb (lt : α → α → Bool) (xs ys : List α) : Prop := ∀ a, xs.filter (tie lt a) = ys.filter (tie lt a)
theorem tie_self (h : Wk lt) (a : α) : tie lt a a = true := by simp [tie, h.irr a]
theorem tie_iff {a b : α} : tie lt a b = true ↔ lt a b = false ∧ lt b a = false := by simp [tie]
theorem Stb.refl (xs : List α) : Stb lt xs xs := fun _ => rfl
theorem Stb.trans {xs ys zs : List α} (h : Stb lt xs ys) (g : Stb lt ys zs) : Stb lt xs zs := fun a => (h a).trans (g a)
theorem Stb.symm {xs ys : List α} (h : Stb lt xs ys) : Stb lt ys xs := fun a => (h a).symm
theorem Stb.app {xs ys us vs : List α} (h : Stb lt xs ys) (g : Stb lt us vs) : Stb lt (xs ++ us) (ys ++ vs) := fun a => by rw [List.filter_append, List.filter_append, h a, g a]
theorem Stb.mem (hw : Wk lt) {xs ys : List α} (h : Stb lt xs ys) {a : α} : a ∈ xs ↔ a ∈ ys := by
  have e : ∀ zs : List α, a ∈ zs ↔ a ∈ zs.filter (tie lt a) := fun zs => by simp [List.mem_filter, tie_self hw a]
  rw [e xs, e ys, h a]
/-- Two pieces with no ties between them change places. -/
theorem Stb.swap {us vs : List α} (h : ∀ u ∈ us, ∀ v ∈ vs, tie lt u v = false) (hw : Wk lt) : Stb lt (us ++ vs) (vs ++ us) := by
  intro a
  rw [List.filter_append, List.filter_append]
  by_cases hu : us.filter (tie lt a) = []
  · rw [hu, List.nil_append, List.append_nil]
  · have hv : vs.filter (tie lt a) = [] := by
      rw [List.filter_eq_nil_iff]
      intro v hv hav
      obtain ⟨u, hu⟩ := List.exists_mem_of_ne_nil _ hu
      obtain ⟨h1, h2⟩ := List.mem_filter.1 hu
      have := h u h1 v hv
      rw [tie_iff] at h2 hav
      have t : tie lt u v = true := by
        rw [tie_iff]
        exact ⟨hw.neg v a u hav.1 h2.2, hw.neg u a v h2.1 hav.2⟩
      rw [t] at this
      cases this
    rw [hv, List.nil_append, List.append_nil]
theorem Srt.cons {x : α} {r : List α} : Srt lt (x :: r) ↔ (∀ y ∈ r, lt y x = false) ∧ Srt lt r := List.pairwise_cons
theorem Srt.app {xs ys : List α} : Srt lt (xs ++ ys) ↔ Srt lt xs ∧ Srt lt ys ∧ ∀ x ∈ xs, ∀ y ∈ ys, lt y x = false := List.pairwise_append
/-- What is in order, with ties in their order, is one alone. -/
theorem stb_one (hw : Wk lt) : ∀ (xs ys : List α), Srt lt xs → Srt lt ys → Stb lt xs ys → xs = ys
  | [], [], _, _, _ => rfl
  | [], y :: s, _, _, h => by
    have := (h.mem hw (a := y)).2 (List.mem_cons_self ..)
    cases this
  | x :: r, [], _, _, h => by
    have := (h.mem hw (a := x)).1 (List.mem_cons_self ..)
    cases this
  | x :: r, y :: s, hx, hy, h => by
    obtain ⟨hx1, hx2⟩ := Srt.cons.1 hx
    obtain ⟨hy1, hy2⟩ := Srt.cons.1 hy
    have le1 : lt y x = false := by
      rcases List.mem_cons.1 ((h.mem hw (a := y)).2 (List.mem_cons_self ..)) with e | e
      · rw [e]; exact hw.irr x
      · exact hx1 y e
    have le2 : lt x y = false := by
      rcases List.mem_cons.1 ((h.mem hw (a := x)).1 (List.mem_cons_self ..)) with e | e
      · rw [e]; exact hw.irr y
      · exact hy1 x e
    have t : tie lt x y = true := tie_iff.2 ⟨le2, le1⟩
    have e := h x
    rw [List.filter_cons_of_pos (tie_self hw x), List.filter_cons_of_pos t] at e
    obtain ⟨rfl, _⟩ := List.cons.inj e
    refine congrArg (x :: ·) (stb_one hw r s hx2 hy2 (fun a => ?_))
    have e2 := h a
    by_cases ha : tie lt a x = true
    · rw [List.filter_cons_of_pos ha, List.filter_cons_of_pos ha] at e2
      exact (List.cons.inj e2).2
    · rw [List.filter_cons_of_neg ha, List.filter_cons_of_neg ha] at e2
      exact e2
theorem len_split (p : α → Bool) : ∀ xs : List α, xs.length = (xs.filter p).length + (xs.filter (fun y => !p y)).length
  | [] => rfl
  | x :: r => by
    have ih := len_split p r
    by_cases h : p x = true
    · rw [List.filter_cons_of_pos h, List.filter_cons_of_neg (by simp [h]), List.length_cons, List.length_cons]; omega
    · rw [List.filter_cons_of_neg h, List.filter_cons_of_pos (by simpa using h), List.length_cons, List.length_cons]; omega
theorem Stb.len (hw : Wk lt) : ∀ (n : Nat) (xs ys : List α), xs.length = n → Stb lt xs ys → xs.length = ys.length := by
  intro n
  induction n using Nat.strongRecOn with
  | _ n ih =>
    intro xs ys hn h
    cases xs with
    | nil =>
      cases ys with
      | nil => rfl
      | cons y s => have := (h.mem hw (a := y)).2 (List.mem_cons_self ..); cases this
    | cons x r =>
      -- all that tie with x, and the rest
      have hx := len_split (tie lt x) (x :: r)
      have hy := len_split (tie lt x) ys
      have hlt : ((x :: r).filter (fun y => !tie lt x y)).length < n := by
        have : 0 < ((x :: r).filter (tie lt x)).length := by rw [List.filter_cons_of_pos (tie_self hw x)]; simp
        omega
      have hs : Stb lt ((x :: r).filter (fun y => !tie lt x y)) (ys.filter (fun y => !tie lt x y)) := by
        intro a
        rw [List.filter_filter, List.filter_filter]
        have c : ∀ zs : List α, zs.filter (fun y => tie lt a y && !tie lt x y) = (zs.filter (tie lt a)).filter (fun y => !tie lt x y) := fun zs => by
          rw [List.filter_filter]
          congr 1
          funext y
          rw [Bool.and_comm]
        rw [c, c, h a]
      rw [hx, hy, h x, ih _ hlt _ _ rfl hs]
/-- A step of a merge: the two middle pieces have changed places, both halves are merged. -/
theorem merge_step (hw : Wk lt) {L1 U V R2 M1 M2 : List α} (hL : Srt lt (L1 ++ U)) (hR : Srt lt (V ++ R2)) (h1 : ∀ u ∈ U, ∀ v ∈ V, lt v u = true) (h2 : ∀ x ∈ L1, ∀ y ∈ R2, lt y x = false)
    (s1 : Srt lt M1) (t1 : Stb lt M1 (L1 ++ V)) (s2 : Srt lt M2) (t2 : Stb lt M2 (U ++ R2)) : Srt lt (M1 ++ M2) ∧ Stb lt (M1 ++ M2) ((L1 ++ U) ++ (V ++ R2)) := by
  obtain ⟨_, _, hLU⟩ := Srt.app.1 hL
  obtain ⟨_, _, hVR⟩ := Srt.app.1 hR
  refine ⟨Srt.app.2 ⟨s1, s2, fun x hx y hy => ?_⟩, ?_⟩
  · have hx' := List.mem_append.1 ((t1.mem hw).1 hx)
    have hy' := List.mem_append.1 ((t2.mem hw).1 hy)
    rcases hx' with hx' | hx'
    · rcases hy' with hy' | hy'
      · exact hLU x hx' y hy'
      · exact h2 x hx' y hy'
    · rcases hy' with hy' | hy'
      · exact hw.asy _ _ (h1 y hy' x hx')
      · exact hVR x hx' y hy'
  · have e : (L1 ++ U) ++ (V ++ R2) = L1 ++ ((U ++ V) ++ R2) := by simp
    have sw : Stb lt (V ++ U) (U ++ V) := (Stb.swap (us := U) (vs := V) (fun u hu v hv => by simp [tie, h1 u hu v hv]) hw).symm
    have e2 : (L1 ++ V) ++ (U ++ R2) = L1 ++ ((V ++ U) ++ R2) := by simp
    rw [e]
    refine (t1.app t2).trans ?_
    rw [e2]
    exact (Stb.refl L1).app (sw.app (Stb.refl R2))
/-- One element goes behind all that it is not before. -/
theorem ins_step (hw : Wk lt) {x : α} {P Q : List α} (hs : Srt lt (P ++ Q)) (h1 : ∀ y ∈ P, lt x y = false) (h2 : ∀ y ∈ Q, lt x y = true) : Srt lt (P ++ x :: Q) ∧ Stb lt (P ++ x :: Q) (P ++ Q ++ [x]) := by
  obtain ⟨a1, a2, a3⟩ := Srt.app.1 hs
  refine ⟨Srt.app.2 ⟨a1, Srt.cons.2 ⟨fun y hy => hw.asy _ _ (h2 y hy), a2⟩, fun p hp y hy => ?_⟩, ?_⟩
  · rcases List.mem_cons.1 hy with rfl | hy
    · exact h1 p hp
    · exact a3 p hp y hy
  · have sw : Stb lt ([x] ++ Q) (Q ++ [x]) := Stb.swap (fun u hu v hv => by rw [List.mem_singleton] at hu; subst hu; simp [tie, h2 v hv]) hw
    rw [List.append_assoc]
    exact (Stb.refl P).app sw
/-- One element goes ahead of all that are not before it. -/
theorem ins_front (hw : Wk lt) {x : α} {P Q : List α} (hs : Srt lt (P ++ Q)) (h1 : ∀ y ∈ P, lt y x = true) (h2 : ∀ y ∈ Q, lt y x = false) : Srt lt (P ++ x :: Q) ∧ Stb lt (P ++ x :: Q) (x :: (P ++ Q)) := by
  obtain ⟨a1, a2, a3⟩ := Srt.app.1 hs
  refine ⟨Srt.app.2 ⟨a1, Srt.cons.2 ⟨h2, a2⟩, fun p hp y hy => ?_⟩, ?_⟩
  · rcases List.mem_cons.1 hy with rfl | hy
    · exact hw.asy _ _ (h1 p hp)
    · exact a3 p hp y hy
  · have sw : Stb lt (P ++ [x]) ([x] ++ P) := Stb.swap (fun u hu v hv => by rw [List.mem_singleton] at hv; subst hv; simp [tie, h1 u hu]) hw
    have e : P ++ x :: Q = (P ++ [x]) ++ Q := by simp
    rw [e]
    exact sw.app (Stb.refl Q)
theorem srt_get {xs : List α} (h : Srt lt xs) {i j : Nat} (hij : i < j) (hj : j < xs.length) : lt xs[j] xs[i] = false := List.pairwise_iff_getElem.1 h i j (by omega) hj hij
theorem srt_le (hw : Wk lt) {xs : List α} (h : Srt lt xs) {i j : Nat} (hij : i ≤ j) (hj : j < xs.length) : lt xs[j] xs[i] = false := by
  rcases Nat.lt_or_eq_of_le hij with h1 | h1
  · exact srt_get h h1 hj
  · subst h1; exact hw.irr _
theorem srt_take {xs : List α} (h : Srt lt xs) (n : Nat) : Srt lt (xs.take n) := by
  have := List.take_append_drop n xs
  rw [← this] at h
  exact (Srt.app.1 h).1
theorem srt_drop {xs : List α} (h : Srt lt xs) (n : Nat) : Srt lt (xs.drop n) := by
  have := List.take_append_drop n xs
  rw [← this] at h
  exact (Srt.app.1 h).2.1
/-- Where the two halves are cut. -/
theorem cut_ok (hw : Wk lt) {L R : List α} (hL : Srt lt L) (hR : Srt lt R) (s e : Nat) (hs : s ≤ L.length) (he : e ≤ R.length)
    (c1 : ∀ (h1 : s < L.length) (h2 : 0 < e), lt (R[e - 1]'(by omega)) L[s] = true) (c2 : ∀ (h1 : 0 < s) (h2 : e < R.length), lt R[e] (L[s - 1]'(by omega)) = false) :
    (∀ u ∈ L.drop s, ∀ v ∈ R.take e, lt v u = true) ∧ (∀ x ∈ L.take s, ∀ y ∈ R.drop e, lt y x = false) := by
  constructor
  · intro u hu v hv
    obtain ⟨i, hi, rfl⟩ := List.mem_iff_getElem.1 hu
    obtain ⟨j, hj, rfl⟩ := List.mem_iff_getElem.1 hv
    rw [List.length_drop] at hi
    rw [List.length_take] at hj
    rw [List.getElem_drop, List.getElem_take]
    have k := c1 (by omega) (by omega)
    have a := srt_le hw hL (i := s) (j := s + i) (by omega) (by omega)
    have b := srt_le hw hR (i := j) (j := e - 1) (by omega) (by omega)
    by_cases hn : lt R[j] L[s + i] = true
    · exact hn
    · have hn' : lt R[j] L[s + i] = false := by simpa using hn
      have q1 := hw.neg L[s] L[s + i] R[j] a hn'
      have q2 := hw.neg L[s] R[j] (R[e - 1]'(by omega)) q1 b
      rw [q2] at k
      cases k
  · intro x hx y hy
    obtain ⟨i, hi, rfl⟩ := List.mem_iff_getElem.1 hx
    obtain ⟨j, hj, rfl⟩ := List.mem_iff_getElem.1 hy
    rw [List.length_take] at hi
    rw [List.length_drop] at hj
    rw [List.getElem_drop, List.getElem_take]
    have k := c2 (by omega) (by omega)
    have a := srt_le hw hL (i := i) (j := s - 1) (by omega) (by omega)
    have b := srt_le hw hR (i := e) (j := e + j) (by omega) (by omega)
    exact hw.neg L[i] R[e] R[e + j] (hw.neg L[i] (L[s - 1]'(by omega)) R[e] a k) b
end

/-! ### blneg -/
theorem bl_cons (a b : UInt8) (x y : List UInt8) : Op.bytesLess (a :: x) (b :: y) = false ↔ b.toNat < a.toNat ∨ (a.toNat = b.toNat ∧ Op.bytesLess x y = false) := by
  simp only [Op.bytesLess]
  rcases Nat.lt_trichotomy a.toNat b.toNat with h | h | h
  · have h1 : a < b := UInt8.lt_iff_toNat_lt.2 h
    simp [h1]; omega
  · have h1 : a = b := UInt8.toNat_inj.1 h
    subst h1
    have h2 : ¬ a < a := fun c => by have := UInt8.lt_iff_toNat_lt.1 c; omega
    simp [h2]
  · have h2 : ¬ a < b := fun c => by have := UInt8.lt_iff_toNat_lt.1 c; omega
    have h3 : ¬ a = b := fun c => by subst c; omega
    simp [h2, h3]; omega
theorem bl_neg : ∀ (a b c : List UInt8), Op.bytesLess b a = false → Op.bytesLess c b = false → Op.bytesLess c a = false := by
  intro a
  induction a with
  | nil => intro b c _ _; cases c <;> simp [Op.bytesLess]
  | cons x r ih =>
    intro b c h1 h2
    cases b with
    | nil => simp [Op.bytesLess] at h1
    | cons y s =>
      cases c with
      | nil => simp [Op.bytesLess] at h2
      | cons z t =>
        rw [bl_cons] at h1 h2 ⊢
        rcases h1 with h1 | ⟨h1, k1⟩ <;> rcases h2 with h2 | ⟨h2, k2⟩
        · left; omega
        · left; omega
        · left; omega
        · right; exact ⟨by omega, ih s t k1 k2⟩

/-! ### blirr -/
theorem bl_irr (x : List UInt8) : Op.bytesLess x x = false := by
  have h := bl_leq x x
  cases hb : Op.bytesLess x x with
  | false => rfl
  | true => rw [hb] at h; simp at h
theorem bl_tot {x y : List UInt8} (h : ¬ y = x) : Op.bytesLess y x = !Op.bytesLess x y := by
  have e := bl_leq y x
  rw [beq_false_of_ne h, Bool.or_false] at e
  exact e

/-! ### sortst -/
def ltI (x y : S36) : Bool := Op.bytesLess x.f0.toList y.f0.toList
theorem wkI : Wk ltI := ⟨fun a => bl_irr _, fun a b h => by
  have e := bl_leq a.f0.toList b.f0.toList
  unfold ltI at h ⊢
  rw [h, Bool.true_or] at e
  simpa using e.symm, fun a b c h1 h2 => bl_neg _ _ _ h1 h2⟩
/-- From some number of rounds on it comes to something of that kind. -/
def Wv {α : Type} (g : Nat → Option α) (Q : α → Prop) : Prop := ∃ r, Ev g r ∧ Q r
section
variable {α β : Type}
theorem Wv.now {a : α} {Q : α → Prop} (h : Q a) : Wv (fun _ => some a) Q := ⟨a, ev_now rfl, h⟩
theorem Wv.pos {c : Prop} [Decidable c] {f g : Nat → Option α} {Q : α → Prop} (h : c) (e : Wv f Q) : Wv (fun k => if c then f k else g k) Q := by obtain ⟨r, e, q⟩ := e; exact ⟨r, ev_pos h e, q⟩
theorem Wv.neg {c : Prop} [Decidable c] {f g : Nat → Option α} {Q : α → Prop} (h : ¬ c) (e : Wv g Q) : Wv (fun k => if c then f k else g k) Q := by obtain ⟨r, e, q⟩ := e; exact ⟨r, ev_neg h e, q⟩
theorem Wv.bind {f : Nat → Option α} {g : α → Nat → Option β} {P : α → Prop} {Q : β → Prop} (h : Wv f P) (k : ∀ r, P r → Wv (g r) Q) : Wv (fun n => (f n).bind fun r => g r n) Q := by
  obtain ⟨r, e, p⟩ := h
  obtain ⟨s, e2, q⟩ := k r p
  exact ⟨s, Ev.bind e e2, q⟩
theorem Wv.step {g h : Nat → Option α} {Q : α → Prop} (e : ∀ k, g (k + 1) = h k) (w : Wv h Q) : Wv g Q := by obtain ⟨r, e2, q⟩ := w; exact ⟨r, Ev.step e e2, q⟩
theorem Wv.imp {g : Nat → Option α} {P Q : α → Prop} (w : Wv g P) (h : ∀ r, P r → Q r) : Wv g Q := by obtain ⟨r, e, q⟩ := w; exact ⟨r, e, h r q⟩
theorem Wv.of {g : Nat → Option α} {r : α} {Q : α → Prop} (e : Ev g r) (h : Q r) : Wv g Q := ⟨r, e, h⟩
end
theorem rd_mid (U : List S36) (x : S36) (V : List S36) {i : Int} (h : i = (U.length : Int)) : rd_T36 (U ++ x :: V) i = x := by
  subst h
  unfold rd_T36
  rw [Int.toNat_natCast, List.getD_eq_getElem?_getD, List.getElem?_append_right (Nat.le_refl _), Nat.sub_self]
  rfl
theorem set_mid (U : List S36) (x y : S36) (V : List S36) {i : Int} (h : i = (U.length : Int)) : (U ++ x :: V).set i.toNat y = U ++ y :: V := by
  subst h
  rw [Int.toNat_natCast, List.set_append_right _ _ (Nat.le_refl _), Nat.sub_self]
  rfl
/-- Two elements change places. -/
theorem swap_mid (U : List S36) (x : S36) (C : List S36) (y : S36) (V : List S36) {i j : Int} (h : i = (U.length : Int)) (h2 : j = ((U.length + 1 + C.length : Nat) : Int)) :
    ((U ++ x :: (C ++ y :: V)).set i.toNat y).set j.toNat x = U ++ y :: (C ++ x :: V) ∧ ((U ++ x :: (C ++ y :: V)).set j.toNat x).set i.toNat y = U ++ y :: (C ++ x :: V) := by
  have e1 : ∀ z, U ++ z :: (C ++ y :: V) = (U ++ z :: C) ++ y :: V := fun z => by simp
  have e2 : ∀ z, (U ++ z :: C) ++ x :: V = U ++ z :: (C ++ x :: V) := fun z => by simp
  have l : ∀ z, j = ((U ++ z :: C).length : Int) := fun z => by rw [h2]; simp; omega
  constructor
  · rw [set_mid U x y _ h, e1, set_mid _ y x V (l y), e2]
  · rw [e1, set_mid _ y x V (l x), e2, set_mid U x y _ h]
theorem rd_far (U : List S36) (x : S36) (C : List S36) (y : S36) (V : List S36) {j : Int} (h2 : j = ((U.length + 1 + C.length : Nat) : Int)) : rd_T36 (U ++ x :: (C ++ y :: V)) j = y := by
  have e1 : U ++ x :: (C ++ y :: V) = (U ++ x :: C) ++ y :: V := by simp
  rw [e1]
  exact rd_mid _ y V (by rw [h2]; simp; omega)
theorem cmp_ev (x y : S36) : ∃ c : Int, impl_MovedItems_1.f x.f0 x.f1 x.f2 y.f0 y.f1 y.f2 = some c ∧ (c < 0 ↔ ltI x y = true) := by
  unfold impl_MovedItems_1.f cmp_Compare_string.f cmp_isNaN_string.f ltI
  have n : ∀ z : List UInt8, (z != z) = false := fun z => by simp
  rw [n, n]
  simp only [Option.bind_some]
  rw [if_neg (by decide), if_neg (by decide)]
  by_cases h : Op.bytesLess x.f0.toList y.f0.toList = true
  · rw [if_pos h]; exact ⟨-1, rfl, by simp [h]⟩
  · rw [if_neg h]
    by_cases h2 : Op.bytesLess y.f0.toList x.f0.toList = true
    · rw [if_pos h2]; exact ⟨1, rfl, by simp [h]⟩
    · rw [if_neg h2]; exact ⟨0, rfl, by simp [h]⟩
theorem cmp_t {γ : Type} {f g : Nat → Option γ} {Q : γ → Prop} (x y : S36) (h1 : ltI x y = true → Wv f Q) (h2 : ltI x y = false → Wv g Q) :
    Wv (fun k => (impl_MovedItems_1.f x.f0 x.f1 x.f2 y.f0 y.f1 y.f2).bind fun t => if t < 0 then f k else g k) Q := by
  obtain ⟨c, e, h⟩ := cmp_ev x y
  rw [e]
  refine Wv.bind (P := fun r => r = c) ⟨c, ev_now rfl, rfl⟩ (fun r hr => ?_)
  subst hr
  by_cases hc : r < 0
  · exact Wv.pos hc (h1 (h.1 hc))
  · exact Wv.neg hc (h2 (by cases hl : ltI x y with | false => rfl | true => exact absurd (h.2 hl) hc))
theorem half_eq (i j : Nat) (hi : i ≤ 1000000000) (hj : j ≤ 1000000000) : wrap64 ((IntKind.u64.wrap (wrap64 ((i : Int) + (j : Int)))) / 2) = (((i + j) / 2 : Nat) : Int) := by
  rw [w64 (x := (i : Int) + j) (by omega) (by omega)]
  have : IntKind.u64.wrap ((i : Int) + j) = (i : Int) + j := by
    unfold IntKind.wrap
    simp [IntKind.bits, IntKind.signed]
    omega
  rw [this, w64 (by omega) (by omega)]
  omega
theorem w64n {x : Int} (n : Nat) (h : x = (n : Int)) (hn : n ≤ 9000000000000000000) : wrap64 x = (n : Int) := by rw [h]; exact w64 (by omega) (by omega)
/-! insertion -/
theorem ins_l1 (A B : List S36) (x : S36) (b i : Nat) (hb : b ≤ 1000000000) (hi : i ≤ 1000000000) (Q : List S36 → Prop) : ∀ (m : Nat) (P R : List S36), P.length = m → A.length + P.length + R.length ≤ 1000000000 → Srt ltI (P ++ R) → (∀ y ∈ R, ltI x y = true) →
    (∀ M', Srt ltI M' → Stb ltI M' (P ++ R ++ [x]) → Wv (fun k => slices_insertionSortCmpFunc_Item.l0 k (A ++ M' ++ B) A.length b ((i + 1 : Nat) : Int)) Q) →
    Wv (fun k => slices_insertionSortCmpFunc_Item.l1 k (A ++ (P ++ x :: R) ++ B) A.length b i ((A.length + P.length : Nat) : Int)) Q
  | m, P, R, hm, hl, hs, hr, hk => by
    refine Wv.step (slices_insertionSortCmpFunc_Item.l1.eq_2 _ _ _ _ _) ?_
    have fin : (∀ y ∈ P, ltI x y = false) → Wv (fun k => slices_insertionSortCmpFunc_Item.l0 k (A ++ (P ++ x :: R) ++ B) A.length b (wrap64 ((i : Int) + 1))) Q := fun h => by
      obtain ⟨s1, s2⟩ := ins_step wkI hs h hr
      rw [w64s i (by omega)]
      exact hk _ s1 s2
    rcases List.eq_nil_or_concat P with rfl | ⟨P', y, rfl⟩
    · exact Wv.neg (by simp) (fin (fun y hy => by cases hy))
    · rw [List.concat_eq_append] at *
      have lp : (P' ++ [y]).length = P'.length + 1 := by simp
      rw [lp] at hm hl
      refine Wv.pos (by rw [lp]; omega) (Wv.pos (by omega) (Wv.pos (by simp; omega) ?_))
      rw [w64n (x := ((A.length + (P' ++ [y]).length : Nat) : Int) - 1) (A.length + P'.length) (by rw [lp]; omega) (by omega)]
      refine Wv.pos (by omega) (Wv.pos (by simp; omega) ?_)
      have e : A ++ (P' ++ [y] ++ x :: R) ++ B = (A ++ P') ++ y :: ([] ++ x :: (R ++ B)) := by simp
      rw [e]
      have r1 : rd_T36 ((A ++ P') ++ y :: ([] ++ x :: (R ++ B))) ((A.length + (P' ++ [y]).length : Nat) : Int) = x := rd_far _ _ _ _ _ (by simp; omega)
      have r2 : rd_T36 ((A ++ P') ++ y :: ([] ++ x :: (R ++ B))) ((A.length + P'.length : Nat) : Int) = y := rd_mid _ _ _ (by simp)
      rw [r1, r2]
      refine cmp_t x y (fun h => ?_) (fun h => ?_)
      · rw [(swap_mid (A ++ P') y [] x (R ++ B) (i := ((A.length + P'.length : Nat) : Int)) (j := ((A.length + (P' ++ [y]).length : Nat) : Int)) (by simp) (by simp; omega)).2]
        have e2 : A ++ P' ++ x :: ([] ++ y :: (R ++ B)) = A ++ (P' ++ x :: (y :: R)) ++ B := by simp
        rw [e2]
        exact ins_l1 A B x b i hb hi Q P'.length P' (y :: R) rfl (by simp; omega) (by simpa using hs) (fun z hz => by
          rcases List.mem_cons.1 hz with rfl | hz
          · exact h
          · exact hr z hz) (fun M' h1 h2 => hk M' h1 (by simpa using h2))
      · rw [← e]
        refine fin (fun z hz => ?_)
        rcases List.mem_append.1 hz with hz | hz
        · have := (Srt.app.1 (Srt.app.1 hs).1).2.2 z hz y (by simp)
          exact wkI.neg z y x this h
        · rw [List.mem_singleton] at hz; rw [hz]; exact h
  termination_by m => m
theorem ins_l0 (A B : List S36) : ∀ (m : Nat) (D E : List S36), E.length = m → A.length + D.length + E.length ≤ 1000000000 → Srt ltI D →
    Wv (fun k => slices_insertionSortCmpFunc_Item.l0 k (A ++ (D ++ E) ++ B) A.length ((A.length + D.length + E.length : Nat) : Int) ((A.length + D.length : Nat) : Int)) (fun r => ∃ M', r = A ++ M' ++ B ∧ Srt ltI M' ∧ Stb ltI M' (D ++ E))
  | m, D, [], hm, hl, hs => by
    refine Wv.step (slices_insertionSortCmpFunc_Item.l0.eq_2 _ _ _ _) ?_
    exact Wv.neg (by simp) (Wv.now ⟨D, by simp, hs, by rw [List.append_nil]; exact Stb.refl _⟩)
  | m, D, x :: E, hm, hl, hs => by
    refine Wv.step (slices_insertionSortCmpFunc_Item.l0.eq_2 _ _ _ _) ?_
    have lx : (x :: E).length = E.length + 1 := by simp
    rw [lx] at hl hm ⊢
    refine Wv.pos (by omega) ?_
    have e : A ++ (D ++ x :: E) ++ B = A ++ (D ++ x :: []) ++ (E ++ B) := by simp
    rw [e]
    refine ins_l1 A (E ++ B) x (A.length + D.length + (E.length + 1)) (A.length + D.length) (by omega) (by omega) _ D.length D [] rfl (by simp; omega) (by simpa using hs) (fun y hy => by cases hy) (fun M' h1 h2 => ?_)
    have ln := Stb.len wkI _ M' (D ++ [] ++ [x]) rfl h2
    have lq : (D ++ [] ++ [x]).length = D.length + 1 := by simp
    rw [lq] at ln
    have ih := ins_l0 A B E.length M' E rfl (by omega) h1
    rw [show A.length + D.length + 1 = A.length + M'.length by omega, show A.length + D.length + (E.length + 1) = A.length + M'.length + E.length by omega, show A ++ M' ++ (E ++ B) = A ++ (M' ++ E) ++ B by simp]
    refine ih.imp (fun r hr => ?_)
    obtain ⟨M2, e2, s2, t2⟩ := hr
    refine ⟨M2, e2, s2, t2.trans ?_⟩
    have := h2.app (Stb.refl (lt := ltI) E)
    simpa using this
  termination_by m => m
/-- Insertion sorts a piece. -/
theorem ins_ok (A M B : List S36) (hl : A.length + M.length ≤ 1000000000) {a b : Int} (ha : a = (A.length : Int)) (hb : b = ((A.length + M.length : Nat) : Int)) :
    Wv (fun k => slices_insertionSortCmpFunc_Item.f k (A ++ M ++ B) a b ()) (fun r => ∃ M', r = A ++ M' ++ B ∧ Srt ltI M' ∧ Stb ltI M' M) := by
  subst ha hb
  unfold slices_insertionSortCmpFunc_Item.f
  rw [w64s A.length (by omega)]
  cases M with
  | nil =>
    refine Wv.step (slices_insertionSortCmpFunc_Item.l0.eq_2 _ _ _ _) ?_
    exact Wv.neg (by simp; omega) (Wv.now ⟨[], rfl, List.Pairwise.nil, Stb.refl _⟩)
  | cons x E =>
    have := ins_l0 A B E.length [x] E rfl (by simp at hl ⊢; omega) (by simp [Srt])
    have e1 : A.length + (x :: E).length = A.length + [x].length + E.length := by simp; omega
    rw [e1]
    exact this

/-! ### sortmg -/
/-! two pieces change places -/
theorem sw_l0 (A C D : List S36) (n : Nat) (hl : A.length + C.length + D.length + 2 * n ≤ 1000000000) : ∀ (m : Nat) (V1 U2 U1 V2 : List S36), U2.length = m → V2.length = m → U1.length = V1.length → V1.length + m = n →
    Wv (fun k => slices_swapRangeCmpFunc_Item.l0 k (A ++ (V1 ++ U2) ++ C ++ (U1 ++ V2) ++ D) (A.length : Int) ((A.length + n + C.length : Nat) : Int) n (V1.length : Int)) (fun r => r = A ++ (V1 ++ V2) ++ C ++ (U1 ++ U2) ++ D)
  | m, V1, [], U1, [], h1, h2, h3, h4 => by
    refine Wv.step (slices_swapRangeCmpFunc_Item.l0.eq_2 _ _ _ _ _) ?_
    simp at h1
    exact Wv.neg (by omega) (Wv.now rfl)
  | m, V1, [], U1, v :: V2, h1, h2, h3, h4 => by simp at h1 h2; omega
  | m, V1, u :: U2, U1, [], h1, h2, h3, h4 => by simp at h1 h2; omega
  | m, V1, u :: U2, U1, v :: V2, h1, h2, h3, h4 => by
    refine Wv.step (slices_swapRangeCmpFunc_Item.l0.eq_2 _ _ _ _ _) ?_
    rw [List.length_cons] at h1 h2
    have l1 : (V1 ++ u :: U2).length = n := by simp; omega
    have l2 : (U1 ++ v :: V2).length = n := by simp; omega
    rw [w64n (x := ((A.length + n + C.length : Nat) : Int) + (V1.length : Int)) (A.length + n + C.length + V1.length) (by omega) (by omega), w64n (x := (A.length : Int) + (V1.length : Int)) (A.length + V1.length) (by omega) (by omega), w64s V1.length (by omega)]
    have lt : (A ++ (V1 ++ u :: U2) ++ C ++ (U1 ++ v :: V2) ++ D).length = A.length + n + C.length + n + D.length := by simp only [List.length_append, l1, l2]
    refine Wv.pos (by omega) (Wv.pos (by omega) (Wv.pos (by rw [lt]; omega) (Wv.pos (by omega) (Wv.pos (by rw [lt]; omega) ?_))))
    have e : A ++ (V1 ++ u :: U2) ++ C ++ (U1 ++ v :: V2) ++ D = (A ++ V1) ++ u :: ((U2 ++ C ++ U1) ++ v :: (V2 ++ D)) := by simp
    have q2 : ((A.length + n + C.length + V1.length : Nat) : Int) = (((A ++ V1).length + 1 + (U2 ++ C ++ U1).length : Nat) : Int) := by simp; omega
    have q1 : ((A.length + V1.length : Nat) : Int) = ((A ++ V1).length : Int) := by simp
    rw [e, rd_far _ _ _ _ _ q2, rd_mid _ _ _ q1, (swap_mid (A ++ V1) u (U2 ++ C ++ U1) v (V2 ++ D) q1 q2).1]
    have e2 : (A ++ V1) ++ v :: ((U2 ++ C ++ U1) ++ u :: (V2 ++ D)) = A ++ ((V1 ++ [v]) ++ U2) ++ C ++ ((U1 ++ [u]) ++ V2) ++ D := by simp
    rw [e2]
    have ih := sw_l0 A C D n hl U2.length (V1 ++ [v]) U2 (U1 ++ [u]) V2 rfl (by omega) (by simp [h3]) (by simp; omega)
    rw [show (V1 ++ [v]).length = V1.length + 1 by simp] at ih
    exact ih.imp (fun r hr => by rw [hr]; simp)
  termination_by m => m
theorem sw_ok (A U C V D : List S36) (n : Nat) (hu : U.length = n) (hv : V.length = n) (hl : A.length + C.length + D.length + 2 * n ≤ 1000000000) {a b c : Int} (ha : a = (A.length : Int)) (hb : b = ((A.length + n + C.length : Nat) : Int)) (hc : c = (n : Int)) :
    Wv (fun k => slices_swapRangeCmpFunc_Item.f k (A ++ U ++ C ++ V ++ D) a b c ()) (fun r => r = A ++ V ++ C ++ U ++ D) := by
  subst ha hb hc
  unfold slices_swapRangeCmpFunc_Item.f
  have := sw_l0 A C D n hl n [] U [] V hu hv rfl (by simp)
  simpa using this
theorem rot_l0 (n : Nat) : ∀ (A U V D : List S36), U.length + V.length = n → 0 < U.length → 0 < V.length → A.length + U.length + V.length + D.length ≤ 400000000 →
    Wv (fun k => slices_rotateCmpFunc_Item.l0 k (A ++ (U ++ V) ++ D) ((A.length + U.length : Nat) : Int) () (U.length : Int) (V.length : Int)) (fun r => r = A ++ (V ++ U) ++ D) := by
  induction n using Nat.strongRecOn with
  | _ n ih =>
    intro A U V D hn hu hv hl
    refine Wv.step (slices_rotateCmpFunc_Item.l0.eq_2 _ _ _ _ _) ?_
    rw [w64n (x := ((A.length + U.length : Nat) : Int) - (U.length : Int)) A.length (by omega) (by omega)]
    by_cases h : U.length = V.length
    · refine Wv.pos (by omega) (Wv.bind (P := fun r => r = A ++ (V ++ U) ++ D) ?_ (fun r hr => Wv.now hr))
      have := sw_ok A U [] V D U.length rfl h.symm (by simp; omega) (a := (A.length : Int)) (b := ((A.length + U.length : Nat) : Int)) (c := (U.length : Int)) rfl (by simp) rfl
      simpa using this
    · refine Wv.neg (by omega) ?_
      by_cases h2 : V.length < U.length
      · refine Wv.pos (by omega) (Wv.bind (P := fun r => r = A ++ V ++ U.drop V.length ++ U.take V.length ++ D) ?_ (fun r hr => ?_))
        · have := sw_ok A (U.take V.length) (U.drop V.length) V D V.length (by simp; omega) rfl (by simp; omega) (a := (A.length : Int)) (b := ((A.length + U.length : Nat) : Int)) (c := (V.length : Int)) rfl (by simp; omega) rfl
          have e : A ++ (U ++ V) ++ D = A ++ U.take V.length ++ U.drop V.length ++ V ++ D := by
            rw [List.append_assoc A (U.take _), List.take_append_drop]; simp
          rw [e]
          exact this
        · subst hr
          rw [w64n (x := (U.length : Int) - (V.length : Int)) (U.length - V.length) (by omega) (by omega)]
          have := ih U.length (by omega) (A ++ V) (U.drop V.length) (U.take V.length) D (by simp; omega) (by simp; omega) (by simp; omega) (by simp; omega)
          rw [List.length_drop, List.length_take, Nat.min_eq_left (by omega), show (A ++ V).length + (U.length - V.length) = A.length + U.length by simp; omega] at this
          have e : A ++ V ++ U.drop V.length ++ U.take V.length ++ D = A ++ V ++ (U.drop V.length ++ U.take V.length) ++ D := by simp
          rw [e]
          refine this.imp (fun r hr => ?_)
          rw [hr, List.take_append_drop]; simp
      · refine Wv.neg (by omega) (Wv.bind (P := fun r => r = A ++ V.drop (V.length - U.length) ++ V.take (V.length - U.length) ++ U ++ D) ?_ (fun r hr => ?_))
        · rw [w64n (x := ((A.length + U.length : Nat) : Int) + (V.length : Int)) (A.length + U.length + V.length) (by omega) (by omega), w64n (x := ((A.length + U.length + V.length : Nat) : Int) - (U.length : Int)) (A.length + V.length) (by omega) (by omega)]
          have := sw_ok A U (V.take (V.length - U.length)) (V.drop (V.length - U.length)) D U.length rfl (by simp; omega) (by simp; omega) (a := (A.length : Int)) (b := ((A.length + V.length : Nat) : Int)) (c := (U.length : Int)) rfl (by simp; omega) rfl
          have e : A ++ (U ++ V) ++ D = A ++ U ++ V.take (V.length - U.length) ++ V.drop (V.length - U.length) ++ D := by
            rw [List.append_assoc (A ++ U) (V.take _), List.take_append_drop]; simp
          rw [e]
          exact this
        · subst hr
          rw [w64n (x := (V.length : Int) - (U.length : Int)) (V.length - U.length) (by omega) (by omega)]
          have := ih V.length (by omega) A (V.drop (V.length - U.length)) (V.take (V.length - U.length)) (U ++ D) (by simp <;> omega) (by simp; omega) (by simp; omega) (by simp; omega)
          rw [List.length_drop, List.length_take, Nat.min_eq_left (by omega), show V.length - (V.length - U.length) = U.length by omega] at this
          have e : A ++ V.drop (V.length - U.length) ++ V.take (V.length - U.length) ++ U ++ D = A ++ (V.drop (V.length - U.length) ++ V.take (V.length - U.length)) ++ (U ++ D) := by simp
          rw [e]
          refine this.imp (fun r hr => ?_)
          rw [hr, List.take_append_drop]; simp
theorem rot_ok (A U V D : List S36) (hu : 0 < U.length) (hv : 0 < V.length) (hl : A.length + U.length + V.length + D.length ≤ 400000000) {a m b : Int} (ha : a = (A.length : Int)) (hm : m = ((A.length + U.length : Nat) : Int)) (hb : b = ((A.length + U.length + V.length : Nat) : Int)) :
    Wv (fun k => slices_rotateCmpFunc_Item.f k (A ++ (U ++ V) ++ D) a m b ()) (fun r => r = A ++ (V ++ U) ++ D) := by
  subst ha hm hb
  unfold slices_rotateCmpFunc_Item.f
  rw [w64n (x := ((A.length + U.length : Nat) : Int) - (A.length : Int)) U.length (by omega) (by omega), w64n (x := ((A.length + U.length + V.length : Nat) : Int) - ((A.length + U.length : Nat) : Int)) V.length (by omega) (by omega)]
  exact rot_l0 _ A U V D rfl hu hv hl

/-! ### sortsm -/
theorem rd_get (X : List S36) (i : Nat) (h : i < X.length) {j : Int} (hj : j = (i : Int)) : rd_T36 X j = X[i] := by
  subst hj
  unfold rd_T36
  rw [Int.toNat_natCast, List.getD_eq_getElem?_getD, List.getElem?_eq_getElem h]
  rfl
/-- The first search: where the one goes among the others. -/
theorem sm_l0 (X : List S36) (a lo hi : Nat) (ha : a < X.length) (hh : hi ≤ X.length) (hx : X.length ≤ 400000000) (Q : List S36 → Prop)
    (hk : ∀ i : Nat, lo ≤ i → i ≤ hi → (lo < i → ltI (rd_T36 X ((i - 1 : Nat) : Int)) (rd_T36 X (a : Int)) = true) → (i < hi → ltI (rd_T36 X (i : Int)) (rd_T36 X (a : Int)) = false) → Wv (fun k => slices_symMergeCmpFunc_Item.l1 k X i a) Q) :
    ∀ (m i j : Nat), j - i = m → lo ≤ i → i ≤ j → j ≤ hi → (lo < i → ltI (rd_T36 X ((i - 1 : Nat) : Int)) (rd_T36 X (a : Int)) = true) → (j < hi → ltI (rd_T36 X (j : Int)) (rd_T36 X (a : Int)) = false) → Wv (fun k => slices_symMergeCmpFunc_Item.l0 k X a i j) Q
  | m, i, j, hm, h1, h2, h3, h4, h5 => by
    refine Wv.step (slices_symMergeCmpFunc_Item.l0.eq_2 _ _ _ _) ?_
    by_cases h : i < j
    · rw [half_eq i j (by omega) (by omega)]
      refine Wv.pos (by omega) (Wv.pos (by omega) (Wv.pos (by omega) (Wv.pos (by omega) (Wv.pos (by omega) ?_))))
      refine cmp_t _ _ (fun hc => ?_) (fun hc => ?_)
      · rw [w64s _ (by omega)]
        exact sm_l0 X a lo hi ha hh hx Q hk (j - ((i + j) / 2 + 1)) _ j rfl (by omega) (by omega) h3 (fun _ => hc) h5
      · exact sm_l0 X a lo hi ha hh hx Q hk ((i + j) / 2 - i) i _ rfl h1 (by omega) (by omega) h4 (fun _ => hc)
    · have : i = j := by omega
      subst this
      exact Wv.neg (by omega) (hk i h1 h3 h4 h5)
  termination_by m => m
  decreasing_by all_goals omega
theorem sm_l2 (X : List S36) (a lo hi : Nat) (ha : a < X.length) (hh : hi ≤ X.length) (hx : X.length ≤ 400000000) (Q : List S36 → Prop)
    (hk : ∀ i : Nat, lo ≤ i → i ≤ hi → (lo < i → ltI (rd_T36 X (a : Int)) (rd_T36 X ((i - 1 : Nat) : Int)) = false) → (i < hi → ltI (rd_T36 X (a : Int)) (rd_T36 X (i : Int)) = true) → Wv (fun k => slices_symMergeCmpFunc_Item.l3 k X i a) Q) :
    ∀ (m i j : Nat), j - i = m → lo ≤ i → i ≤ j → j ≤ hi → (lo < i → ltI (rd_T36 X (a : Int)) (rd_T36 X ((i - 1 : Nat) : Int)) = false) → (j < hi → ltI (rd_T36 X (a : Int)) (rd_T36 X (j : Int)) = true) → Wv (fun k => slices_symMergeCmpFunc_Item.l2 k X a i j) Q
  | m, i, j, hm, h1, h2, h3, h4, h5 => by
    refine Wv.step (slices_symMergeCmpFunc_Item.l2.eq_2 _ _ _ _) ?_
    by_cases h : i < j
    · rw [half_eq i j (by omega) (by omega)]
      refine Wv.pos (by omega) (Wv.pos (by omega) (Wv.pos (by omega) (Wv.pos (by omega) (Wv.pos (by omega) ?_))))
      refine cmp_t _ _ (fun hc => ?_) (fun hc => ?_)
      · exact sm_l2 X a lo hi ha hh hx Q hk ((i + j) / 2 - i) i _ rfl h1 (by omega) (by omega) h4 (fun _ => hc)
      · rw [w64s _ (by omega)]
        exact sm_l2 X a lo hi ha hh hx Q hk (j - ((i + j) / 2 + 1)) _ j rfl (by omega) (by omega) h3 (fun _ => hc) h5
    · have : i = j := by omega
      subst this
      exact Wv.neg (by omega) (hk i h1 h3 h4 h5)
  termination_by m => m
  decreasing_by all_goals omega
/-- One element goes up behind some others. -/
theorem sm_l1 (A B : List S36) (x : S36) : ∀ (P2 P1 : List S36) (i kk : Int), A.length + P1.length + P2.length + B.length + 1 ≤ 400000000 → i = ((A.length + P1.length + P2.length + 1 : Nat) : Int) → kk = ((A.length + P1.length : Nat) : Int) →
    Wv (fun k => slices_symMergeCmpFunc_Item.l1 k (A ++ (P1 ++ x :: P2) ++ B) i kk) (fun r => r = A ++ (P1 ++ P2 ++ [x]) ++ B)
  | [], P1, i, kk, hl, hi, hk => by
    refine Wv.step (slices_symMergeCmpFunc_Item.l1.eq_2 _ _ _) ?_
    subst hi hk
    rw [List.length_nil]
    rw [w64n (x := ((A.length + P1.length + 0 + 1 : Nat) : Int) - 1) (A.length + P1.length) (by omega) (by simp at hl; omega)]
    exact Wv.neg (by omega) (Wv.now (by simp))
  | y :: P2, P1, i, kk, hl, hi, hk => by
    refine Wv.step (slices_symMergeCmpFunc_Item.l1.eq_2 _ _ _) ?_
    subst hi hk
    rw [List.length_cons] at hl ⊢
    rw [w64n (x := ((A.length + P1.length + (P2.length + 1) + 1 : Nat) : Int) - 1) (A.length + P1.length + (P2.length + 1)) (by omega) (by omega), w64s _ (by omega)]
    have lt : (A ++ (P1 ++ x :: y :: P2) ++ B).length = A.length + P1.length + P2.length + 2 + B.length := by simp; omega
    refine Wv.pos (by omega) (Wv.pos (by omega) (Wv.pos (by rw [lt]; omega) (Wv.pos (by omega) (Wv.pos (by rw [lt]; omega) ?_))))
    have e : A ++ (P1 ++ x :: y :: P2) ++ B = (A ++ P1) ++ x :: ([] ++ y :: (P2 ++ B)) := by simp
    have q1 : ((A.length + P1.length : Nat) : Int) = ((A ++ P1).length : Int) := by simp
    have q2 : ((A.length + P1.length + 1 : Nat) : Int) = (((A ++ P1).length + 1 + ([] : List S36).length : Nat) : Int) := by simp
    rw [e, rd_far _ _ _ _ _ q2, rd_mid _ _ _ q1, (swap_mid (A ++ P1) x [] y (P2 ++ B) q1 q2).1]
    have e2 : (A ++ P1) ++ y :: ([] ++ x :: (P2 ++ B)) = A ++ ((P1 ++ [y]) ++ x :: P2) ++ B := by simp
    rw [e2]
    exact (sm_l1 A B x P2 (P1 ++ [y]) _ _ (by simp; omega) (by simp; omega) (by simp; omega)).imp (fun r hr => by rw [hr]; simp)
/-- One element goes down ahead of some others. -/
theorem sm_l3 (A B : List S36) (x : S36) (n : Nat) : ∀ (P1 P2 : List S36) (i kk : Int), P1.length = n → A.length + P1.length + P2.length + B.length + 1 ≤ 400000000 → i = (A.length : Int) → kk = ((A.length + P1.length : Nat) : Int) →
    Wv (fun k => slices_symMergeCmpFunc_Item.l3 k (A ++ (P1 ++ x :: P2) ++ B) i kk) (fun r => r = A ++ (x :: (P1 ++ P2)) ++ B) := by
  induction n with
  | zero =>
    intro P1 P2 i kk hn hl hi hk
    refine Wv.step (slices_symMergeCmpFunc_Item.l3.eq_2 _ _ _) ?_
    subst hi hk
    have : P1 = [] := List.length_eq_zero_iff.1 hn
    subst this
    exact Wv.neg (by simp) (Wv.now (by simp))
  | succ n ih =>
    intro P1 P2 i kk hn hl hi hk
    refine Wv.step (slices_symMergeCmpFunc_Item.l3.eq_2 _ _ _) ?_
    subst hi hk
    rcases List.eq_nil_or_concat P1 with rfl | ⟨P, y, rfl⟩
    · simp at hn
    · rw [List.concat_eq_append] at *
      have lp : (P ++ [y]).length = P.length + 1 := by simp
      rw [lp] at hn hl ⊢
      rw [w64n (x := ((A.length + (P.length + 1) : Nat) : Int) - 1) (A.length + P.length) (by omega) (by omega)]
      have lt : (A ++ (P ++ [y] ++ x :: P2) ++ B).length = A.length + P.length + P2.length + 2 + B.length := by simp; omega
      refine Wv.pos (by omega) (Wv.pos (by omega) (Wv.pos (by rw [lt]; omega) (Wv.pos (by omega) (Wv.pos (by rw [lt]; omega) ?_))))
      have e : A ++ (P ++ [y] ++ x :: P2) ++ B = (A ++ P) ++ y :: ([] ++ x :: (P2 ++ B)) := by simp
      have q1 : ((A.length + P.length : Nat) : Int) = ((A ++ P).length : Int) := by simp
      have q2 : ((A.length + (P.length + 1) : Nat) : Int) = (((A ++ P).length + 1 + ([] : List S36).length : Nat) : Int) := by simp; omega
      rw [e, rd_far _ _ _ _ _ q2, rd_mid _ _ _ q1, (swap_mid (A ++ P) y [] x (P2 ++ B) q1 q2).2]
      have e2 : (A ++ P) ++ x :: ([] ++ y :: (P2 ++ B)) = A ++ (P ++ x :: (y :: P2)) ++ B := by simp
      rw [e2]
      exact (ih P (y :: P2) _ _ (by omega) (by simp; omega) rfl rfl).imp (fun r hr => by rw [hr]; simp)

/-! ### sortms -/
/-- The long search: where both halves are cut. -/
theorem sm_l4 (X : List S36) (x1 x2 x3 x18 : Int) (n p lo hi : Nat) (hx : X.length ≤ 400000000) (hp : p < X.length + lo) (hp2 : p ≤ 1000000000) (hh : hi ≤ X.length) (hhi : hi ≤ p + 1) (Q : List S36 → Prop)
    (hk : ∀ i : Nat, lo ≤ i → i ≤ hi → (lo < i → ltI (rd_T36 X ((p - (i - 1) : Nat) : Int)) (rd_T36 X ((i - 1 : Nat) : Int)) = false) → (i < hi → ltI (rd_T36 X ((p - i : Nat) : Int)) (rd_T36 X (i : Int)) = true) →
      Wv (fun k => if (i : Int) < x2 then slices_symMergeCmpFunc_Item.j6 k X x1 x2 x3 () x18 i (wrap64 ((n : Int) - i)) (decide (x2 < wrap64 ((n : Int) - i))) else slices_symMergeCmpFunc_Item.j6 k X x1 x2 x3 () x18 i (wrap64 ((n : Int) - i)) false) Q) :
    ∀ (m i j : Nat), j - i = m → lo ≤ i → i ≤ j → j ≤ hi → (lo < i → ltI (rd_T36 X ((p - (i - 1) : Nat) : Int)) (rd_T36 X ((i - 1 : Nat) : Int)) = false) → (j < hi → ltI (rd_T36 X ((p - j : Nat) : Int)) (rd_T36 X (j : Int)) = true) →
      Wv (fun k => slices_symMergeCmpFunc_Item.l4 k X x1 x2 x3 () x18 n i j p) Q
  | m, i, j, hm, h1, h2, h3, h4, h5 => by
    refine Wv.step (slices_symMergeCmpFunc_Item.l4.eq_2 _ _ _ _ _ _ _ _ _ _) ?_
    by_cases h : i < j
    · rw [half_eq i j (by omega) (by omega), w64n (x := (p : Int) - (((i + j) / 2 : Nat) : Int)) (p - (i + j) / 2) (by omega) (by omega)]
      refine Wv.pos (by omega) (Wv.pos (by omega) (Wv.pos (by omega) (Wv.pos (by omega) (Wv.pos (by omega) ?_))))
      refine cmp_t _ _ (fun hc => ?_) (fun hc => ?_)
      · exact sm_l4 X x1 x2 x3 x18 n p lo hi hx hp hp2 hh hhi Q hk ((i + j) / 2 - i) i _ rfl h1 (by omega) (by omega) h4 (fun _ => hc)
      · rw [w64s _ (by omega)]
        exact sm_l4 X x1 x2 x3 x18 n p lo hi hx hp hp2 hh hhi Q hk (j - ((i + j) / 2 + 1)) _ j rfl (by omega) (by omega) h3 (fun _ => hc) h5
    · have : i = j := by omega
      subst this
      exact Wv.neg (by omega) (hk i h1 h3 h4 h5)
  termination_by m => m
  decreasing_by all_goals omega
theorem rd_app (A M B : List S36) (i : Nat) (h : i < M.length) {j : Int} (hj : j = ((A.length + i : Nat) : Int)) : rd_T36 (A ++ M ++ B) j = M[i] := by
  rw [rd_get _ (A.length + i) (by simp <;> omega) hj]
  rw [List.getElem_append_left (by simp <;> omega), List.getElem_append_right (by omega)]
  congr 1
  omega
/-- One element ahead of a piece in order. -/
theorem sm_one (A : List S36) (x : S36) (R B : List S36) (hl : A.length + 1 + R.length + B.length ≤ 400000000) (hR : Srt ltI R) :
    Wv (fun k => slices_symMergeCmpFunc_Item.l0 k (A ++ (x :: R) ++ B) (A.length : Int) ((A.length + 1 : Nat) : Int) ((A.length + 1 + R.length : Nat) : Int)) (fun r => ∃ M', r = A ++ M' ++ B ∧ Srt ltI M' ∧ Stb ltI M' (x :: R)) := by
  refine sm_l0 (A ++ (x :: R) ++ B) A.length (A.length + 1) (A.length + 1 + R.length) (by simp <;> omega) (by simp <;> omega) (by simp <;> omega) _ (fun i h1 h2 h3 h4 => ?_) _ (A.length + 1) _ rfl (by omega) (by omega) (by omega) (fun h => by omega) (fun h => by omega)
  obtain ⟨s, rfl⟩ : ∃ s, i = A.length + 1 + s := ⟨i - (A.length + 1), by omega⟩
  have hx : rd_T36 (A ++ (x :: R) ++ B) (A.length : Int) = x := rd_app A (x :: R) B 0 (by simp) (by simp)
  rw [hx] at h3 h4
  have hr : ∀ q (h : q < R.length), rd_T36 (A ++ (x :: R) ++ B) ((A.length + 1 + q : Nat) : Int) = R[q] := fun q h => by
    rw [rd_app A (x :: R) B (q + 1) (by simp <;> omega) (by omega)]; rfl
  have hP : ∀ y ∈ R.take s, ltI y x = true := fun y hy => by
    obtain ⟨q, hq, rfl⟩ := List.mem_iff_getElem.1 hy
    rw [List.length_take] at hq
    rw [List.getElem_take]
    have k := h3 (by omega)
    rw [show A.length + 1 + s - 1 = A.length + 1 + (s - 1) by omega, hr (s - 1) (by omega)] at k
    have l := srt_le wkI hR (i := q) (j := s - 1) (by omega) (by omega)
    by_cases hn : ltI R[q] x = true
    · exact hn
    · have := wkI.neg x R[q] (R[s - 1]'(by omega)) (by simpa using hn) l
      rw [this] at k; cases k
  have hQ : ∀ y ∈ R.drop s, ltI y x = false := fun y hy => by
    obtain ⟨q, hq, rfl⟩ := List.mem_iff_getElem.1 hy
    rw [List.length_drop] at hq
    rw [List.getElem_drop]
    have k := h4 (by omega)
    rw [hr s (by omega)] at k
    exact wkI.neg x (R[s]'(by omega)) _ k (srt_le wkI hR (i := s) (j := s + q) (by omega) (by omega))
  have hs : Srt ltI (R.take s ++ R.drop s) := by rw [List.take_append_drop]; exact hR
  obtain ⟨z1, z2⟩ := ins_front wkI hs hP hQ
  rw [List.take_append_drop] at z2
  have e : A ++ (x :: R) ++ B = A ++ ([] ++ x :: R.take s) ++ (R.drop s ++ B) := by
    have := List.take_append_drop s R
    simp only [List.nil_append, List.append_assoc, List.cons_append, List.append_cancel_left_eq, List.cons.injEq, true_and]
    rw [← List.append_assoc, this]
  rw [e]
  refine (sm_l1 A (R.drop s ++ B) x (R.take s) [] _ _ (by simp <;> omega) (by simp <;> omega) (by simp)).imp (fun r hr => ⟨R.take s ++ x :: R.drop s, by rw [hr]; simp, z1, z2⟩)
theorem sm_last (A L : List S36) (x : S36) (B : List S36) (hl : A.length + 1 + L.length + B.length ≤ 400000000) (hL : Srt ltI L) :
    Wv (fun k => slices_symMergeCmpFunc_Item.l2 k (A ++ (L ++ [x]) ++ B) ((A.length + L.length : Nat) : Int) (A.length : Int) ((A.length + L.length : Nat) : Int)) (fun r => ∃ M', r = A ++ M' ++ B ∧ Srt ltI M' ∧ Stb ltI M' (L ++ [x])) := by
  refine sm_l2 (A ++ (L ++ [x]) ++ B) (A.length + L.length) A.length (A.length + L.length) (by simp <;> omega) (by simp <;> omega) (by simp <;> omega) _ (fun i h1 h2 h3 h4 => ?_) _ A.length _ rfl (by omega) (by omega) (by omega) (fun h => by omega) (fun h => by omega)
  obtain ⟨s, rfl⟩ : ∃ s, i = A.length + s := ⟨i - A.length, by omega⟩
  have hx : rd_T36 (A ++ (L ++ [x]) ++ B) ((A.length + L.length : Nat) : Int) = x := by
    rw [rd_app A (L ++ [x]) B L.length (by simp) rfl]; simp
  rw [hx] at h3 h4
  have hr : ∀ q (h : q < L.length), rd_T36 (A ++ (L ++ [x]) ++ B) ((A.length + q : Nat) : Int) = L[q] := fun q h => by
    rw [rd_app A (L ++ [x]) B q (by simp <;> omega) rfl, List.getElem_append_left h]
  have hP : ∀ y ∈ L.take s, ltI x y = false := fun y hy => by
    obtain ⟨q, hq, rfl⟩ := List.mem_iff_getElem.1 hy
    rw [List.length_take] at hq
    rw [List.getElem_take]
    have k := h3 (by omega)
    rw [show A.length + s - 1 = A.length + (s - 1) by omega, hr (s - 1) (by omega)] at k
    exact wkI.neg _ (L[s - 1]'(by omega)) x (srt_le wkI hL (i := q) (j := s - 1) (by omega) (by omega)) k
  have hQ : ∀ y ∈ L.drop s, ltI x y = true := fun y hy => by
    obtain ⟨q, hq, rfl⟩ := List.mem_iff_getElem.1 hy
    rw [List.length_drop] at hq
    rw [List.getElem_drop]
    have k := h4 (by omega)
    rw [hr s (by omega)] at k
    have l := srt_le wkI hL (i := s) (j := s + q) (by omega) (by omega)
    by_cases hn : ltI x (L[s + q]'(by omega)) = true
    · exact hn
    · have := wkI.neg (L[s]'(by omega)) (L[s + q]'(by omega)) x l (by simpa using hn)
      rw [this] at k; cases k
  have hs : Srt ltI (L.take s ++ L.drop s) := by rw [List.take_append_drop]; exact hL
  obtain ⟨z1, z2⟩ := ins_step wkI hs hP hQ
  rw [List.take_append_drop] at z2
  have e : A ++ (L ++ [x]) ++ B = (A ++ L.take s) ++ (L.drop s ++ x :: []) ++ B := by
    have := List.take_append_drop s L
    simp only [List.append_assoc, List.append_cancel_left_eq]
    rw [← List.append_assoc (L.take s), this]
  rw [e]
  refine (sm_l3 (A ++ L.take s) B x _ (L.drop s) [] _ _ rfl (by simp <;> omega) (by simp <;> omega) (by simp <;> omega)).imp (fun r hr => ⟨L.take s ++ x :: L.drop s, by rw [hr]; simp, z1, z2⟩)

/-! ### sortst2 -/
/-- Two pieces in order, side by side, are merged. -/
theorem smg (n : Nat) : ∀ (A L R B : List S36), L.length + R.length = n → 0 < L.length → 0 < R.length → A.length + L.length + R.length + B.length ≤ 100000000 → Srt ltI L → Srt ltI R →
    Wv (fun k => slices_symMergeCmpFunc_Item.f k (A ++ (L ++ R) ++ B) (A.length : Int) ((A.length + L.length : Nat) : Int) ((A.length + L.length + R.length : Nat) : Int) ()) (fun r => ∃ M', r = A ++ M' ++ B ∧ Srt ltI M' ∧ Stb ltI M' (L ++ R)) := by
  induction n using Nat.strongRecOn with
  | _ n ih =>
    intro A L R B hn hL hR hl sL sR
    refine Wv.step (slices_symMergeCmpFunc_Item.f.eq_2 _ _ _ _ _) ?_
    rw [w64n (x := ((A.length + L.length : Nat) : Int) - (A.length : Int)) L.length (by omega) (by omega), w64n (x := ((A.length + L.length + R.length : Nat) : Int) - ((A.length + L.length : Nat) : Int)) R.length (by omega) (by omega)]
    by_cases c1 : L.length = 1
    · refine Wv.pos (by omega) ?_
      obtain ⟨x, rfl⟩ := List.length_eq_one_iff.1 c1
      exact sm_one A x R B (by simp at hl; omega) sR
    refine Wv.neg (by omega) ?_
    by_cases c2 : R.length = 1
    · refine Wv.pos (by omega) ?_
      obtain ⟨x, rfl⟩ := List.length_eq_one_iff.1 c2
      exact sm_last A L x B (by simp at hl; omega) sL
    refine Wv.neg (by omega) ?_
    obtain ⟨md, hmd⟩ : ∃ md : Nat, (A.length + (A.length + L.length + R.length)) / 2 = md := ⟨_, rfl⟩
    have e0 : wrap64 ((IntKind.u64.wrap (wrap64 ((A.length : Int) + ((A.length + L.length + R.length : Nat) : Int)))) / 2) = (md : Int) := by rw [half_eq _ _ (by omega) (by omega), hmd]
    rw [e0, w64n (x := (md : Int) + ((A.length + L.length : Nat) : Int)) (md + (A.length + L.length)) (by omega) (by omega)]
    -- what is done behind the search
    have rest : ∀ (lo hi : Nat), A.length ≤ lo → hi ≤ A.length + L.length → hi ≤ md → lo ≤ hi → md ≤ lo + R.length → (hi = md ∨ hi = A.length + L.length) → (lo = A.length ∨ md = lo + R.length) →
        Wv (fun k => slices_symMergeCmpFunc_Item.l4 k (A ++ (L ++ R) ++ B) (A.length : Int) ((A.length + L.length : Nat) : Int) ((A.length + L.length + R.length : Nat) : Int) () (md : Int) ((md + (A.length + L.length) : Nat) : Int) (lo : Int) (hi : Int) (wrap64 (((md + (A.length + L.length) : Nat) : Int) - 1)))
          (fun r => ∃ M', r = A ++ M' ++ B ∧ Srt ltI M' ∧ Stb ltI M' (L ++ R)) := by
      intro lo hi g1 g2 g3 g4 g5 g6 g7
      rw [w64n (x := ((md + (A.length + L.length) : Nat) : Int) - 1) (md + (A.length + L.length) - 1) (by omega) (by omega)]
      refine sm_l4 (A ++ (L ++ R) ++ B) _ _ _ _ (md + (A.length + L.length)) (md + (A.length + L.length) - 1) lo hi (by simp; omega) (by simp; omega) (by omega) (by simp; omega) (by omega) _ (fun i h1 h2 h3 h4 => ?_) _ lo hi rfl (by omega) g4 (by omega) (fun h => by omega) (fun h => by omega)
      have rL : ∀ q (h : q < L.length), rd_T36 (A ++ (L ++ R) ++ B) ((A.length + q : Nat) : Int) = L[q] := fun q h => by
        rw [rd_app A (L ++ R) B q (by simp; omega) rfl, List.getElem_append_left h]
      have rR : ∀ q (h : q < R.length), rd_T36 (A ++ (L ++ R) ++ B) ((A.length + L.length + q : Nat) : Int) = R[q] := fun q h => by
        rw [rd_app A (L ++ R) B (L.length + q) (by simp; omega) (by omega), List.getElem_append_right (by omega)]
        congr 1; omega
      obtain ⟨s, rfl⟩ : ∃ s, i = A.length + s := ⟨i - A.length, by omega⟩
      obtain ⟨e, he⟩ : ∃ e, md = A.length + s + e := ⟨md - (A.length + s), by omega⟩
      have hsL : s ≤ L.length := by omega
      have heR : e ≤ R.length := by omega
      have ck := cut_ok wkI sL sR s e hsL heR (fun q1 q2 => by
        have k := h4 (by omega)
        rw [show md + (A.length + L.length) - 1 - (A.length + s) = A.length + L.length + (e - 1) by omega, rR (e - 1) (by omega), rL s q1] at k
        exact k) (fun q1 q2 => by
        have k := h3 (by omega)
        rw [show md + (A.length + L.length) - 1 - (A.length + s - 1) = A.length + L.length + e by omega, rR e q2, show A.length + s - 1 = A.length + (s - 1) by omega, rL (s - 1) (by omega)] at k
        exact k)
      rw [w64n (x := ((md + (A.length + L.length) : Nat) : Int) - ((A.length + s : Nat) : Int)) (A.length + L.length + e) (by omega) (by omega)]
      have lT : (L.take s).length = s := by rw [List.length_take]; omega
      have lD : (L.drop s).length = L.length - s := List.length_drop
      have lV : (R.take e).length = e := by rw [List.length_take]; omega
      have lW : (R.drop e).length = R.length - e := List.length_drop
      have eX : A ++ (L ++ R) ++ B = (A ++ L.take s) ++ (L.drop s ++ R.take e) ++ (R.drop e ++ B) := by
        have a1 := List.take_append_drop s L
        have a2 := List.take_append_drop e R
        calc A ++ (L ++ R) ++ B = A ++ ((L.take s ++ L.drop s) ++ (R.take e ++ R.drop e)) ++ B := by rw [a1, a2]
          _ = _ := by simp only [List.append_assoc]
      -- both halves are merged
      have two : Wv (fun k => slices_symMergeCmpFunc_Item.j7 k ((A ++ L.take s) ++ (R.take e ++ L.drop s) ++ (R.drop e ++ B)) (A.length : Int) ((A.length + L.length + R.length : Nat) : Int) () (md : Int) ((A.length + s : Nat) : Int) ((A.length + L.length + e : Nat) : Int)) (fun r => ∃ M', r = A ++ M' ++ B ∧ Srt ltI M' ∧ Stb ltI M' (L ++ R)) := by
        refine Wv.step (slices_symMergeCmpFunc_Item.j7.eq_2 _ _ _ _ _ _ _) ?_
        have fin : ∀ M1 M2, Srt ltI M1 → Stb ltI M1 (L.take s ++ R.take e) → Srt ltI M2 → Stb ltI M2 (L.drop s ++ R.drop e) → Srt ltI (M1 ++ M2) ∧ Stb ltI (M1 ++ M2) (L ++ R) := fun M1 M2 z1 z2 z3 z4 => by
          have := merge_step wkI (L1 := L.take s) (U := L.drop s) (V := R.take e) (R2 := R.drop e) (by rw [List.take_append_drop]; exact sL) (by rw [List.take_append_drop]; exact sR) ck.1 ck.2 z1 z2 z3 z4
          rw [List.take_append_drop, List.take_append_drop] at this
          exact this
        -- the second half
        have right : ∀ M1, M1.length = s + e → Srt ltI M1 → Stb ltI M1 (L.take s ++ R.take e) → Wv (fun k => if (md : Int) < ((A.length + L.length + e : Nat) : Int) then (if ((A.length + L.length + e : Nat) : Int) < ((A.length + L.length + R.length : Nat) : Int) then ((slices_symMergeCmpFunc_Item.f k (A ++ M1 ++ (L.drop s ++ R.drop e) ++ B) (md : Int) ((A.length + L.length + e : Nat) : Int) ((A.length + L.length + R.length : Nat) : Int) ()).bind fun t => (some t)) else (some (A ++ M1 ++ (L.drop s ++ R.drop e) ++ B))) else (some (A ++ M1 ++ (L.drop s ++ R.drop e) ++ B)))
            (fun r => ∃ M', r = A ++ M' ++ B ∧ Srt ltI M' ∧ Stb ltI M' (L ++ R)) := by
          intro M1 l1 z1 z2
          by_cases k1 : s < L.length
          · refine Wv.pos (by omega) ?_
            by_cases k2 : e < R.length
            · refine Wv.pos (by omega) ?_
              have q := ih (L.drop s ++ R.drop e).length (by simp; omega) (A ++ M1) (L.drop s) (R.drop e) B (by simp) (by omega) (by omega) (by simp; omega) (srt_drop sL s) (srt_drop sR e)
              rw [lD, lW, show (A ++ M1).length = md by simp; omega, show md + (L.length - s) = A.length + L.length + e by omega, show A.length + L.length + e + (R.length - e) = A.length + L.length + R.length by omega] at q
              refine Wv.bind q (fun r hr => ?_)
              obtain ⟨M2, rfl, z3, z4⟩ := hr
              obtain ⟨y1, y2⟩ := fin M1 M2 z1 z2 z3 z4
              exact Wv.now ⟨M1 ++ M2, by simp, y1, y2⟩
            · refine Wv.neg (by omega) ?_
              have en : R.drop e = [] := List.drop_of_length_le (by omega)
              obtain ⟨y1, y2⟩ := fin M1 (L.drop s ++ R.drop e) z1 z2 (by rw [en, List.append_nil]; exact srt_drop sL s) (Stb.refl _)
              exact Wv.now ⟨M1 ++ (L.drop s ++ R.drop e), by simp, y1, y2⟩
          · refine Wv.neg (by omega) ?_
            have en : L.drop s = [] := List.drop_of_length_le (by omega)
            obtain ⟨y1, y2⟩ := fin M1 (L.drop s ++ R.drop e) z1 z2 (by rw [en, List.nil_append]; exact srt_drop sR e) (Stb.refl _)
            exact Wv.now ⟨M1 ++ (L.drop s ++ R.drop e), by simp, y1, y2⟩
        have eY : (A ++ L.take s) ++ (R.take e ++ L.drop s) ++ (R.drop e ++ B) = A ++ (L.take s ++ R.take e) ++ (L.drop s ++ R.drop e ++ B) := by simp
        have eZ : ∀ M1 : List S36, A ++ M1 ++ (L.drop s ++ R.drop e ++ B) = A ++ M1 ++ (L.drop s ++ R.drop e) ++ B := fun M1 => by simp
        have noL : Srt ltI (L.take s ++ R.take e) → Wv (fun k => slices_symMergeCmpFunc_Item.j8 k (A ++ (L.take s ++ R.take e) ++ (L.drop s ++ R.drop e) ++ B) (A.length : Int) ((A.length + L.length + R.length : Nat) : Int) () (md : Int) ((A.length + s : Nat) : Int) ((A.length + L.length + e : Nat) : Int) false) (fun r => ∃ M', r = A ++ M' ++ B ∧ Srt ltI M' ∧ Stb ltI M' (L ++ R)) := fun z => by
          refine Wv.step (slices_symMergeCmpFunc_Item.j8.eq_2 _ _ _ _ _ _ _ _) ?_
          exact Wv.neg (by simp) (right _ (by simp; omega) z (Stb.refl _))
        rw [eY]
        by_cases k1 : 0 < s
        · refine Wv.pos (by omega) ?_
          by_cases k2 : 0 < e
          · rw [decide_eq_true (by omega : ((A.length + s : Nat) : Int) < (md : Int))]
            refine Wv.step (slices_symMergeCmpFunc_Item.j8.eq_2 _ _ _ _ _ _ _ _) ?_
            refine Wv.pos rfl ?_
            have q := ih (L.take s ++ R.take e).length (by simp; omega) A (L.take s) (R.take e) (L.drop s ++ R.drop e ++ B) (by simp) (by omega) (by omega) (by simp; omega) (srt_take sL s) (srt_take sR e)
            rw [lT, lV, show A.length + s + e = md by omega] at q
            refine Wv.bind q (fun r hr => ?_)
            obtain ⟨M1, rfl, z1, z2⟩ := hr
            have ll := Stb.len wkI _ M1 _ rfl z2
            rw [List.length_append, lT, lV] at ll
            rw [eZ]
            exact right M1 ll z1 z2
          · rw [decide_eq_false (by omega : ¬ ((A.length + s : Nat) : Int) < (md : Int)), eZ]
            refine noL ?_
            have : R.take e = [] := by rw [show e = 0 by omega, List.take_zero]
            rw [this, List.append_nil]; exact srt_take sL s
        · refine Wv.neg (by omega) ?_
          rw [eZ]
          refine noL ?_
          have : L.take s = [] := by rw [show s = 0 by omega, List.take_zero]
          rw [this, List.nil_append]; exact srt_take sR e
      have j6f : (L.drop s = [] ∨ R.take e = []) → Wv (fun k => slices_symMergeCmpFunc_Item.j6 k (A ++ (L ++ R) ++ B) (A.length : Int) ((A.length + L.length : Nat) : Int) ((A.length + L.length + R.length : Nat) : Int) () (md : Int) ((A.length + s : Nat) : Int) ((A.length + L.length + e : Nat) : Int) false) (fun r => ∃ M', r = A ++ M' ++ B ∧ Srt ltI M' ∧ Stb ltI M' (L ++ R)) := fun hz => by
        refine Wv.step (slices_symMergeCmpFunc_Item.j6.eq_2 _ _ _ _ _ _ _ _ _) ?_
        refine Wv.neg (by simp) ?_
        rw [eX, show L.drop s ++ R.take e = R.take e ++ L.drop s by rcases hz with h | h <;> rw [h] <;> simp]
        exact two
      by_cases k1 : s < L.length
      · refine Wv.pos (by omega) ?_
        by_cases k2 : 0 < e
        · rw [decide_eq_true (by omega : ((A.length + L.length : Nat) : Int) < ((A.length + L.length + e : Nat) : Int))]
          refine Wv.step (slices_symMergeCmpFunc_Item.j6.eq_2 _ _ _ _ _ _ _ _ _) ?_
          refine Wv.pos rfl (Wv.bind (P := fun r => r = (A ++ L.take s) ++ (R.take e ++ L.drop s) ++ (R.drop e ++ B)) ?_ (fun r hr => by rw [hr]; exact two))
          rw [eX]
          exact rot_ok (A ++ L.take s) (L.drop s) (R.take e) (R.drop e ++ B) (by omega) (by omega) (by simp; omega) (by simp; omega) (by simp; omega) (by simp; omega)
        · rw [decide_eq_false (by omega : ¬ ((A.length + L.length : Nat) : Int) < ((A.length + L.length + e : Nat) : Int))]
          exact j6f (.inr (by rw [show e = 0 by omega, List.take_zero]))
      · exact Wv.neg (by omega) (j6f (.inl (List.drop_of_length_le (by omega))))
    by_cases c3 : md < A.length + L.length
    · refine Wv.pos (by omega) ?_
      refine Wv.step (slices_symMergeCmpFunc_Item.j4.eq_2 _ _ _ _ _ _ _ _ _) ?_
      rw [w64n (x := ((md + (A.length + L.length) : Nat) : Int) - ((A.length + L.length + R.length : Nat) : Int)) (md - R.length) (by omega) (by omega)]
      exact rest (md - R.length) md (by omega) (by omega) (by omega) (by omega) (by omega) (.inl rfl) (.inr (by omega))
    · refine Wv.neg (by omega) ?_
      refine Wv.step (slices_symMergeCmpFunc_Item.j4.eq_2 _ _ _ _ _ _ _ _ _) ?_
      exact rest A.length (A.length + L.length) (by omega) (by omega) (by omega) (by omega) (by omega) (.inr rfl) (.inl rfl)

/-! ### sortok -/
/-- In order by blocks of n. -/
def Blk (n : Nat) (xs : List S36) : Prop := ∀ i, Srt ltI ((xs.drop (i * n)).take n)
theorem blk_app {n q : Nat} {A M : List S36} (hA : Blk n A) (hl : A.length = q * n) (hM : Srt ltI M) (hm : M.length ≤ n) : Blk n (A ++ M) := by
  intro i
  rcases Nat.lt_trichotomy i q with h | h | h
  · have : (i + 1) * n ≤ q * n := Nat.mul_le_mul_right n h
    rw [Nat.add_mul, Nat.one_mul] at this
    rw [List.drop_append_of_le_length (by omega), List.take_append_of_le_length (by rw [List.length_drop]; omega)]
    exact hA i
  · subst h
    rw [← hl, List.drop_left, List.take_of_length_le hm]
    exact hM
  · have : (q + 1) * n ≤ i * n := Nat.mul_le_mul_right n h
    rw [Nat.add_mul, Nat.one_mul] at this
    rw [List.drop_of_length_le (by rw [List.length_append]; omega)]
    simp [Srt]
theorem blk_nil (n : Nat) : Blk n [] := fun i => by simp [Srt]
theorem blk_drop {n : Nat} {B : List S36} (h : Blk n B) (j : Nat) : Blk n (B.drop (j * n)) := fun i => by
  have := h (j + i)
  rw [Nat.add_mul] at this
  rw [List.drop_drop]
  exact this
theorem blk_all {n : Nat} {B : List S36} (h : Blk n B) (hl : B.length ≤ n) : Srt ltI B := by
  have := h 0
  rw [Nat.zero_mul, List.drop_zero, List.take_of_length_le hl] at this
  exact this
theorem st_l2 (n b : Nat) (hb : 1 ≤ b) (hbn : b < n) (hn : n ≤ 10000000) (Q : List S36 → Prop) : ∀ (m : Nat) (A B O : List S36) (q : Nat), B.length = m → A.length = q * (2 * b) → A.length + B.length = n → Blk (2 * b) A → Blk b B → Stb ltI (A ++ B) O →
    (∀ X, X.length = n → Blk (2 * b) X → Stb ltI X O → Wv (fun k => slices_stableCmpFunc_Item.l1 k X n () ((b * 2 : Nat) : Int)) Q) →
    Wv (fun k => slices_stableCmpFunc_Item.l2 k (A ++ B) n () b (A.length : Int) ((A.length + 2 * b : Nat) : Int)) Q := by
  intro m
  induction m using Nat.strongRecOn with
  | _ m ih =>
    intro A B O q hm hA hl bA bB hS hk
    refine Wv.step (slices_stableCmpFunc_Item.l2.eq_2 _ _ _ _ _ _) ?_
    have w1 : wrap64 ((A.length : Int) + (b : Int)) = ((A.length + b : Nat) : Int) := w64n _ (by omega) (by omega)
    have w2 : wrap64 (2 * (b : Int)) = ((2 * b : Nat) : Int) := w64n _ (by omega) (by omega)
    have w3 : wrap64 ((b : Int) * 2) = ((b * 2 : Nat) : Int) := w64n _ (by omega) (by omega)
    have sL : Srt ltI (B.take b) := by have := bB 0; rwa [Nat.zero_mul, List.drop_zero] at this
    by_cases h : A.length + 2 * b ≤ n
    · refine Wv.pos (by omega) ?_
      have sR : Srt ltI ((B.drop b).take b) := by have := bB 1; rwa [Nat.one_mul] at this
      have lL : (B.take b).length = b := by rw [List.length_take]; omega
      have lR : ((B.drop b).take b).length = b := by rw [List.length_take, List.length_drop]; omega
      have eB : A ++ B = A ++ (B.take b ++ (B.drop b).take b) ++ (B.drop b).drop b := by
        rw [List.append_assoc, List.append_assoc, List.take_append_drop, List.take_append_drop]
      have g := smg _ A (B.take b) ((B.drop b).take b) ((B.drop b).drop b) rfl (by omega) (by omega) (by simp; omega) sL sR
      rw [lL, lR, ← eB, show A.length + b + b = A.length + 2 * b by omega] at g
      rw [w1, w2, w64n (x := ((A.length + 2 * b : Nat) : Int) + ((2 * b : Nat) : Int)) (A.length + 2 * b + 2 * b) (by omega) (by omega)]
      refine Wv.bind g (fun r hr => ?_)
      obtain ⟨M, rfl, z1, z2⟩ := hr
      have lM := Stb.len wkI _ M _ rfl z2
      rw [List.length_append, lL, lR] at lM
      have lAM : (A ++ M).length = A.length + 2 * b := by rw [List.length_append]; omega
      rw [← lAM]
      refine ih ((B.drop b).drop b).length (by simp; omega) (A ++ M) ((B.drop b).drop b) O (q + 1) rfl (by rw [lAM, Nat.add_mul, Nat.one_mul]; omega) (by rw [lAM]; simp; omega) (blk_app bA hA z1 (by omega)) (by rw [List.drop_drop]; have := blk_drop bB 2; rwa [show 2 * b = b + b by omega] at this) ?_ hk
      refine Stb.trans ?_ hS
      rw [eB]
      exact ((Stb.refl A).app z2).app (Stb.refl _)
    · refine Wv.neg (by omega) ?_
      rw [w1, w3]
      by_cases h2 : A.length + b < n
      · refine Wv.pos (by omega) ?_
        have lL : (B.take b).length = b := by rw [List.length_take]; omega
        have sR : Srt ltI (B.drop b) := by
          have := bB 1
          rwa [Nat.one_mul, List.take_of_length_le (by rw [List.length_drop]; omega)] at this
        have g := smg _ A (B.take b) (B.drop b) [] rfl (by omega) (by rw [List.length_drop]; omega) (by simp; omega) sL sR
        rw [List.take_append_drop, List.append_nil, lL, List.length_drop, show A.length + b + (B.length - b) = n by omega] at g
        refine Wv.bind g (fun r hr => ?_)
        obtain ⟨M, rfl, z1, z2⟩ := hr
        have lM := Stb.len wkI _ M _ rfl z2
        rw [List.append_nil]
        exact hk (A ++ M) (by rw [List.length_append]; omega) (blk_app bA hA z1 (by omega)) (((Stb.refl A).app z2).trans hS)
      · refine Wv.neg (by omega) ?_
        exact hk (A ++ B) (by rw [List.length_append]; omega) (blk_app bA hA (blk_all bB (by omega)) (by omega)) hS
theorem st_l1 (n : Nat) (hn : n ≤ 10000000) (O : List S36) : ∀ (m b : Nat) (X : List S36), n - b = m → 1 ≤ b → X.length = n → Blk b X → Stb ltI X O →
    Wv (fun k => slices_stableCmpFunc_Item.l1 k X n () b) (fun r => Srt ltI r ∧ Stb ltI r O) := by
  intro m
  induction m using Nat.strongRecOn with
  | _ m ih =>
    intro b X hm hb hX bX hS
    refine Wv.step (slices_stableCmpFunc_Item.l1.eq_2 _ _ _ _) ?_
    by_cases h : b < n
    · refine Wv.pos (by omega) ?_
      rw [w64n (x := 2 * (b : Int)) (2 * b) (by omega) (by omega)]
      have := st_l2 n b hb h hn (fun r => Srt ltI r ∧ Stb ltI r O) X.length [] X O 0 rfl (by simp) (by simpa using hX) (blk_nil _) bX hS (fun Y y1 y2 y3 => ih (n - b * 2) (by omega) (b * 2) Y rfl (by omega) y1 (by rwa [Nat.mul_comm] at y2) y3)
      simpa using this
    · exact Wv.neg (by omega) (Wv.now ⟨blk_all bX (by omega), hS⟩)
theorem st_l0 (n : Nat) (hn : n ≤ 10000000) (O : List S36) : ∀ (m : Nat) (A B : List S36) (q : Nat), B.length = m → A.length = q * 20 → A.length + B.length = n → Blk 20 A → Stb ltI (A ++ B) O →
    Wv (fun k => slices_stableCmpFunc_Item.l0 k (A ++ B) n () 20 (A.length : Int) ((A.length + 20 : Nat) : Int)) (fun r => Srt ltI r ∧ Stb ltI r O) := by
  intro m
  induction m using Nat.strongRecOn with
  | _ m ih =>
    intro A B q hm hA hl bA hS
    refine Wv.step (slices_stableCmpFunc_Item.l0.eq_2 _ _ _ _ _ _) ?_
    by_cases h : A.length + 20 ≤ n
    · refine Wv.pos (by omega) ?_
      have lL : (B.take 20).length = 20 := by rw [List.length_take]; omega
      have eB : A ++ B = A ++ B.take 20 ++ B.drop 20 := by rw [List.append_assoc, List.take_append_drop]
      have g := ins_ok A (B.take 20) (B.drop 20) (by omega) (a := (A.length : Int)) (b := ((A.length + 20 : Nat) : Int)) rfl (by rw [lL])
      rw [← eB] at g
      rw [w64n (x := ((A.length + 20 : Nat) : Int) + 20) (A.length + 20 + 20) (by omega) (by omega)]
      refine Wv.bind g (fun r hr => ?_)
      obtain ⟨M, rfl, z1, z2⟩ := hr
      have lM := Stb.len wkI _ M _ rfl z2
      have lAM : (A ++ M).length = A.length + 20 := by rw [List.length_append]; omega
      rw [← lAM]
      refine ih (B.drop 20).length (by rw [List.length_drop]; omega) (A ++ M) (B.drop 20) (q + 1) rfl (by rw [lAM]; omega) (by rw [lAM, List.length_drop]; omega) (blk_app bA hA z1 (by omega)) (Stb.trans ?_ hS)
      rw [eB]
      exact ((Stb.refl A).app z2).app (Stb.refl _)
    · refine Wv.neg (by omega) ?_
      have g := ins_ok A B [] (by omega) (a := (A.length : Int)) (b := (n : Int)) rfl (by rw [hl])
      rw [List.append_nil] at g
      refine Wv.bind g (fun r hr => ?_)
      obtain ⟨M, rfl, z1, z2⟩ := hr
      have lM := Stb.len wkI _ M _ rfl z2
      rw [List.append_nil]
      exact st_l1 n hn O (n - 20) 20 (A ++ M) rfl (by omega) (by rw [List.length_append]; omega) (blk_app bA hA z1 (by omega)) (((Stb.refl A).app z2).trans hS)
/-- The library's stable sort sorts, and leaves ties in their order. -/
theorem sort_ok (X : List S36) (hn : X.length ≤ 10000000) : Wv (fun k => slices_SortStableFunc_Item.f k X ()) (fun r => Srt ltI r ∧ Stb ltI r X) := by
  unfold slices_SortStableFunc_Item.f slices_stableCmpFunc_Item.f
  refine Wv.bind (P := fun r => Srt ltI r ∧ Stb ltI r X) ?_ (fun r hr => Wv.now hr)
  have := st_l0 X.length hn X X.length [] X 0 rfl rfl (by simp) (blk_nil _) (Stb.refl _)
  simpa using this

/-! ### split47 -/
/-- Cut at each byte 47. -/
def sp47 : List UInt8 → List (List UInt8)
  | [] => [[]]
  | b :: l => if b = 47 then [] :: sp47 l else match sp47 l with
    | [] => [[b]]
    | p :: r => (b :: p) :: r
theorem sp47_ne (l : List UInt8) : sp47 l ≠ [] := by
  cases l with
  | nil => simp [sp47]
  | cons b l => unfold sp47; split; · simp
                split <;> simp
theorem sp47_len (l : List UInt8) : (sp47 l).length ≤ l.length + 1 := by
  induction l with
  | nil => simp [sp47]
  | cons b l ih =>
    unfold sp47
    split
    · simp; omega
    · split
      · simp
      · rename_i p r h; rw [h] at ih; simp at ih ⊢; omega
theorem sp47_slash (l : List UInt8) : sp47 (47 :: l) = [] :: sp47 l := by simp [sp47]
theorem sp47_other (b : UInt8) (l : List UInt8) (hb : b ≠ 47) (p : List UInt8) (r : List (List UInt8)) (h : sp47 l = p :: r) : sp47 (b :: l) = (b :: p) :: r := by simp [sp47, hb, h]
/-- The pieces of 'l', the first of them begun with 'cur'. -/
def pcs (cur l : List UInt8) : List (List UInt8) := match sp47 l with
  | [] => [cur]
  | p :: r => (cur ++ p) :: r
theorem pcs_nil (l : List UInt8) : pcs [] l = sp47 l := by
  unfold pcs
  split
  · rename_i h; exact absurd h (sp47_ne l)
  · rename_i h; simp [h]
theorem pcs_end (cur : List UInt8) : pcs cur [] = [cur] := by simp [pcs, sp47]
theorem pcs_slash (cur l : List UInt8) : pcs cur (47 :: l) = cur :: sp47 l := by simp [pcs, sp47]
theorem pcs_other (cur : List UInt8) (b : UInt8) (l : List UInt8) (hb : b ≠ 47) : pcs cur (b :: l) = pcs (cur ++ [b]) l := by
  unfold pcs
  obtain ⟨p, r, h⟩ := List.exists_cons_of_ne_nil (sp47_ne l)
  rw [sp47_other b l hb p r h, h]
  simp
theorem index47_cons (b : UInt8) (l : List UInt8) : Lib.index (b :: l) [47] = if b = 47 then 0 else if Lib.index l [47] == -1 then -1 else Lib.index l [47] + 1 := by
  rw [Lib.index]
  by_cases h : b = 47
  · subst h; simp [List.isPrefixOf]
  · have : ([47] : List UInt8).isPrefixOf (b :: l) = false := by simp [List.isPrefixOf]; exact fun e => h e.symm
    rw [this, if_neg h]; rfl
theorem splitK47 : ∀ (l : List UInt8), Lib.splitK [47] 0 (l.count 47) l = sp47 l
  | [] => rfl
  | b :: l => by
    have ih := splitK47 l
    by_cases h : b = 47
    · subst h
      have e : Lib.index (47 :: l) [47] = 0 := by rw [index47_cons]; simp
      rw [List.count_cons_self, Lib.splitK, e]
      simp [sp47, ih]
    · rw [List.count_cons_of_ne (by simpa using h)]
      obtain ⟨p, r, hs⟩ := List.exists_cons_of_ne_nil (sp47_ne l)
      rw [sp47_other b l h p r hs]
      rw [hs] at ih
      cases hc : l.count 47 with
      | zero =>
        rw [hc] at ih
        simp only [Lib.splitK] at ih ⊢
        simp at ih
        obtain ⟨rfl, rfl⟩ := ih
        rfl
      | succ n =>
        rw [hc] at ih
        have hi := index47_cons b l
        rw [if_neg h] at hi
        have hg := Lib.index_ge l [47]
        by_cases hm : Lib.index l [47] = -1
        · rw [hm] at hi
          simp at hi
          rw [Lib.splitK, hm] at ih
          rw [Lib.splitK, hi]
          simp at ih ⊢
          exact ⟨ih.1, ih.2⟩
        · rw [if_neg (by simpa using hm)] at hi
          obtain ⟨j, hj⟩ : ∃ j : Nat, Lib.index l [47] = j := ⟨(Lib.index l [47]).toNat, by omega⟩
          rw [hj] at hi hm
          rw [Lib.splitK, hj, if_neg (by simp)] at ih
          have e2 : ((j : Int) + 1).toNat = j + 1 := by omega
          rw [Lib.splitK, hi, if_neg (by simp; omega), e2]
          simp at ih ⊢
          exact ⟨by rw [← ih.1], by rw [← ih.2]⟩
theorem split47B (s : ByteArray) : (Lib.splitB ⟨#[47]⟩ 0 (Lib.countB s ⟨#[47]⟩) s).map (·.data.toList) = sp47 s.data.toList := by
  rw [Lib.splitB_data]
  have : Lib.countB s ⟨#[47]⟩ = s.data.toList.count 47 := by unfold Lib.countB; exact Lib.count_one 47 _
  rw [this]
  exact splitK47 _
/-- 'l' ends with a 47. -/
def end47 : List UInt8 → Bool
  | [] => false
  | [b] => b == 47
  | _ :: b :: l => end47 (b :: l)
def two47 : List UInt8 → Bool
  | [] => false
  | [_] => false
  | a :: b :: l => (a == 47 && b == 47) || two47 (b :: l)
theorem contains47 : ∀ l : List UInt8, Lib.contains l [47, 47] = two47 l
  | [] => rfl
  | [b] => by simp [Lib.contains, Lib.index, two47, List.isPrefixOf]
  | a :: b :: l => by
    have ih := contains47 (b :: l)
    have hg := Lib.index_ge (b :: l) [47, 47]
    unfold Lib.contains at ih ⊢
    rw [Lib.index, two47]
    by_cases h : a = 47 ∧ b = 47
    · obtain ⟨rfl, rfl⟩ := h; simp [List.isPrefixOf]
    · have e : ([47, 47] : List UInt8).isPrefixOf (a :: b :: l) = false := by
        simp [List.isPrefixOf]; intro h1 h2; exact h ⟨h1.symm, h2.symm⟩
      have e2 : (a == 47 && b == 47) = false := by simp; intro h1; exact fun h2 => h ⟨h1, h2⟩
      rw [e, e2, Bool.false_or, ← ih]
      by_cases hm : Lib.index (b :: l) [47, 47] = -1
      · rw [hm]; rfl
      · rw [if_neg (by simp), if_neg (by simpa using hm)]
        rw [decide_eq_decide]; omega
theorem suffix47 : ∀ l : List UInt8, Lib.hasSuffix l [47] = end47 l
  | [] => rfl
  | [b] => by
    unfold Lib.hasSuffix
    simp [end47, List.isSuffixOf, List.isPrefixOf]
    rw [Bool.eq_iff_iff, beq_iff_eq, beq_iff_eq]; exact eq_comm
  | a :: b :: l => by
    rw [end47, ← suffix47 (b :: l)]
    unfold Lib.hasSuffix
    rw [Bool.eq_iff_iff, List.isSuffixOf_iff_suffix, List.isSuffixOf_iff_suffix]
    constructor
    · rintro ⟨t, ht⟩
      cases t with
      | nil => simp at ht
      | cons c t => simp at ht; exact ⟨t, ht.2⟩
    · rintro ⟨t, ht⟩; exact ⟨a :: t, by simp [ht]⟩
def emp (l : List (List UInt8)) : Bool := l.any (·.isEmpty)
theorem emp_sp : ∀ (l : List UInt8), (∀ b, b ≠ 47 → (two47 (b :: l) || end47 (b :: l)) = emp (sp47 l).tail) ∧ (two47 (47 :: l) || end47 (47 :: l)) = emp (sp47 l)
  | [] => by
    refine ⟨fun b hb => ?_, rfl⟩
    simp [two47, end47, emp, sp47, hb]
  | c :: l => by
    obtain ⟨h1, h2⟩ := emp_sp l
    by_cases hc : c = 47
    · subst hc
      refine ⟨fun b hb => ?_, ?_⟩
      · rw [sp47_slash, List.tail_cons, ← h2, two47, end47]
        simp [show (b == 47) = false from beq_eq_false_iff_ne.2 hb]
      · simp [two47, sp47_slash, emp]
    · obtain ⟨p, r, hs⟩ := List.exists_cons_of_ne_nil (sp47_ne l)
      have := h1 c hc
      rw [hs, List.tail_cons] at this
      refine ⟨fun b hb => ?_, ?_⟩
      · rw [sp47_other c l hc p r hs, List.tail_cons, ← this, two47, end47]; simp [show (b == 47) = false from beq_eq_false_iff_ne.2 hb]
      · rw [sp47_other c l hc p r hs, show emp ((c :: p) :: r) = emp r by simp [emp], ← this, two47, end47]; simp [show (c == 47) = false from beq_eq_false_iff_ne.2 hc]
/-- A byte of a name. -/
def nb (b : UInt8) : Bool := (decide (97 ≤ b.toNat) && decide (b.toNat ≤ 122)) || (decide (48 ≤ b.toNat) && decide (b.toNat ≤ 57))
def badB (b : UInt8) : Bool := !(nb b || b == 47)
theorem decode_low (s : ByteArray) (i : Nat) (h : (s.get! i).toNat < 128) : Utf8.decode s i = ((s.get! i).toNat, 1) := by
  unfold Utf8.decode
  simp only [Nat.add_zero]
  rw [if_pos h]
theorem decode_high (s : ByteArray) (i : Nat) (h : ¬ (s.get! i).toNat < 128) : 128 ≤ (Utf8.decode s i).1 := by
  unfold Utf8.decode
  simp only [Nat.add_zero]
  rw [if_neg h]
  have hr : 128 ≤ Utf8.runeError := by decide
  repeat' (first | exact hr | (split))
  all_goals first | exact hr | assumption | (simp only [ge_iff_le, Bool.and_eq_true, decide_eq_true_eq] at *; omega)
theorem idx_bad (p : Nat → Bool) (hp : ∀ r, p r = !((97 ≤ r && r ≤ 122) || (48 ≤ r && r ≤ 57) || r == 47)) (s : ByteArray) : ∀ (f pos : Nat), s.size ≤ pos + f →
    decide (0 ≤ Lib.idxFuncFrom p true s f pos) = (s.data.toList.drop pos).any badB
  | 0, pos, h => by
    rw [List.drop_of_length_le (by rw [Array.length_toList]; exact h)]
    simp [Lib.idxFuncFrom]
  | f + 1, pos, h => by
    unfold Lib.idxFuncFrom
    by_cases hlt : pos < s.size
    · rw [if_pos hlt]
      have hg : s.get! pos = s.data.toList[pos]'(by rw [Array.length_toList]; exact hlt) := by
        show s.data[pos]! = _
        rw [getElem!_pos s.data pos hlt]; simp
      rw [List.drop_eq_getElem_cons (by rw [Array.length_toList]; exact hlt), List.any_cons, ← hg]
      by_cases hb : (s.get! pos).toNat < 128
      · rw [decode_low s pos hb, hp]
        have e : (!((decide (97 ≤ (s.get! pos).toNat) && decide ((s.get! pos).toNat ≤ 122)) || (decide (48 ≤ (s.get! pos).toNat) && decide ((s.get! pos).toNat ≤ 57)) || (s.get! pos).toNat == 47)) = badB (s.get! pos) := by
          unfold badB nb
          congr 2
          rw [Bool.eq_iff_iff, beq_iff_eq, beq_iff_eq, ← UInt8.toNat_inj]; rfl
        rw [e]
        cases hq : badB (s.get! pos) with
        | true => rw [if_pos rfl]; simp
        | false => rw [if_neg (by simp), Bool.false_or]; exact idx_bad p hp s f (pos + 1) (by omega)
      · have hd := decode_high s pos hb
        have e1 : p (Utf8.decode s pos).1 = true := by
          rw [hp]; simp; omega
        have e2 : badB (s.get! pos) = true := by
          unfold badB nb
          have : (s.get! pos == 47) = false := by
            rw [beq_eq_false_iff_ne]; intro e; rw [e] at hb; exact hb (by decide)
          rw [this]; simp; omega
        rw [if_pos e1, e2]; simp
    · rw [if_neg hlt, List.drop_of_length_le (by rw [Array.length_toList]; exact Nat.le_of_not_lt hlt)]; simp

/-! ### lin -/
theorem l01In_eq (a b c : Int) : spec_l01In.f a b c = some (decide (b ≤ a ∧ a ≤ c)) := by
  unfold spec_l01In.f
  by_cases h : a ≥ b
  · rw [if_pos h]; congr 1; simp; omega
  · rw [if_neg h]; congr 1; simp; omega

/-! ### btn -/
theorem btn (a : ByteArray) (i : Nat) (h : i < a.data.toList.length) : bt a (i : Int) = ((a.data.toList[i]).toNat : Int) := by
  have h2 : i < a.size := by rw [b_len] at h; exact h
  rw [← bt_at a (i : Int) (by simpa using h2)]
  simp only [Int.toNat_natCast]; rfl

/-! ### splitpath -/
def mkB (l : List UInt8) : ByteArray := ⟨l.toArray⟩
theorem mkB_list (l : List UInt8) : (mkB l).data.toList = l := rfl
theorem mkB_size (l : List UInt8) : (mkB l).size = l.length := b_size l
theorem mkB_data (b : ByteArray) : mkB b.data.toList = b := b_inj rfl
theorem mkB_map {xs : List ByteArray} {l : List (List UInt8)} (h : xs.map (·.data.toList) = l) : xs = l.map mkB := by
  rw [← h, List.map_map]
  have : (mkB ∘ fun x : ByteArray => x.data.toList) = id := by funext b; exact mkB_data b
  rw [this, List.map_id]
def fin47 (out : List ByteArray) (long : Bool) (cur rest : List UInt8) : List ByteArray × Int :=
  if rest.any badB then ([], 1) else if emp (pcs cur rest) then ([], 1) else if long || (pcs cur rest).any (fun p => decide (7 < p.length)) then ([], 2) else (out ++ (pcs cur rest).map mkB, 0)
theorem nb_i (x : UInt8) : (decide ((97 : Int) ≤ (x.toNat : Int) ∧ (x.toNat : Int) ≤ 122) || decide ((48 : Int) ≤ (x.toNat : Int) ∧ (x.toNat : Int) ≤ 57)) = nb x := by
  unfold nb
  rw [Bool.eq_iff_iff]
  simp
  omega
theorem fin_bad (out : List ByteArray) (long : Bool) (cur rest : List UInt8) (x : UInt8) (h : badB x = true) : fin47 out long cur (x :: rest) = ([], 1) := by
  unfold fin47
  rw [if_pos (by simp [h])]
theorem fin_nb (out : List ByteArray) (long : Bool) (cur rest : List UInt8) (x : UInt8) (h : nb x = true) (h47 : x ≠ 47) : fin47 out long cur (x :: rest) = fin47 out long (cur ++ [x]) rest := by
  unfold fin47
  rw [pcs_other cur x rest h47, List.any_cons, show badB x = false by simp [badB, h], Bool.false_or]
theorem bad47 : badB 47 = false := by decide
theorem fin_empty (out : List ByteArray) (long : Bool) (rest : List UInt8) : fin47 out long [] (47 :: rest) = ([], 1) := by
  unfold fin47
  rw [pcs_slash, show emp ([] :: sp47 rest) = true by simp [emp]]
  split <;> rfl
theorem fin_slash (out : List ByteArray) (long : Bool) (cur rest : List UInt8) (hc : cur ≠ []) : fin47 out long cur (47 :: rest) = fin47 (out ++ [mkB cur]) (long || decide (7 < cur.length)) [] rest := by
  unfold fin47
  rw [pcs_slash, pcs_nil, List.any_cons, bad47, Bool.false_or]
  rw [show emp (cur :: sp47 rest) = emp (sp47 rest) by simp [emp, hc]]
  simp only [List.any_cons, List.map_cons, List.append_assoc, List.singleton_append, Bool.or_assoc]
theorem fin_end0 (out : List ByteArray) (long : Bool) : fin47 out long [] [] = ([], 1) := by
  unfold fin47
  rw [pcs_end]; rfl
theorem fin_end (out : List ByteArray) (long : Bool) (cur : List UInt8) (hc : cur ≠ []) : fin47 out long cur [] = if (long || decide (7 < cur.length)) then ([], 2) else (out ++ [mkB cur], 0) := by
  unfold fin47
  rw [pcs_end]
  simp [emp, hc]
theorem sSplit_l (a : ByteArray) (hn : a.size ≤ 60) : ∀ (i bg : Nat) (out : List ByteArray) (long : Bool), bg ≤ i → i ≤ a.size → out.length ≤ i → Ev (fun k => spec_SplitPath.l0 k a [] out long (bg : Int) (i : Int)) (fin47 out long ((a.data.toList.take i).drop bg) (a.data.toList.drop i))
  | i, bg, out, long, hb, hi, ho => by
    refine Ev.step (spec_SplitPath.l0.eq_2 _ _ _ _ _ _) ?_
    have hl := b_len a
    have hcl : ((a.data.toList.take i).drop bg).length = i - bg := by rw [List.length_drop, List.length_take]; omega
    have hE : a.extract (bg : Int).toNat (i : Int).toNat = mkB ((a.data.toList.take i).drop bg) := b_inj (by rw [b_cut, mkB_list]; rfl)
    have hw : wrap64 ((i : Int) - (bg : Int)) = (i : Int) - bg := w64 (by omega) (by omega)
    have hlim : out.length < 8796093022208 := by omega
    by_cases h : i < a.size
    · have h' : i < a.data.toList.length := by omega
      rw [drop_at a.data.toList i h']
      refine ev_pos (by omega) (ev_pos (by omega) (ev_pos (by omega) ?_))
      refine Ev.step (spec_SplitPath.j2.eq_2 _ _ _ _ _ _ _) ?_
      rw [btn a i h']
      have htk : (a.data.toList.take (i + 1)).drop bg = (a.data.toList.take i).drop bg ++ [a.data.toList[i]] := by
        rw [List.take_succ_eq_append_getElem h', List.drop_append_of_le_length (by rw [List.length_take]; omega)]
      have htk2 : (a.data.toList.take (i + 1)).drop (i + 1) = [] := List.drop_of_length_le (by rw [List.length_take]; omega)
      generalize hx : a.data.toList[i] = x at htk
      by_cases h47 : x = 47
      · subst h47
        refine ev_neg (by decide) ?_
        by_cases hbi : bg = i
        · subst hbi
          refine ev_pos rfl (ev_now ?_)
          rw [show (a.data.toList.take bg).drop bg = [] from List.eq_nil_of_length_eq_zero (by omega), fin_empty]
        · refine ev_neg (by omega) ?_
          rw [fin_slash _ _ _ _ (by intro e; rw [e] at hcl; simp at hcl; omega), hcl]
          have ih := fun lg => sSplit_l a hn (i + 1) (i + 1) (out ++ [mkB ((a.data.toList.take i).drop bg)]) lg (Nat.le_refl _) (by omega) (by simp; omega)
          rw [htk2] at ih
          cases long with
          | true =>
            refine ev_pos rfl (ev_pos (by omega) (ev_pos (by omega) (ev_pos (by omega) (ev_pos hlim ?_))))
            rw [hE, w64s i (by omega)]
            exact ih true
          | false =>
            refine ev_neg (by simp) (ev_pos (by omega) (ev_pos (by omega) (ev_pos (by omega) (ev_pos hlim ?_))))
            rw [hE, w64s i (by omega), hw]
            have e : decide ((i : Int) - (bg : Int) > 7) = decide (7 < i - bg) := by rw [decide_eq_decide]; omega
            rw [e, Bool.false_or]
            exact ih _
      · have hne : (((x.toNat : Int)) != 47) = true := by
          rw [bne_iff_ne]; intro e; exact h47 (UInt8.toNat_inj.1 (by have : x.toNat = 47 := by omega
                                                                     rw [this]; rfl))
        have hxl : x.toNat < 256 := UInt8.toNat_lt x
        refine ev_pos hne (ev_pos (by omega) (ev_pos (by omega) ?_))
        rw [w64 (by omega) (by omega)]
        have hj : ∀ v, v = !nb x → Ev (fun k => spec_SplitPath.j3 k a [] out long (bg : Int) (i : Int) v) (fin47 out long ((a.data.toList.take i).drop bg) (x :: a.data.toList.drop (i + 1))) := by
          intro v hv
          refine Ev.step (spec_SplitPath.j3.eq_2 _ _ _ _ _ _ _) ?_
          cases hq : nb x with
          | false => 
            rw [hq] at hv
            exact ev_pos hv (ev_now (fin_bad _ _ _ _ _ (by simp [badB, hq, h47])).symm)
          | true =>
            rw [hq] at hv
            subst hv
            refine ev_neg (by simp) ?_
            rw [fin_nb _ _ _ _ _ hq h47, w64s i (by omega), ← htk]
            exact sSplit_l a hn (i + 1) bg out long (by omega) (by omega) (by omega)
        have hnb := nb_i x
        refine Ev.bind (ev_eq (l01In_eq _ _ _)) ?_
        by_cases q1 : (97 : Int) ≤ (x.toNat : Int) ∧ (x.toNat : Int) ≤ 122
        · refine ev_pos (by simpa using q1) (hj _ ?_)
          rw [← hnb, decide_eq_true q1]; rfl
        · refine ev_neg (by simpa using q1) (Ev.bind (ev_eq (l01In_eq _ _ _)) (hj _ ?_))
          rw [← hnb, decide_eq_false q1, Bool.false_or]
    · have he : i = a.size := by omega
      refine ev_pos (by omega) (ev_neg (by omega) ?_)
      refine Ev.step (spec_SplitPath.j2.eq_2 _ _ _ _ _ _ _) ?_
      refine ev_neg (by simp) ?_
      rw [List.drop_of_length_le (by omega : a.data.toList.length ≤ i)]
      by_cases hbi : bg = i
      · subst hbi
        refine ev_pos rfl (ev_now ?_)
        rw [show (a.data.toList.take bg).drop bg = [] from List.eq_nil_of_length_eq_zero (by omega), fin_end0]
      · refine ev_neg (by omega) ?_
        rw [fin_end _ _ _ (by intro e; rw [e] at hcl; simp at hcl; omega), hcl]
        have last : ∀ (o : List ByteArray) (lg : Bool), Ev (fun k => spec_SplitPath.l0 k a [] o lg ((i + 1 : Nat) : Int) ((i + 1 : Nat) : Int)) (if lg then ([], 2) else (o, 0)) := by
          intro o lg
          refine Ev.step (spec_SplitPath.l0.eq_2 _ _ _ _ _ _) ?_
          refine ev_neg (by omega) ?_
          cases lg with
          | true => exact ev_pos rfl (ev_now rfl)
          | false => exact ev_neg (by simp) (ev_now rfl)
        cases long with
        | true =>
          refine ev_pos rfl (ev_pos (by omega) (ev_pos (by omega) (ev_pos (by omega) (ev_pos hlim ?_))))
          rw [hE, w64s i (by omega)]
          exact ev_to (last _ _) (by simp)
        | false =>
          refine ev_neg (by simp) (ev_pos (by omega) (ev_pos (by omega) (ev_pos (by omega) (ev_pos hlim ?_))))
          rw [hE, w64s i (by omega), hw]
          have e : decide ((i : Int) - (bg : Int) > 7) = decide (7 < i - bg) := by rw [decide_eq_decide]; omega
          rw [e, Bool.false_or]
          exact last _ _
  termination_by i => a.size + 1 - i
/-- What SplitPath comes to. -/
def spP (a : ByteArray) : List ByteArray × Int :=
  if 60 < a.size then ([], 1) else match a.data.toList with
    | [] => ([], 1)
    | c :: t => if c ≠ 47 then ([], 1) else if t = [] then ([], 0) else fin47 [] false [] t
theorem sSplit_ev (a : ByteArray) : Ev (fun k => spec_SplitPath.f k a) (spP a) := by
  unfold spec_SplitPath.f spP
  simp only [Option.bind_some]
  have hl := b_len a
  have j1 : Ev (fun k => spec_SplitPath.j0 k a [] true) ([], 1) := by
    refine Ev.step (spec_SplitPath.j0.eq_2 _ _ _) ?_
    exact ev_pos rfl (ev_now rfl)
  by_cases h : 60 < a.size
  · rw [if_pos h]; exact ev_pos (by omega) j1
  · rw [if_neg h]
    refine ev_neg (by omega) ?_
    rcases hq : a.data.toList with _ | ⟨c, t⟩
    · rw [hq] at hl; simp at hl
      exact ev_pos (by omega) j1
    · have hl' := hl
      rw [hq] at hl'; simp at hl'
      refine ev_neg (by omega) (ev_pos (by omega) ?_)
      have hb := btn a 0 (by omega)
      have e0 : a.data.toList[0]'(by omega) = c := by simp [hq]
      rw [e0] at hb
      rw [show bt a 0 = (c.toNat : Int) from hb]
      refine Ev.step (spec_SplitPath.j0.eq_2 _ _ _) ?_
      by_cases h47 : c = 47
      · subst h47
        refine ev_neg (by decide) ?_
        rw [b_toList, hq]
        simp only [ne_eq, not_true, if_false]
        by_cases ht : t = []
        · subst ht; exact ev_pos rfl (ev_now rfl)
        · rw [if_neg ht]
          refine ev_neg (by simp [ht]) (ev_to (sSplit_l a (by omega) 1 1 [] false (Nat.le_refl _) (by omega) (by simp)) ?_)
          rw [hq]; simp
      · refine ev_pos ?_ (ev_now (by simp [h47]))
        rw [bne_iff_ne]; intro e; exact h47 (UInt8.toNat_inj.1 (by have : c.toNat = 47 := by omega
                                                                   rw [this]; rfl))
def long7 (xs : List ByteArray) : Bool := xs.any (fun p => decide (7 < p.size))
theorem iIdx_l (xs : List ByteArray) (hn : xs.length ≤ 1000000) : ∀ i : Nat, i ≤ xs.length → ∃ r : Int, Ev (fun k => slices_IndexFunc_string.l0 k xs (xs.length : Int) (i : Int)) r ∧ decide (r ≥ 0) = long7 (xs.drop i)
  | i, hi => by
    by_cases h : i < xs.length
    · rw [drop_at xs i h]
      by_cases hs : 7 < xs[i].size
      · refine ⟨i, ?_, ?_⟩
        · refine Ev.step (slices_IndexFunc_string.l0.eq_2 _ _ _) ?_
          refine ev_pos (by omega) (ev_pos (by omega) (ev_pos (by omega) (Ev.bind (ev_eq rfl) (ev_pos ?_ (ev_now rfl)))))
          rw [rdOf_at _ xs i h]; exact decide_eq_true (by omega)
        · rw [show long7 (xs[i] :: xs.drop (i + 1)) = (decide (7 < xs[i].size) || long7 (xs.drop (i + 1))) from rfl, decide_eq_true hs]; simp
      · obtain ⟨r, hr, he⟩ := iIdx_l xs hn (i + 1) (by omega)
        refine ⟨r, ?_, ?_⟩
        · refine Ev.step (slices_IndexFunc_string.l0.eq_2 _ _ _) ?_
          refine ev_pos (by omega) (ev_pos (by omega) (ev_pos (by omega) (Ev.bind (ev_eq rfl) (ev_neg ?_ ?_))))
          · rw [rdOf_at _ xs i h]; simp; omega
          · rw [w64s i (by omega)]; exact hr
        · rw [he, show long7 (xs[i] :: xs.drop (i + 1)) = (decide (7 < xs[i].size) || long7 (xs.drop (i + 1))) from rfl, decide_eq_false hs]; simp
    · refine ⟨-1, ?_, ?_⟩
      · refine Ev.step (slices_IndexFunc_string.l0.eq_2 _ _ _) ?_
        exact ev_neg (by omega) (ev_now rfl)
      · rw [List.drop_of_length_le (by omega)]; rfl
  termination_by i => xs.length - i
theorem iHas_ev (xs : List ByteArray) (hn : xs.length ≤ 1000000) : Ev (fun k => slices_ContainsFunc_string.f k xs ()) (long7 xs) := by
  unfold slices_ContainsFunc_string.f slices_IndexFunc_string.f
  obtain ⟨r, hr, he⟩ := iIdx_l xs hn 0 (by omega)
  exact Ev.bind hr (ev_now (by rw [he, List.drop_zero]))
theorem iBad (a : ByteArray) : strings_ContainsFunc.f a () = some (a.data.toList.any badB) := by
  unfold strings_ContainsFunc.f
  congr 1
  have := idx_bad (fun r => (impl_SplitPath_1.f (r : Int)).getD false) (fun r => by
    unfold impl_SplitPath_1.f impl_isPathByte.f
    by_cases h1 : (r : Int) ≥ 97 <;> by_cases h2 : (r : Int) ≤ 122 <;> by_cases h3 : (r : Int) ≥ 48 <;> by_cases h4 : (r : Int) ≤ 57 <;> simp only [h1, h2, h3, h4, if_true, if_false, Option.bind_some, Option.getD_some] <;> rw [Bool.eq_iff_iff] <;> simp <;> omega) a a.size 0 (by omega)
  rw [List.drop_zero] at this
  exact this
theorem long7_mk (l : List (List UInt8)) : long7 (l.map mkB) = l.any (fun p => decide (7 < p.length)) := by
  unfold long7
  rw [List.any_map]
  rfl
theorem iSplit_ev (a : ByteArray) (ha : a.size ≤ 140737488351232) : Ev (fun k => impl_SplitPath.f k a) (spP a) := by
  unfold impl_SplitPath.f spP
  have hl := b_len a
  have j1 : Ev (fun k => impl_SplitPath.j0 k a true) ([], 1) := by
    refine Ev.step (impl_SplitPath.j0.eq_2 _ _) ?_
    exact ev_pos rfl (ev_now rfl)
  by_cases h : 60 < a.size
  · rw [if_pos h]; exact ev_pos (by omega) j1
  · rw [if_neg h]
    refine ev_neg (by omega) ?_
    have hC : strings_Contains.f a ⟨#[47, 47]⟩ = some (two47 a.data.toList) := by
      unfold strings_Contains.f
      rw [if_pos (by omega)]
      congr 1
      exact contains47 _
    have hS : strings_HasSuffix.f a ⟨#[47]⟩ = some (end47 a.data.toList) := by
      unfold strings_HasSuffix.f
      rw [if_pos (by omega)]
      congr 1
      exact suffix47 _
    rcases hq : a.data.toList with _ | ⟨c, t⟩
    · refine Ev.bind (ev_eq (show strings_HasPrefix.f a ⟨#[47]⟩ = some false by unfold strings_HasPrefix.f; rw [hq]; rfl)) ?_
      exact ev_neg (by simp) j1
    · have hP : strings_HasPrefix.f a ⟨#[47]⟩ = some (c == 47) := by
        unfold strings_HasPrefix.f
        rw [hq]
        congr 1
        show ([47] : List UInt8).isPrefixOf (c :: t) = _
        simp [List.isPrefixOf]
        rw [Bool.eq_iff_iff, beq_iff_eq, beq_iff_eq]; exact ⟨fun h => h.symm, fun h => h.symm⟩
      refine Ev.bind (ev_eq hP) ?_
      by_cases h47 : c = 47
      · subst h47
        refine ev_pos (by simp) ?_
        rw [b_toList, hC, hS, hq]
        simp only [ne_eq, not_true, if_false]
        have h1 : (1 : Int) ≤ (a.size : Int) := by rw [hq] at hl; simp at hl; omega
        by_cases ht : t = []
        · subst ht
          rw [if_pos rfl]
          refine ev_pos rfl (Ev.bind (ev_eq rfl) ?_)
          refine Ev.step (impl_SplitPath.j0.eq_2 _ _) ?_
          refine ev_neg (by decide) (Ev.bind (ev_eq (iBad a)) ?_)
          rw [hq]
          refine ev_neg (by decide) ?_
          rw [b_toList, hq]
          exact ev_pos rfl (ev_now rfl)
        · rw [if_neg ht]
          refine ev_neg (by simp [ht]) (Ev.bind (ev_eq rfl) ?_)
          have hemp := (emp_sp t).2
          have main : ∀ v, v = two47 (47 :: t) → end47 (47 :: t) = false → Ev (fun k => impl_SplitPath.j0 k a v) (fin47 [] false [] t) := by
            intro v hv he
            rw [he, Bool.or_false] at hemp
            refine Ev.step (impl_SplitPath.j0.eq_2 _ _) ?_
            unfold fin47
            rw [pcs_nil]
            cases hv2 : v with
            | true =>
              refine ev_pos rfl (ev_now ?_)
              rw [← hemp, ← hv, hv2]
              split <;> rfl
            | false =>
              refine ev_neg (by simp) (Ev.bind (ev_eq (iBad a)) ?_)
              rw [hq, List.any_cons, bad47, Bool.false_or, ← hemp, ← hv, hv2]
              cases hb : t.any badB with
              | true => exact ev_pos rfl (ev_now (by simp))
              | false =>
                refine ev_neg (by simp) ?_
                rw [b_toList, hq]
                refine ev_neg (by simp [ht]) (ev_pos h1 ?_)
                have hsz : (a.extract 1 a.size).data.toList = t := by
                  rw [b_cut, ← hl, List.take_length, hq]; rfl
                have hsp : strings_Split.f (a.extract 1 a.size) ⟨#[47]⟩ = some ((sp47 t).map mkB) := by
                  unfold strings_Split.f
                  have hs2 : (a.extract 1 a.size).size < 4294967281 := by
                    rw [← b_len, hsz]; rw [hq] at hl; simp at hl; omega
                  rw [if_pos ⟨hs2, by decide⟩]
                  congr 1
                  refine mkB_map ?_
                  rw [split47B, hsz]
                refine Ev.bind (ev_eq hsp) ?_
                have hln : ((sp47 t).map mkB).length ≤ 1000000 := by
                  have := sp47_len t
                  rw [List.length_map]; rw [hq] at hl; simp at hl; omega
                refine Ev.bind (iHas_ev _ hln) ?_
                rw [long7_mk]
                cases hg : (sp47 t).any (fun p => decide (7 < p.length)) with
                | true => exact ev_pos rfl (ev_now (by simp))
                | false => exact ev_neg (by simp) (ev_now (by simp))
          cases he : end47 (47 :: t) with
          | true =>
            refine ev_pos rfl (ev_to j1 ?_)
            rw [he, Bool.or_true] at hemp
            unfold fin47
            rw [pcs_nil, ← hemp]
            split <;> rfl
          | false =>
            refine ev_neg (by simp) (Ev.bind (ev_eq rfl) ?_)
            exact main _ rfl he
      · refine ev_neg (by simp [h47]) (ev_to j1 ?_)
        simp [h47]

/-! ### splitlen -/
theorem spP_len (a : ByteArray) : (spP a).1.length ≤ 1000 := by
  unfold spP
  split
  · simp
  · rename_i h
    have hl := b_len a
    split
    · simp
    · rename_i c t hq
      split
      · simp
      · split
        · simp
        · unfold fin47
          have := sp47_len t
          rw [hq] at hl; simp at hl
          repeat' (first | (split) | (simp; done))
          rw [pcs_nil]; simp; omega
theorem sumBy_le_append {α : Type} (f : α → Nat) (xs : List α) (n : Nat) : sumBy f (xs.take n) ≤ sumBy f xs := by
  induction xs generalizing n with
  | nil => simp
  | cons x r ih =>
    cases n with
    | zero => simp [sumBy]
    | succ n => rw [List.take_succ_cons, sumBy_cons, sumBy_cons]; have := ih n; omega
theorem sp47_sum : ∀ l : List UInt8, sumBy (fun p : List UInt8 => p.length) (sp47 l) ≤ l.length
  | [] => by simp [sp47, sumBy]
  | b :: l => by
    have ih := sp47_sum l
    by_cases h : b = 47
    · subst h; rw [sp47_slash, sumBy_cons]; simp; omega
    · obtain ⟨p, r, hs⟩ := List.exists_cons_of_ne_nil (sp47_ne l)
      rw [sp47_other b l h p r hs, sumBy_cons]
      rw [hs, sumBy_cons] at ih
      simp; omega
theorem sumBy_mk (l : List (List UInt8)) : sumBy (fun b : ByteArray => b.size) (l.map mkB) = sumBy (fun p : List UInt8 => p.length) l := by
  induction l with
  | nil => rfl
  | cons p r ih => rw [List.map_cons, sumBy_cons, sumBy_cons, ih, mkB_size]
/-- The ways of a good path. -/
theorem spP_ok (a : ByteArray) (h : (spP a).2 = 0) : a.size ≤ 60 ∧ ((a.data.toList = [47] ∧ (spP a).1 = []) ∨ ∃ t, a.data.toList = 47 :: t ∧ t ≠ [] ∧ t.any badB = false ∧ emp (sp47 t) = false ∧ (sp47 t).any (fun p => decide (7 < p.length)) = false ∧ (spP a).1 = (sp47 t).map mkB) := by
  unfold spP at h ⊢
  split at h
  · cases h
  rename_i h60
  rw [if_neg h60]
  refine ⟨by omega, ?_⟩
  split at h
  · cases h
  · rename_i c t hq
    rw [hq]
    split at h
    · cases h
    · rename_i h47
      simp only [ne_eq, Decidable.not_not] at h47
      subst h47
      split at h
      · rename_i ht
        subst ht
        exact Or.inl ⟨rfl, by simp⟩
      · rename_i ht
        right
        refine ⟨t, rfl, ht, ?_⟩
        simp only [ne_eq, not_true, if_false, if_neg ht]
        unfold fin47 at h ⊢
        rw [pcs_nil] at h ⊢
        cases hb : t.any badB with
        | true => rw [hb] at h; cases h
        | false =>
          cases he : emp (sp47 t) with
          | true => rw [hb, he] at h; cases h
          | false =>
            cases hl : (sp47 t).any (fun p => decide (7 < p.length)) with
            | true => rw [hb, he, hl] at h; cases h
            | false => simp
theorem spP_sum (a : ByteArray) : (spP a).1.length + sumBy (fun b : ByteArray => b.size) (spP a).1 ≤ 1000000 := by
  unfold spP
  split
  · simp [sumBy]
  · rename_i h
    have hl := b_len a
    split
    · simp [sumBy]
    · rename_i c t hq
      rw [hq] at hl; simp at hl
      split
      · simp [sumBy]
      · split
        · simp [sumBy]
        · unfold fin47
          have h1 := sp47_len t
          have h2 := sp47_sum t
          repeat' (first | (simp [sumBy]; done) | split)
          rw [pcs_nil, List.nil_append, sumBy_mk, List.length_map]; omega

/-! ### joinpath -/
def jn : List ByteArray → List UInt8
  | [] => []
  | x :: r => 47 :: (x.data.toList ++ jn r)
theorem jn_len (xs : List ByteArray) : (jn xs).length = xs.length + sumBy (fun s : ByteArray => s.size) xs := by
  induction xs with
  | nil => rfl
  | cons x r ih => rw [sumBy_cons]; simp [jn, ih]; omega
def jp (xs : List ByteArray) : ByteArray := if xs = [] then ⟨#[47]⟩ else ⟨(jn xs).toArray⟩
theorem jn_join (x : ByteArray) (r : List ByteArray) : jn (x :: r) = 47 :: Lib.join ((x :: r).map (·.data.toList)) [47] := by
  unfold Lib.join
  induction r generalizing x with
  | nil => simp [jn, List.intercalate]
  | cons y s ih =>
    have := ih y
    simp only [jn] at this ⊢
    rw [List.map_cons, List.map_cons, List.intercalate_cons_cons]
    simp only [List.map_cons] at this
    rw [this]
    simp

/-! ### eqstr -/
theorem drop_eq_iff' {α : Type} (xs ys : List α) (i : Nat) (h1 : i < xs.length) (h2 : i < ys.length) : xs.drop i = ys.drop i ↔ xs[i] = ys[i] ∧ xs.drop (i + 1) = ys.drop (i + 1) := by
  rw [drop_at xs i h1, drop_at ys i h2, List.cons.injEq]
open Classical in
noncomputable def eqL (xs ys : List ByteArray) : Bool := decide (xs = ys)
open Classical in
theorem iEq_l (xs ys : List ByteArray) (hl : xs.length = ys.length) (hn : xs.length ≤ 4000000) : ∀ i : Nat, i ≤ xs.length → Ev (fun k => slices_Equal_string.l0 k xs ys (xs.length : Int) i) (eqL (xs.drop i) (ys.drop i))
  | i, hi => by
    refine Ev.step (slices_Equal_string.l0.eq_2 _ _ _ _) ?_
    by_cases h : i < xs.length
    · refine ev_pos (by omega) (ev_pos (by omega) (ev_pos (by omega) (ev_pos (by omega) ?_)))
      rw [rdOf_at _ xs i h, rdOf_at _ ys i (by omega), w64s i (by omega)]
      by_cases he : xs[i] = ys[i]'(by omega)
      · refine ev_pos (by rw [he]) (ev_to (iEq_l xs ys hl hn (i + 1) (by omega)) ?_)
        unfold eqL
        simp only [drop_eq_iff' xs ys i h (by omega), he, true_and]
      · refine ev_neg (fun hc => he (toList_inj hc)) (ev_now ?_)
        unfold eqL
        simp only [drop_eq_iff' xs ys i h (by omega), he, false_and, decide_false]
    · refine ev_neg (by omega) (ev_now ?_)
      rw [List.drop_of_length_le (by omega), List.drop_of_length_le (by omega)]
      unfold eqL; simp
  termination_by i => xs.length - i
theorem iEq_ev (xs ys : List ByteArray) (hn : xs.length ≤ 4000000) : Ev (fun k => slices_Equal_string.f k xs ys) (eqL xs ys) := by
  unfold slices_Equal_string.f
  by_cases h : xs.length = ys.length
  · have := iEq_l xs ys h hn 0 (by omega)
    rw [List.drop_zero, List.drop_zero] at this
    exact ev_pos (by omega) this
  · refine ev_neg (by omega) (ev_now ?_)
    unfold eqL
    rw [decide_eq_false]; intro e; exact h (by rw [e])

/-! ### isunder -/
noncomputable def undP (a b : ByteArray) : Bool := decide ((spP a).2 = 0) && (decide ((spP b).2 = 0) && (decide ((spP b).1.length < (spP a).1.length) && eqL ((spP a).1.take (spP b).1.length) (spP b).1))
open Classical in
theorem sUnd_l (xs ys : List ByteArray) (hl : ys.length < xs.length) (hn : xs.length ≤ 4000000) : ∀ i : Nat, i ≤ ys.length → Ev (fun k => spec_IsUnder.l0 k xs ys i) (eqL ((xs.take ys.length).drop i) (ys.drop i))
  | i, hi => by
    refine Ev.step (spec_IsUnder.l0.eq_2 _ _ _) ?_
    have ht : (xs.take ys.length).length = ys.length := by rw [List.length_take]; omega
    by_cases h : i < ys.length
    · refine ev_pos (by omega) (ev_pos (by omega) (ev_pos (by omega) ?_))
      rw [rdOf_at _ xs i (by omega), rdOf_at _ ys i h, w64s i (by omega)]
      have hx : (xs.take ys.length)[i]'(by omega) = xs[i]'(by omega) := List.getElem_take
      by_cases he : xs[i]'(by omega) = ys[i]
      · refine ev_pos (by rw [he]) (ev_to (sUnd_l xs ys hl hn (i + 1) (by omega)) ?_)
        unfold eqL
        simp only [drop_eq_iff' (xs.take ys.length) ys i (by omega) h, hx, he, true_and]
      · refine ev_neg (fun hc => he (toList_inj hc)) (ev_now ?_)
        unfold eqL
        simp only [drop_eq_iff' (xs.take ys.length) ys i (by omega) h, hx, he, false_and, decide_false]
    · refine ev_neg (by omega) (ev_now ?_)
      rw [List.drop_of_length_le (by omega), List.drop_of_length_le (by omega)]
      unfold eqL; simp
  termination_by i => ys.length - i
theorem sUnd_ev (a b : ByteArray) : Ev (fun k => spec_IsUnder.f k a b) (undP a b) := by
  unfold spec_IsUnder.f undP
  have hn := spP_len a
  refine Ev.bind (sSplit_ev a) (Ev.bind (sSplit_ev b) ?_)
  have no : ∀ v : Bool, v = true → Ev (fun k => spec_IsUnder.j0 k (spP a).1 (spP b).1 v) false := by
    intro v hv
    refine Ev.step (spec_IsUnder.j0.eq_2 _ _ _) ?_
    exact ev_pos hv (ev_now rfl)
  by_cases h1 : (spP a).2 = 0
  · by_cases h2 : (spP b).2 = 0
    · refine ev_pos h1 (ev_pos h2 ?_)
      by_cases h3 : (spP b).1.length < (spP a).1.length
      · rw [decide_eq_false (by omega : ¬ ((spP a).1.length : Int) ≤ ((spP b).1.length : Int))]
        refine Ev.step (spec_IsUnder.j0.eq_2 _ _ _) ?_
        refine ev_neg (by simp) (ev_to (sUnd_l _ _ h3 (by omega) 0 (by omega)) ?_)
        simp [h1, h2, h3]
      · exact ev_to (no _ (decide_eq_true (by omega))) (by simp [h3])
    · exact ev_pos h1 (ev_neg h2 (ev_to (no _ rfl) (by simp [h2])))
  · exact ev_neg h1 (ev_to (no _ rfl) (by simp [h1]))

theorem iUnd_ev (a b : ByteArray) (ha : a.size ≤ 140737488351232) (hb : b.size ≤ 140737488351232) : Ev (fun k => impl_IsUnder.f k a b) (undP a b) := by
  unfold impl_IsUnder.f undP
  have hn := spP_len a
  refine Ev.bind (iSplit_ev a ha) (Ev.bind (iSplit_ev b hb) ?_)
  by_cases h1 : (spP a).2 = 0
  · by_cases h2 : (spP b).2 = 0
    · refine ev_pos h1 (ev_pos h2 ?_)
      by_cases h3 : (spP b).1.length < (spP a).1.length
      · refine ev_pos (by omega) (ev_pos (by omega) (ev_pos (by omega) ?_))
        rw [Int.toNat_natCast]
        refine Ev.bind (iEq_ev _ _ (by rw [List.length_take]; omega)) (ev_now ?_)
        simp [h1, h2, h3]
      · exact ev_neg (by omega) (ev_now (by simp [h3]))
    · exact ev_pos h1 (ev_neg h2 (ev_now (by simp [h2])))
  · exact ev_neg h1 (ev_now (by simp [h1]))

/-! ### rt -/
theorem jn_app2 (a b : List ByteArray) : jn (a ++ b) = jn a ++ jn b := by
  induction a with
  | nil => rfl
  | cons x r ih => simp [jn, ih]
theorem jn_sp2 : ∀ t : List UInt8, jn ((sp47 t).map mkB) = 47 :: t
  | [] => by simp [sp47, jn, mkB]
  | b :: l => by
    have ih := jn_sp2 l
    by_cases h : b = 47
    · subst h; rw [sp47_slash]; simp [jn, mkB_list, ih]
    · obtain ⟨p, r, hs⟩ := List.exists_cons_of_ne_nil (sp47_ne l)
      rw [sp47_other b l h p r hs]
      rw [hs] at ih
      simp [jn, mkB_list] at ih ⊢
      exact ih
theorem rt2 (a : ByteArray) (h : (spP a).2 = 0) : jp (spP a).1 = a := by
  obtain ⟨_, ⟨h0, h1⟩ | ⟨t, ht, _, _, _, _, hs⟩⟩ := spP_ok a h
  · rw [h1]; exact b_inj h0.symm
  · rw [hs]
    refine b_inj ?_
    unfold jp
    rw [if_neg (by simp [sp47_ne t]), b_mk, jn_sp2, ht]
theorem jp_len (xs : List ByteArray) (h : xs ≠ []) : (jp xs).size = xs.length + sumBy (fun s : ByteArray => s.size) xs := by
  unfold jp
  rw [if_neg h, b_size, jn_len]
theorem sumBy_take_le (xs : List ByteArray) (n : Nat) : sumBy (fun s : ByteArray => s.size) (xs.take n) ≤ sumBy (fun s : ByteArray => s.size) xs := sumBy_le_append _ xs n
/-- What lies under a folder has a path that is no shorter. -/
theorem und_size (a b : ByteArray) (h : undP a b = true) : b.size ≤ a.size := by
  unfold undP at h
  simp only [Bool.and_eq_true, decide_eq_true_eq] at h
  obtain ⟨ha, hb, hl, he⟩ := h
  have e : (spP a).1.take (spP b).1.length = (spP b).1 := by
    unfold eqL at he
    simpa using he
  have ea := rt2 a ha
  have eb := rt2 b hb
  have na : (spP a).1 ≠ [] := by intro c; rw [c] at hl; simp at hl
  have sa := jp_len _ na
  rw [ea] at sa
  by_cases nb : (spP b).1 = []
  · rw [nb] at eb
    have : b.size = 1 := by rw [← eb]; rfl
    omega
  · have sb := jp_len _ nb
    rw [eb] at sb
    have := sumBy_take_le (spP a).1 (spP b).1.length
    rw [e] at this
    omega

/-! ### movedv -/
noncomputable def mvX (fr tu : ByteArray) (x : S36) : S36 := open Classical in if x.f0.toList = fr.toList ∨ undP x.f0 fr = true then ⟨tu ++ x.f0.extract fr.size x.f0.size, x.f1, x.f2⟩ else x
def leP (x y : S36) : Bool := !(Op.bytesLess x.f0.toList y.f0.toList)
def insM (x : S36) (out : List S36) : List S36 := out.takeWhile (leP x) ++ [x] ++ out.dropWhile (leP x)
noncomputable def mvL (fr tu : ByteArray) : List S36 → List S36 → List S36
  | [], out => out
  | x :: r, out => mvL fr tu r (insM (mvX fr tu x) out)
theorem insM_len (x : S36) (out : List S36) : (insM x out).length = out.length + 1 := by
  have e := congrArg List.length (List.takeWhile_append_dropWhile (p := leP x) (l := out))
  unfold insM
  simp only [List.length_append, List.length_singleton] at e ⊢
  omega
theorem insM_mem (x y : S36) (out : List S36) : y ∈ insM x out ↔ y = x ∨ y ∈ out := by
  have e : y ∈ out ↔ y ∈ out.takeWhile (leP x) ++ out.dropWhile (leP x) := by rw [List.takeWhile_append_dropWhile]
  rw [e]
  unfold insM
  simp only [List.mem_append, List.mem_singleton]
  exact ⟨fun h => h.elim (fun h => h.elim (fun h => .inr (.inl h)) .inl) (fun h => .inr (.inr h)), fun h => h.elim (fun h => .inl (.inr h)) (fun h => h.elim (fun h => .inl (.inl h)) .inr)⟩
theorem tw_take {α : Type} (p : α → Bool) : ∀ (l : List α) (i : Nat), (∀ y ∈ l.take i, p y = true) → (∀ h : i < l.length, p l[i] = false) → l.takeWhile p = l.take i ∧ l.dropWhile p = l.drop i
  | [], i, _, _ => by simp
  | x :: r, 0, _, h => by
    have := h (by simp)
    rw [List.getElem_cons_zero] at this
    simp [List.takeWhile, List.dropWhile, this]
  | x :: r, i + 1, h, h2 => by
    have hx : p x = true := h x (by simp)
    have := tw_take p r i (fun y hy => h y (by simp [hy])) (fun hh => by have q := h2 (by simp; omega); rw [List.getElem_cons_succ] at q; exact q)
    simp [List.takeWhile, List.dropWhile, hx, this.1, this.2]
theorem sMv_l1 (fr tu : ByteArray) (xs : List S36) (j : Nat) (p : ByteArray) (b : Bool) (t : ByteArray) (out r : List S36) (hn : out.length ≤ 2000000) (hj : j ≤ 2000000)
    (hr : Ev (fun k => spec_MovedItems.l0 k fr tu ((j + 1 : Nat) : Int) xs (insM ⟨p, b, t⟩ out)) r) : ∀ i : Nat, i ≤ out.length → (∀ y ∈ out.take i, leP ⟨p, b, t⟩ y = true) → Ev (fun k => spec_MovedItems.l1 k fr tu (j : Int) (i : Int) xs out p b t) r
  | i, hi, ha => by
    refine Ev.step (spec_MovedItems.l1.eq_2 _ _ _ _ _ _ _ _ _) ?_
    by_cases h : i < out.length
    · refine ev_pos (by omega) (ev_pos (by omega) ?_)
      rw [rd_itemI out i h]
      by_cases hl : Op.bytesLess p.toList out[i].f0.toList = true
      · have ht := tw_take (leP ⟨p, b, t⟩) out i ha (fun _ => by show (!(Op.bytesLess p.toList out[i].f0.toList)) = false; rw [hl]; rfl)
        refine ev_pos hl ?_
        refine Ev.bind (ev_now rfl) (ev_pos (by omega) (Ev.bind (ev_now rfl) (ev_pos (by simp; omega) (Ev.bind (ev_now rfl) (Ev.bind (ev_now rfl) (ev_pos (by simp; omega) (Ev.bind (ev_now rfl) (Ev.bind (ev_now rfl) (ev_pos (by simp; omega) ?_)))))))))
        rw [w64s j (by omega), Int.toNat_natCast, List.nil_append]
        unfold insM at hr
        rw [ht.1, ht.2] at hr
        exact hr
      · refine ev_neg hl ?_
        rw [w64s i (by omega)]
        refine sMv_l1 fr tu xs j p b t out r hn hj hr (i + 1) (by omega) (fun y hy => ?_)
        rw [List.take_succ_eq_append_getElem h, List.mem_append, List.mem_singleton] at hy
        rcases hy with hy | rfl
        · exact ha y hy
        · show (!(Op.bytesLess p.toList out[i].f0.toList)) = true
          rw [Bool.not_eq_true] at hl
          rw [hl]; rfl
    · have ht := tw_take (leP ⟨p, b, t⟩) out i ha (fun h' => absurd h' h)
      refine ev_neg (by omega) ?_
      refine Ev.bind (ev_now rfl) (ev_pos (by omega) (ev_pos (by omega) (Ev.bind (ev_now rfl) (ev_pos (by simp; omega) (Ev.bind (ev_now rfl) (Ev.bind (ev_now rfl) (ev_pos (by simp; omega) (Ev.bind (ev_now rfl) (Ev.bind (ev_now rfl) (ev_pos (by simp; omega) ?_))))))))))
      rw [w64s j (by omega), Int.toNat_natCast, List.nil_append]
      unfold insM at hr
      rw [ht.1, ht.2] at hr
      exact hr
  termination_by i => out.length - i
theorem sMv_l0 (fr tu : ByteArray) (xs : List S36) (hn : xs.length ≤ 1048577) (ht : tu.size ≤ 4000000) (hs : ∀ y ∈ xs, y.f0.size ≤ 4000000) : ∀ (j : Nat) (out : List S36), j ≤ xs.length → out.length ≤ j → Ev (fun k => spec_MovedItems.l0 k fr tu (j : Int) xs out) (mvL fr tu (xs.drop j) out)
  | j, out, hj, ho => by
    refine Ev.step (spec_MovedItems.l0.eq_2 _ _ _ _ _) ?_
    by_cases h : j < xs.length
    · have hm := hs _ (List.getElem_mem h)
      rw [drop_at xs j h]
      have ih := sMv_l0 fr tu xs hn ht hs (j + 1) (insM (mvX fr tu xs[j]) out) (by omega) (by rw [insM_len]; omega)
      have j2 : ∀ (p : ByteArray) (b : Bool) (t : ByteArray), (⟨p, b, t⟩ : S36) = mvX fr tu xs[j] → Ev (fun k => spec_MovedItems.j2 k fr tu (j : Int) xs out p b t) (mvL fr tu (xs[j] :: xs.drop (j + 1)) out) := by
        intro p b t e
        refine Ev.step (spec_MovedItems.j2.eq_2 _ _ _ _ _ _ _ _) ?_
        refine sMv_l1 fr tu xs j p b t out _ (by omega) (by omega) ?_ 0 (by omega) (by simp)
        rw [e]; exact ih
      have j1 : ∀ z : Bool, (z = true ↔ (xs[j].f0.toList = fr.toList ∨ undP xs[j].f0 fr = true)) → Ev (fun k => spec_MovedItems.j1 k fr tu (j : Int) z xs out xs[j].f0 xs[j].f1 xs[j].f2) (mvL fr tu (xs[j] :: xs.drop (j + 1)) out) := by
        intro z hz
        refine Ev.step (spec_MovedItems.j1.eq_2 _ _ _ _ _ _ _ _ _) ?_
        by_cases c : z = true
        · have hc := hz.1 c
          have hl : fr.size ≤ xs[j].f0.size := by
            rcases hc with hc | hc
            · rw [toList_inj hc]; exact Nat.le_refl _
            · exact und_size _ _ hc
          refine ev_pos c (ev_pos (by omega) (ev_pos (by omega) ?_))
          rw [Int.toNat_natCast]
          refine ev_pos (by rw [ByteArray.size_extract]; omega) (j2 _ _ _ ?_)
          unfold mvX
          rw [if_pos hc]
        · refine ev_neg c (j2 _ _ _ ?_)
          unfold mvX
          rw [if_neg (fun hh => c (hz.2 hh))]
      refine ev_pos (by omega) (ev_pos (by omega) ?_)
      rw [rd_itemI xs j h]
      by_cases he : xs[j].f0.toList = fr.toList
      · exact ev_pos he (j1 true ⟨fun _ => .inl he, fun _ => rfl⟩)
      · exact ev_neg he (Ev.bind (sUnd_ev _ _) (j1 _ ⟨fun hh => .inr hh, fun hh => hh.resolve_left he⟩))
    · refine ev_neg (by omega) (ev_now ?_)
      rw [List.drop_of_length_le (by omega)]; rfl
  termination_by j => xs.length - j
theorem sMv_ev (fr tu : ByteArray) (xs : List S36) (hn : xs.length ≤ 1048577) (ht : tu.size ≤ 4000000) (hs : ∀ y ∈ xs, y.f0.size ≤ 4000000) : Ev (fun k => spec_MovedItems.f k xs fr tu) (mvL fr tu xs []) := by
  unfold spec_MovedItems.f
  exact sMv_l0 fr tu xs hn ht hs 0 [] (by omega) (by simp)
theorem mvL_len (fr tu : ByteArray) : ∀ (xs out : List S36), (mvL fr tu xs out).length = xs.length + out.length
  | [], out => by simp [mvL]
  | x :: r, out => by
    unfold mvL
    rw [mvL_len fr tu r, insM_len, List.length_cons]; omega
/-- A view's items: so many, and their texts so long. -/
def vB (n s : Nat) (xs : List S36) : Prop := xs.length ≤ n ∧ ∀ y ∈ xs, y.f0.size ≤ s ∧ y.f2.size ≤ s
theorem vB_mono {n s m z : Nat} {xs : List S36} (h : vB n s xs) (h1 : n ≤ m) (h2 : s ≤ z) : vB m z xs := ⟨by have := h.1; omega, fun y hy => by have := h.2 y hy; omega⟩
theorem mvX_size (fr tu : ByteArray) (x : S36) : (mvX fr tu x).f0.size ≤ tu.size + x.f0.size ∧ (mvX fr tu x).f2 = x.f2 := by
  unfold mvX
  split
  · refine ⟨?_, rfl⟩
    show (tu ++ x.f0.extract fr.size x.f0.size).size ≤ _
    rw [ByteArray.size_append, ByteArray.size_extract]; omega
  · exact ⟨by omega, rfl⟩
theorem mvL_B (fr tu : ByteArray) (s : Nat) : ∀ (xs out : List S36), (∀ y ∈ xs, y.f0.size ≤ s ∧ y.f2.size ≤ s) → (∀ y ∈ out, y.f0.size ≤ s + tu.size ∧ y.f2.size ≤ s + tu.size) → (mvL fr tu xs out).length = xs.length + out.length ∧ ∀ y ∈ mvL fr tu xs out, y.f0.size ≤ s + tu.size ∧ y.f2.size ≤ s + tu.size
  | [], out, _, ho => ⟨by simp [mvL], ho⟩
  | x :: r, out, hx, ho => by
    unfold mvL
    have hz := mvX_size fr tu x
    have hq := hx x (by simp)
    have ih := mvL_B fr tu s r (insM (mvX fr tu x) out) (fun y hy => hx y (by simp [hy])) (fun y hy => by
      rcases (insM_mem _ _ _).1 hy with rfl | hy
      · rw [hz.2]; omega
      · exact ho y hy)
    exact ⟨by rw [ih.1, insM_len, List.length_cons]; omega, ih.2⟩

/-! ### movedstb -/
theorem drop_lt {x : S36} : ∀ out : List S36, Srt ltI out → ∀ y ∈ out.dropWhile (leP x), ltI x y = true
  | [], _, y, hy => by cases hy
  | z :: r, h, y, hy => by
    obtain ⟨h1, h2⟩ := Srt.cons.1 h
    rw [List.dropWhile_cons] at hy
    by_cases hz : leP x z = true
    · rw [if_pos hz] at hy
      exact drop_lt r h2 y hy
    · rw [if_neg hz] at hy
      have hxz : ltI x z = true := by unfold leP at hz; unfold ltI; simpa using hz
      rcases List.mem_cons.1 hy with rfl | hy
      · exact hxz
      · by_cases hn : ltI x y = true
        · exact hn
        · have := wkI.neg z y x (h1 y hy) (by simpa using hn)
          rw [this] at hxz
          cases hxz
theorem take_nlt {x : S36} : ∀ out : List S36, ∀ y ∈ out.takeWhile (leP x), ltI x y = false
  | [], y, hy => by cases hy
  | z :: r, y, hy => by
    rw [List.takeWhile_cons] at hy
    by_cases hz : leP x z = true
    · rw [if_pos hz] at hy
      rcases List.mem_cons.1 hy with rfl | hy
      · unfold leP at hz; unfold ltI; simpa using hz
      · exact take_nlt r y hy
    · rw [if_neg hz] at hy
      cases hy
theorem insM_stb {x : S36} {out : List S36} (h : Srt ltI out) : Srt ltI (insM x out) ∧ Stb ltI (insM x out) (out ++ [x]) := by
  have e := List.takeWhile_append_dropWhile (p := leP x) (l := out)
  have hs : Srt ltI (out.takeWhile (leP x) ++ out.dropWhile (leP x)) := by rw [e]; exact h
  have := ins_step wkI hs (take_nlt out) (drop_lt out h)
  unfold insM
  rw [List.append_assoc, List.singleton_append]
  rw [e] at this
  exact this
theorem mvL_stb (fr tu : ByteArray) : ∀ (xs out : List S36), Srt ltI out → Srt ltI (mvL fr tu xs out) ∧ Stb ltI (mvL fr tu xs out) (out ++ xs.map (mvX fr tu))
  | [], out, h => ⟨h, by rw [List.map_nil, List.append_nil]; exact Stb.refl _⟩
  | x :: r, out, h => by
    have h1 := insM_stb (x := mvX fr tu x) h
    have h2 := mvL_stb fr tu r (insM (mvX fr tu x) out) h1.1
    refine ⟨h2.1, h2.2.trans ?_⟩
    rw [List.map_cons, show out ++ mvX fr tu x :: r.map (mvX fr tu) = (out ++ [mvX fr tu x]) ++ r.map (mvX fr tu) by simp]
    exact h1.2.app (Stb.refl _)
/-- What is in order and ties with the items moved, is what the spec gives. -/
theorem mv_one (fr tu : ByteArray) (xs ys : List S36) (h1 : Srt ltI ys) (h2 : Stb ltI ys (xs.map (mvX fr tu))) : ys = mvL fr tu xs [] := by
  have h := mvL_stb fr tu xs [] (by unfold Srt; exact List.Pairwise.nil)
  rw [List.nil_append] at h
  exact stb_one wkI _ _ h1 h.1 (h2.trans h.2.symm)

/-! ### imoved -/
theorem iMv_l0 (fr tu : ByteArray) (xs : List S36) (n : Nat) (hn : xs.length = n) (hm : n ≤ 1048577) (ht : tu.size ≤ 4000000) (hf : fr.size ≤ 4000000) (hs : ∀ y ∈ xs, y.f0.size ≤ 4000000) : ∀ (m : Nat) (i : Nat) (X : List S36), n - i = m → i ≤ n → X = (xs.take i).map (mvX fr tu) ++ xs.drop i →
    Ev (fun k => impl_MovedItems.l0 k fr tu (n : Int) (i : Int) X) (mvL fr tu xs [])
  | m, i, X, hi, hle, hX => by
    refine Ev.step (impl_MovedItems.l0.eq_2 _ _ _ _ _) ?_
    have lX : X.length = n := by rw [hX]; simp; omega
    by_cases h : i < n
    · have hix : i < xs.length := by omega
      have hxi : X[i]'(by omega) = xs[i]'hix := by
        subst hX
        rw [List.getElem_append_right (by simp; omega)]
        simp [Nat.min_eq_left (by omega : i ≤ xs.length)]
      have hme := hs _ (List.getElem_mem hix)
      have nx : X.set i (mvX fr tu (xs[i]'hix)) = (xs.take (i + 1)).map (mvX fr tu) ++ xs.drop (i + 1) := by
        subst hX
        have l1 : ((xs.take i).map (mvX fr tu)).length = i := by simp; omega
        rw [drop_at xs i hix, List.set_append_right _ _ (by omega), l1, Nat.sub_self, List.set_cons_zero, List.take_succ_eq_append_getElem hix, List.map_append]
        simp
      have same : ¬ (xs[i]'hix).f0.toList = fr.toList → ¬ undP (xs[i]'hix).f0 fr = true → X = (xs.take (i + 1)).map (mvX fr tu) ++ xs.drop (i + 1) := fun h1 h2 => by
        rw [← nx]
        have e : mvX fr tu (xs[i]'hix) = X[i]'(by omega) := by
          rw [hxi]; unfold mvX; rw [if_neg (fun c => c.elim h1 h2)]
        rw [e, List.set_getElem_self]
      have go : (xs[i]'hix).f0.toList = fr.toList ∨ undP (xs[i]'hix).f0 fr = true → Ev (fun k => if 0 ≤ (fr.size : Int) then (if (fr.size : Int) ≤ ((xs[i]'hix).f0.size : Int) then ((some ((xs[i]'hix).f0.extract ((fr.size : Int) : Int).toNat (xs[i]'hix).f0.size : ByteArray)).bind fun y => (if tu.size + y.size ≤ 9223372036854775807 then ((some (tu ++ y : ByteArray)).bind fun z => (impl_MovedItems.l0 k fr tu (n : Int) (wrap64 ((i : Int) + 1)) (X.set (i : Int).toNat (⟨z, (xs[i]'hix).f1, (xs[i]'hix).f2⟩ : S36)))) else none)) else none) else none) (mvL fr tu xs []) := fun hc => by
        have hl : fr.size ≤ (xs[i]'hix).f0.size := by
          rcases hc with hc | hc
          · rw [toList_inj hc]; exact Nat.le_refl _
          · exact und_size _ _ hc
        refine ev_pos (by omega) (ev_pos (by omega) (Ev.bind (ev_now rfl) (ev_pos (by rw [ByteArray.size_extract]; omega) (Ev.bind (ev_now rfl) ?_))))
        rw [w64s i (by omega), Int.toNat_natCast, Int.toNat_natCast]
        refine iMv_l0 fr tu xs n hn hm ht hf hs (n - (i + 1)) (i + 1) _ rfl (by omega) ?_
        rw [← nx]
        unfold mvX
        rw [if_pos hc]
      refine ev_pos (by omega) (ev_pos (by omega) (ev_pos (by omega) ?_))
      rw [rd_itemI X i (by omega), hxi]
      by_cases he : (xs[i]'hix).f0.toList = fr.toList
      · exact ev_pos he (go (.inl he))
      · refine ev_neg he (Ev.bind (iUnd_ev _ _ (by omega) (by omega)) ?_)
        by_cases hu : undP (xs[i]'hix).f0 fr = true
        · exact ev_pos hu (go (.inr hu))
        · refine ev_neg hu ?_
          rw [w64s i (by omega)]
          exact iMv_l0 fr tu xs n hn hm ht hf hs (n - (i + 1)) (i + 1) _ rfl (by omega) (same he hu)
    · refine ev_neg (by omega) ?_
      have eX : X = xs.map (mvX fr tu) := by rw [hX, List.take_of_length_le (by omega), List.drop_of_length_le (by omega), List.append_nil]
      obtain ⟨r, er, s1, s2⟩ := sort_ok X (by omega)
      refine Ev.bind er (ev_now ?_)
      rw [eX] at s2
      exact mv_one fr tu xs r s1 s2
  termination_by m => m
  decreasing_by all_goals omega
theorem iMv_ev (fr tu : ByteArray) (xs : List S36) (hn : xs.length ≤ 1048577) (ht : tu.size ≤ 4000000) (hf : fr.size ≤ 4000000) (hs : ∀ y ∈ xs, y.f0.size ≤ 4000000) : Ev (fun k => impl_MovedItems.f k xs fr tu) (mvL fr tu xs []) := by
  unfold impl_MovedItems.f impl_copyView.f slices_Clone_Item.f
  rw [if_pos (by omega), Option.bind_some]
  refine Ev.bind (ev_now rfl) ?_
  exact iMv_l0 fr tu xs xs.length rfl hn ht hf hs xs.length 0 xs (by omega) (by omega) (by simp)

/-! ### FnExactMovedItems -/
theorem FnExactMovedItems : laws_FnExactMovedItems.Law := by
  intro xs fr tu hx hf ht
  apply Ev.rounds
  unfold laws_FnExactMovedItems.f
  by_cases hb : (fr.size : Int) > 1048576
  · exact ev_pos hb (ev_now rfl)
  refine ev_neg hb ?_
  by_cases hb2 : (tu.size : Int) > 1048576
  · exact ev_pos hb2 (ev_now rfl)
  refine ev_neg hb2 (Ev.bind (szView_ev xs hx _ (by omega) (by omega)) ?_)
  by_cases h : left 1048576 (wtItemS xs) < 0
  · exact ev_pos h (ev_now rfl)
  have nw := wtItemS_len (xs := xs) (a := 1048576) (by omega) (by omega)
  have nx := nw.1
  have nl : (xs.map cvItem).length ≤ 1048576 := by rw [List.length_map]; exact nx
  have nz : ∀ y ∈ xs.map cvItem, y.f0.size ≤ 4000000 := fun y hy => by
    obtain ⟨z, hz, rfl⟩ := List.mem_map.1 hy
    have := nw.2 z hz
    unfold wtItem at this
    show z.f0.size ≤ _
    omega
  have nm : (mvL fr tu (xs.map cvItem) []).length ≤ 1048576 := by
    have := mvL_len fr tu (xs.map cvItem) []
    rw [this, List.length_nil]; omega
  refine ev_neg h ?_
  repeat' first
    | (with_reducible exact ev_now rfl)
    | (with_reducible refine Ev.bind (toView_ev xs nx) ?_)
    | (with_reducible refine Ev.bind (sMv_ev fr tu _ (by omega) (by omega) nz) ?_)
    | (with_reducible refine Ev.bind (iMv_ev fr tu _ (by omega) (by omega) (by omega) nz) ?_)
    | (with_reducible refine Ev.bind (eqView_ev _ (by omega)) ?_)
    | (with_reducible refine Ev.bind (markView_m _ (by omega)) ?_)
    | (with_reducible refine Ev.bind (heldView_m _ (by omega)) ?_)
    | (with_reducible refine ev_pos rfl ?_)
    | ((with_reducible refine ev_pos ?c_ ?_); (case c_ => first | rfl | omega | (dsimp only; omega) | (simp only [decide_eq_true_eq]; omega) | (simp; done)))
    | ((with_reducible refine ev_neg ?c_ ?_); (case c_ => first | rfl | omega | (dsimp only; omega) | (simp only [decide_eq_true_eq]; omega) | (simp; done)))
    | (refine Ev.step (laws_FnExactMovedItems.j0.eq_2 _ _ _ _ _ _) ?_)
    | ((with_reducible refine ev_now ?c_); (case c_ => first | rfl | (simp; done)))
    | (dsimp only)

end Go.Proofs.YtmddplifammohaaDoor.Pure
