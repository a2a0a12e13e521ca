/- The pure statement of FnExactPutItem is proved: for all arguments within the row's own bounds the Lean function that the law's walk comes to answers true. Conditions: none beyond these bounds. -/
import Derived.Test.YtcdnfkoahajhhaaStFnExactPutItem
import Derived.Test.YtcdnfkoahajhhaaBase
namespace Go.Proofs.Ytcdnfkoahajhhaa.Pure
open Go.RowKit Go.Proofs.Ytcdnfkoahajhhaa.PFnExactPutItem Go.Proofs.YtcdnfkoahajhhaaW.PrintWords Go.Proofs.YtcdnfkoahajhhaaW.PrintLast Go.Proofs.Ytcdnfkoahajhhaa.Base
set_option linter.unusedVariables false
set_option linter.unusedSimpArgs false
/-! ### markstrings -/
theorem mt_l (n : Nat) : ∀ o : ByteArray, o.size + 40 * (n + 1) ≤ 4000000000000000 → ∃ r : ByteArray, Ev (fun k => laws_markText.l0 k n o) r := by
  induction n using Nat.strongRecOn with
  | _ n ih =>
    intro o ho
    by_cases h : (n : Int) > 0
    · have hd : wrap64 (Int.tdiv (n : Int) 10) = ((n / 10 : Nat) : Int) := by
        rw [Int.tdiv_eq_ediv_of_nonneg (by omega), w64 (by omega) (by omega)]; omega
      obtain ⟨r, hr⟩ := ih (n / 10) (by omega) (strOfNums [wrap64 (48 + Int.tmod (n : Int) 10) % 256] ++ o) (by rw [ByteArray.size_append, strOfNums_size]; simp only [List.length_singleton]; omega)
      refine ⟨r, ?_⟩
      refine Ev.step (laws_markText.l0.eq_2 _ _) ?_
      refine ev_pos h (Ev.bind (Ev.now _) (ev_pos (by rw [strOfNums_size]; simp only [List.length_singleton]; omega) ?_))
      rw [hd]
      exact hr
    · refine ⟨(⟨#[109]⟩ : ByteArray) ++ o, ?_⟩
      refine Ev.step (laws_markText.l0.eq_2 _ _) ?_
      exact ev_neg h (ev_pos (by omega) (ev_now rfl))
noncomputable def mtx (n : Nat) : ByteArray := evv ⟨#[]⟩ (fun k => laws_markText.f k (n : Int))
theorem mtx_ev (n : Nat) (hn : n ≤ 4000000) : Ev (fun k => laws_markText.f k (n : Int)) (mtx n) := by
  unfold mtx
  apply evv_ev
  by_cases h : (n : Int) ≤ 0
  · exact ⟨_, by unfold laws_markText.f; exact ev_pos h (Ev.now _)⟩
  · have e0 : (⟨#[]⟩ : ByteArray).size = 0 := rfl
    obtain ⟨r, hr⟩ := mt_l n ⟨#[]⟩ (by omega)
    exact ⟨r, by unfold laws_markText.f; exact ev_neg h hr⟩
noncomputable def smarks (a n : Nat) : List ByteArray := (List.range' a n).map mtx
theorem smarks_len (a n : Nat) : (smarks a n).length = n := by simp [smarks]



/-! ### items -/
def cvItem (x : S35) : S38 := ⟨x.f0, x.f1, x.f2⟩
def wtItem (x : S35) : Nat := x.f0.size + x.f2.size
theorem rd_itemL (xs : List S35) (i : Nat) (h : i < xs.length) : rd_T35 xs (i : Int) = xs[i] := getD_at _ xs i h
theorem rd_itemI (xs : List S38) (i : Nat) (h : i < xs.length) : rd_T38 xs (i : Int) = xs[i] := getD_at _ xs i h
theorem szItem_eq (x : S35) (hx : Wf35 x) (a : Int) (h0 : 0 ≤ a) (h1 : a ≤ 1048576) : laws_szItem.f x.f0 x.f1 x.f2 a = some (left a (wtItem x)) := by
  obtain ⟨h2, _, h3⟩ := hx
  simp only [laws_szItem.f]
  rw [w64 (x := a - (x.f0.size : Int)) (by omega) (by omega), w64 (x := a - (x.f0.size : Int) - (x.f2.size : Int)) (by omega) (by omega)]
  unfold left wtItem
  split
  · rw [if_neg (by omega)]
  · split
    · rw [if_neg (by omega)]
    · rw [if_pos (by omega)]; congr 1; omega
theorem szItemS_l (xs : List S35) (hn : xs.length ≤ 1048576) (hw : ∀ y ∈ xs, Wf35 y) : ∀ (i : Nat) (a : Int), i ≤ xs.length → 0 ≤ a → a ≤ 1048576 →
    Ev (fun k => laws_szItemS.l0 k xs a i) (left a (sumBy wtItem (xs.drop i)))
  | i, a, hi, h0, h1 => by
    refine Ev.step (laws_szItemS.l0.eq_2 _ _ _) ?_
    by_cases h : i < xs.length
    · refine ev_pos (by omega) (ev_pos (by omega) ?_)
      rw [rd_itemL xs i h, w64s i (by omega)]
      refine Ev.bind (ev_eq (szItem_eq _ (hw _ (List.getElem_mem h)) a h0 h1)) ?_
      rw [drop_at xs i h, sumBy_cons, ← left_add]
      by_cases h2 : left a (wtItem xs[i]) < 0
      · exact ev_pos h2 (ev_now (if_pos h2).symm)
      · obtain ⟨h3, h4⟩ := left_le (a := a) (t := wtItem xs[i]) (by omega)
        refine ev_neg h2 (ev_to (szItemS_l xs hn hw (i + 1) _ (by omega) (by omega) (by omega)) (if_neg h2).symm)
    · refine ev_neg (by omega) (ev_now ?_)
      rw [List.drop_of_length_le (by omega), sumBy_nil, left_zero h0]
  termination_by i => xs.length - i
def wtItemS (xs : List S35) : Nat := xs.length + sumBy wtItem xs
theorem szItemS_ev (xs : List S35) (hb : xs.length ≤ 140737488351232) (hw : ∀ y ∈ xs, Wf35 y) (a : Int) (h0 : 0 ≤ a) (h1 : a ≤ 1048576) : Ev (fun k => laws_szItemS.f k xs a) (left a (wtItemS xs)) := by
  unfold laws_szItemS.f
  rw [w64 (by omega) (by omega)]
  unfold wtItemS
  rw [← left_add]
  by_cases h : a - (xs.length : Int) < 0
  · exact ev_pos h (ev_now (by rw [if_pos]; unfold left; rw [if_neg (by omega)]; omega))
  · have h2 : left a xs.length = a - xs.length := by unfold left; rw [if_pos (by omega)]
    have := szItemS_l xs (by omega) hw 0 (a - xs.length) (by omega) (by omega) (by omega)
    rw [List.drop_zero] at this
    exact ev_neg h (ev_to this (by rw [h2, if_neg h]))
theorem toItemS_l (xs : List S35) (hn : xs.length ≤ 1048576) : ∀ (i : Nat) (ys : List S38), i ≤ xs.length → ys.length = xs.length → ys.take i = (xs.map cvItem).take i →
    Ev (fun k => laws_toItemS.l0 k xs ys i) (xs.map cvItem)
  | i, ys, hi, hl, ht => by
    refine Ev.step (laws_toItemS.l0.eq_2 _ _ _) ?_
    by_cases h : i < xs.length
    · refine ev_pos (by omega) (ev_pos (by omega) ?_)
      rw [rd_itemL xs i h, w64s i (by omega)]
      refine Ev.bind (ev_eq rfl) (ev_pos (by omega) ?_)
      rw [Int.toNat_natCast]
      exact toItemS_l xs hn (i + 1) _ (by omega) (by simp [hl]) (take_set (by simp [hl]) ht (by simpa using h) (by simp [cvItem]))
    · have : i = xs.length := by omega
      subst this
      exact ev_neg (by omega) (ev_now (take_all (by simp [hl]) (by simpa using ht)))
  termination_by i => xs.length - i
theorem toItemS_ev (xs : List S35) (hn : xs.length ≤ 1048576) : Ev (fun k => laws_toItemS.f k xs) (xs.map cvItem) := by
  unfold laws_toItemS.f
  exact ev_pos (by omega) (ev_pos (by omega) (toItemS_l xs hn 0 _ (by omega) (by simp) (by simp)))
theorem eqItem_eq (x : S38) : laws_eqItem.f x.f0 x.f1 x.f2 x.f0 x.f1 x.f2 = some true := by simp [laws_eqItem.f]
theorem eqItemS_l (xs : List S38) (hn : xs.length ≤ 2000000) : ∀ (i : Nat), i ≤ xs.length → Ev (fun k => laws_eqItemS.l0 k xs xs i) true
  | i, hi => by
    refine Ev.step (laws_eqItemS.l0.eq_2 _ _ _) ?_
    by_cases h : i < xs.length
    · refine ev_pos (by omega) (ev_pos (by omega) (ev_pos (by omega) ?_))
      rw [w64s i (by omega)]
      exact Ev.bind (ev_eq (eqItem_eq _)) (ev_pos rfl (eqItemS_l xs hn (i + 1) (by omega)))
    · exact ev_neg (by omega) (ev_now rfl)
  termination_by i => xs.length - i
theorem eqItemS2_ev (xs : List S38) (hn : xs.length ≤ 2000000) : Ev (fun k => laws_eqItemS.f k xs xs) true := by
  unfold laws_eqItemS.f
  exact ev_pos rfl (eqItemS_l xs hn 0 (by omega))
theorem eqItemS_ev (xs : List S38) (hn : xs.length ≤ 1048576) : Ev (fun k => laws_eqItemS.f k xs xs) true := eqItemS2_ev xs (by omega)

/-! ### view -/
theorem szView_ev (xs : List S35) (hb : xs.length * 40 ≤ 140737488351232 ∧ ∀ y ∈ xs, Wf35 y) (a : Int) (h0 : 0 ≤ a) (h1 : a ≤ 1048576) : Ev (fun k => laws_szView.f k xs a) (left a (wtItemS xs)) := by
  unfold laws_szView.f
  refine Ev.bind (szItemS_ev xs (by omega) hb.2 a h0 h1) ev_left
theorem toView_ev (xs : List S35) (hn : xs.length ≤ 1048576) : Ev (fun k => laws_toView.f k xs) (xs.map cvItem) := by
  unfold laws_toView.f
  exact Ev.bind (toItemS_ev xs hn) (ev_now rfl)
theorem eqView_ev (xs : List S38) (hn : xs.length ≤ 1048576) : Ev (fun k => laws_eqView.f k xs xs) true := by
  unfold laws_eqView.f
  exact Ev.bind (eqItemS_ev xs hn) (ev_pos rfl (ev_now rfl))
theorem wtItemS_len {xs : List S35} {a : Int} (h : 0 ≤ left a (wtItemS xs)) (ha : a ≤ 1048576) : xs.length ≤ 1048576 ∧ (∀ y ∈ xs, wtItem y ≤ 1048576) := by
  have h2 := (left_le h).1
  unfold wtItemS at h2
  exact ⟨by omega, fun y hy => by have := sumBy_mem (f := wtItem) hy; omega⟩
theorem eqView2_ev (xs : List S38) (hn : xs.length ≤ 2000000) : Ev (fun k => laws_eqView.f k xs xs) true := by
  unfold laws_eqView.f
  exact Ev.bind (eqItemS2_ev xs hn) (ev_pos rfl (ev_now rfl))

/-! ### marksview -/
noncomputable def imk (a i : Nat) : S38 := ⟨mtx (a + 3 * i), ((Int.tmod (((a + 3 * i + 1 : Nat) : Int)) 3) == 0), mtx (a + 3 * i + 2)⟩
noncomputable def imarks (a n : Nat) : List S38 := (List.range' 0 n).map (imk a)
theorem imarks_len (a n : Nat) : (imarks a n).length = n := by simp [imarks]
theorem rd_setI (ys : List S38) (x : S38) (i : Nat) (h : i < ys.length) : rd_T38 (ys.set i x) (i : Int) = x := by rw [rd_itemI _ i (by simpa using h), List.getElem_set_self]
theorem markItemS_m (n a : Nat) (hn : n ≤ 1048577) (ha : a ≤ 10) : ∀ (i : Nat) (ys : List S38), i ≤ n → ys.length = n →
    Ev (fun k => laws_markItemS.l0 k ys ((a + 3 * i : Nat) : Int) (i : Int)) (((a + 3 * n : Nat) : Int), ys.take i ++ (List.range' i (n - i)).map (imk a))
  | i, ys, hi, hl => by
    refine Ev.step (laws_markItemS.l0.eq_2 _ _ _) ?_
    by_cases h : i < n
    · have e1 : wrap64 (((a + 3 * i : Nat) : Int) + 1) = ((a + 3 * i + 1 : Nat) : Int) := w64s _ (by omega)
      have e2 : wrap64 (((a + 3 * i + 1 : Nat) : Int) + 1) = ((a + 3 * i + 2 : Nat) : Int) := w64s _ (by omega)
      have e3 : wrap64 (((a + 3 * i + 2 : Nat) : Int) + 1) = ((a + 3 * (i + 1) : Nat) : Int) := by rw [show a + 3 * (i + 1) = a + 3 * i + 2 + 1 by omega]; exact w64s _ (by omega)
      refine ev_pos (by omega) (Ev.bind (mtx_ev _ (by omega)) (ev_pos (by omega) (Ev.bind (Ev.now _) (Ev.bind (Ev.now _) ?_))))
      rw [e1, e2, e3, Int.toNat_natCast, w64s i (by omega)]
      refine Ev.bind (mtx_ev _ (by omega)) ?_
      refine ev_to (markItemS_m n a hn ha (i + 1) _ (by omega) (by rw [List.length_set, List.length_set, List.length_set]; exact hl)) ?_
      rw [rd_setI ys _ i (by omega), rd_setI (ys.set i _) _ i (by rw [List.length_set]; omega)]
      simp only [List.set_set]
      congr 1
      rw [List.take_succ_eq_append_getElem (by simp; omega)]
      simp only [List.getElem_set_self, List.append_assoc, List.take_set_of_le (Nat.le_refl i)]
      congr 1
      rw [show n - i = (n - (i + 1)) + 1 by omega, List.range'_succ]
      rfl
    · have : i = n := by omega
      subst this
      refine ev_neg (by omega) (ev_now ?_)
      simp [← hl]
  termination_by i => n - i
theorem markView_m (xs : List S38) (hn : xs.length ≤ 1048577) : Ev (fun k => laws_markView.f k xs 1) (((1 + 3 * xs.length : Nat) : Int), imarks 1 xs.length) := by
  have he := markItemS_m xs.length 1 hn (by omega) 0 xs (by omega) rfl
  rw [List.take_zero, List.nil_append, Nat.sub_zero] at he
  unfold laws_markView.f laws_markItemS.f
  exact Ev.bind he (ev_now rfl)
theorem heldItemS_l (n a : Nat) (hn : n ≤ 1048577) (ha : a ≤ 10) : ∀ (i : Nat), i ≤ n → Ev (fun k => laws_heldItemS.l0 k (imarks a n) ((a + 3 * i : Nat) : Int) (i : Int)) ((a + 3 * n : Nat) : Int)
  | i, hi => by
    refine Ev.step (laws_heldItemS.l0.eq_2 _ _ _) ?_
    have hl := imarks_len a n
    by_cases h : i < n
    · have e1 : wrap64 (((a + 3 * i : Nat) : Int) + 1) = ((a + 3 * i + 1 : Nat) : Int) := w64s _ (by omega)
      have e2 : wrap64 (((a + 3 * i + 1 : Nat) : Int) + 1) = ((a + 3 * i + 2 : Nat) : Int) := w64s _ (by omega)
      have e3 : wrap64 (((a + 3 * i + 2 : Nat) : Int) + 1) = ((a + 3 * (i + 1) : Nat) : Int) := by rw [show a + 3 * (i + 1) = a + 3 * i + 2 + 1 by omega]; exact w64s _ (by omega)
      have he : rd_T38 (imarks a n) (i : Int) = imk a i := by
        rw [rd_itemI _ i (by omega)]; simp [imarks]
      rw [he, e1, e2, e3, w64s i (by omega)]
      exact ev_pos (by omega) (ev_pos (by omega) (Ev.bind (mtx_ev _ (by omega)) (ev_pos rfl (ev_neg (by simp [imk]) (Ev.bind (mtx_ev _ (by omega)) (ev_pos rfl (heldItemS_l n a hn ha (i + 1) (by omega))))))))
    · have : i = n := by omega
      subst this
      exact ev_neg (by omega) (ev_now rfl)
  termination_by i => n - i
theorem heldView_m (n : Nat) (hn : n ≤ 1048577) : Ev (fun k => laws_heldView.f k (imarks 1 n) 1) ((1 + 3 * n : Nat) : Int) := by
  unfold laws_heldView.f laws_heldItemS.f
  exact Ev.bind (heldItemS_l n 1 hn (by omega) 0 (by omega)) (ev_neg (by omega) (ev_now rfl))

/-! ### itm -/
theorem szItm_ev (p : ByteArray) (b : Bool) (t : ByteArray) (hp : p.size ≤ 140737488351232) (ht : t.size ≤ 140737488351232) (a : Int) (h0 : 0 ≤ a) (h1 : a ≤ 1048576) : Ev (fun k => laws_szItem.f p b t a) (left a (p.size + t.size)) := ev_eq (szItem_eq ⟨p, b, t⟩ ⟨hp, trivial, ht⟩ a h0 h1)
theorem toItm_eq (p : ByteArray) (b : Bool) (t : ByteArray) : laws_toItem.f p b t = some (p, b, t) := rfl

/-! ### dropitem -/
def dropL (p : ByteArray) (xs : List S38) : List S38 := xs.filter (fun y => !(y.f0.toList == p.toList))

theorem iDrop_eq (p : ByteArray) (xs : List S38) (hn : xs.length ≤ 1048577) : impl_DropItem.f xs p = some (dropL p xs) := by
  unfold impl_DropItem.f slices_Clone_Item.f
  rw [if_pos (by omega), Option.bind_some]
  unfold slices_DeleteFunc_Item_g84.f
  rw [if_pos (by omega), Option.bind_some]
  rfl
theorem dropL_len (p : ByteArray) (xs : List S38) : (dropL p xs).length ≤ xs.length := List.length_filter_le _ _

/-! ### putitem -/
theorem bl_irr (x : List UInt8) : Op.bytesLess x x = false := by
  have h := bl_leq x x
  cases hb : Op.bytesLess x x with
  | false => rfl
  | true => rw [hb] at h; simp at h
theorem bl_tot {x y : List UInt8} (h : ¬ y = x) : Op.bytesLess y x = !Op.bytesLess x y := by
  have e := bl_leq y x
  rw [beq_false_of_ne h, Bool.or_false] at e
  exact e
theorem ix_put {α : Type} (p : α → Bool) (z : α) : ∀ (l : List α) (i : Nat), (Lib.idxByFrom (fun _ y => p y) z l i = -1 ∧ l.takeWhile (fun y => !p y) = l ∧ l.dropWhile (fun y => !p y) = []) ∨ (Lib.idxByFrom (fun _ y => p y) z l i = ((i + (l.takeWhile (fun y => !p y)).length : Nat) : Int))
  | [], i => .inl ⟨rfl, rfl, rfl⟩
  | y :: r, i => by
    cases h : p y with
    | true => exact .inr (by simp [Lib.idxByFrom, h])
    | false =>
      have e0 : Lib.idxByFrom (fun _ y => p y) z (y :: r) i = Lib.idxByFrom (fun _ y => p y) z r (i + 1) := by simp [Lib.idxByFrom, h]
      rcases ix_put p z r (i + 1) with ⟨e, h1, h2⟩ | e
      · exact .inl ⟨by rw [e0, e], by rw [List.takeWhile_cons]; simp [h, h1], by rw [List.dropWhile_cons]; simp [h, h2]⟩
      · refine .inr ?_
        rw [e0, e, List.takeWhile_cons]
        simp [h]
        omega
theorem take_tw {α : Type} (q : α → Bool) : ∀ l : List α, l.take (l.takeWhile q).length = l.takeWhile q ∧ l.drop (l.takeWhile q).length = l.dropWhile q
  | [] => ⟨rfl, rfl⟩
  | y :: r => by
    rw [List.takeWhile_cons, List.dropWhile_cons]
    cases h : q y with
    | true => simp [take_tw q r]
    | false => simp
def insL (x : S38) (d : List S38) : List S38 := d.takeWhile (fun y => Op.bytesLess y.f0.toList x.f0.toList) ++ [x] ++ d.dropWhile (fun y => Op.bytesLess y.f0.toList x.f0.toList)
def putL (x : S38) (xs : List S38) : List S38 := insL x (dropL x.f0 xs)
theorem putL_len (x : S38) (xs : List S38) : (putL x xs).length ≤ xs.length + 1 := by
  have h := dropL_len x.f0 xs
  have e := congrArg List.length (List.takeWhile_append_dropWhile (p := fun y : S38 => Op.bytesLess y.f0.toList x.f0.toList) (l := dropL x.f0 xs))
  rw [List.length_append] at e
  unfold putL insL
  simp only [List.length_append, List.length_singleton]
  omega
theorem putL_eq (x y : S38) (r : List S38) (h : y.f0.toList = x.f0.toList) : putL x (y :: r) = putL x r := by
  unfold putL dropL
  rw [List.filter_cons, h]; simp
theorem putL_gt (x y : S38) (r : List S38) (h : ¬ y.f0.toList = x.f0.toList) (hl : Op.bytesLess x.f0.toList y.f0.toList = true) : putL x (y :: r) = x :: y :: dropL x.f0 r := by
  have h2 := bl_tot h
  rw [hl] at h2
  unfold putL insL dropL
  rw [List.filter_cons, beq_false_of_ne h]
  simp [h2]
theorem putL_lt (x y : S38) (r : List S38) (h : ¬ y.f0.toList = x.f0.toList) (hl : Op.bytesLess x.f0.toList y.f0.toList = false) : putL x (y :: r) = y :: putL x r := by
  have h2 := bl_tot h
  rw [hl] at h2
  unfold putL insL dropL
  rw [List.filter_cons, beq_false_of_ne h]
  simp [h2]
theorem sPut_t (p : ByteArray) (b : Bool) (t : ByteArray) (xs : List S38) (hn : xs.length ≤ 1048577) : ∀ (i : Nat) (out : List S38), i ≤ xs.length → out.length ≤ i + 1 → Ev (fun k => spec_PutItem.l0 k true i xs p b t out) (out ++ dropL p (xs.drop i))
  | i, out, hi, ho => by
    refine Ev.step (spec_PutItem.l0.eq_2 _ _ _ _ _ _ _) ?_
    by_cases h : i < xs.length
    · refine ev_pos (by omega) (ev_pos rfl ?_)
      refine Ev.step (spec_PutItem.j1.eq_2 _ _ _ _ _ _ _ _) ?_
      refine ev_neg (by simp) (ev_pos (by omega) (ev_pos (by omega) ?_))
      rw [rd_itemI xs i h, w64s i (by omega), drop_at xs i h]
      unfold dropL
      by_cases he : xs[i].f0.toList = p.toList
      · refine ev_pos he (ev_to (sPut_t p b t xs hn (i + 1) out (by omega) (by omega)) ?_)
        rw [List.filter_cons, he]; simp [dropL]
      · refine ev_neg he (ev_pos (by omega) (ev_to (sPut_t p b t xs hn (i + 1) (out ++ [xs[i]]) (by omega) (by simp; omega)) ?_))
        rw [List.filter_cons, beq_false_of_ne he]; simp [dropL]
    · refine ev_neg (by omega) (ev_pos rfl (ev_now ?_))
      rw [List.drop_of_length_le (by omega)]; simp [dropL]
  termination_by i => xs.length - i
theorem sPut_f (p : ByteArray) (b : Bool) (t : ByteArray) (xs : List S38) (hn : xs.length ≤ 1048577) : ∀ (i : Nat) (out : List S38), i ≤ xs.length → out.length ≤ i → Ev (fun k => spec_PutItem.l0 k false i xs p b t out) (out ++ putL ⟨p, b, t⟩ (xs.drop i))
  | i, out, hi, ho => by
    refine Ev.step (spec_PutItem.l0.eq_2 _ _ _ _ _ _ _) ?_
    by_cases h : i < xs.length
    · refine ev_pos (by omega) (ev_neg (by simp) (ev_pos (by omega) ?_))
      refine Ev.step (spec_PutItem.j1.eq_2 _ _ _ _ _ _ _ _) ?_
      rw [rd_itemI xs i h, w64s i (by omega), drop_at xs i h]
      cases hl : Op.bytesLess p.toList xs[i].f0.toList with
      | true =>
        refine ev_pos rfl (ev_pos (by omega) (Ev.bind (Ev.now _) (ev_pos (by omega) (ev_pos (by omega) ?_))))
        by_cases he : xs[i].f0.toList = p.toList
        · rw [he, bl_irr] at hl; cases hl
        · refine ev_neg he (ev_pos (by simp; omega) (ev_to (sPut_t p b t xs hn (i + 1) _ (by omega) (by simp; omega)) ?_))
          rw [putL_gt ⟨p, b, t⟩ xs[i] _ he hl]
          simp
      | false =>
        refine ev_neg (by simp) (ev_pos (by omega) (ev_pos (by omega) ?_))
        by_cases he : xs[i].f0.toList = p.toList
        · refine ev_pos he (ev_to (sPut_f p b t xs hn (i + 1) out (by omega) (by omega)) ?_)
          rw [putL_eq ⟨p, b, t⟩ xs[i] _ he]
        · refine ev_neg he (ev_pos (by omega) (ev_to (sPut_f p b t xs hn (i + 1) (out ++ [xs[i]]) (by omega) (by simp; omega)) ?_))
          rw [putL_lt ⟨p, b, t⟩ xs[i] _ he hl]
          simp
    · refine ev_neg (by omega) (ev_neg (by simp) (ev_pos (by omega) (ev_now ?_)))
      rw [List.drop_of_length_le (by omega)]; rfl
  termination_by i => xs.length - i
theorem sPut_ev (p : ByteArray) (b : Bool) (t : ByteArray) (xs : List S38) (hn : xs.length ≤ 1048577) : Ev (fun k => spec_PutItem.f k xs p b t) (putL ⟨p, b, t⟩ xs) := by
  unfold spec_PutItem.f
  exact ev_to (sPut_f p b t xs hn 0 [] (by omega) (by simp)) (by rw [List.drop_zero, List.nil_append])
theorem iPut_eq (p : ByteArray) (b : Bool) (t : ByteArray) (xs : List S38) (hn : xs.length ≤ 1048577) : impl_PutItem.f xs p b t = some (putL ⟨p, b, t⟩ xs) := by
  have hd := dropL_len p xs
  unfold impl_PutItem.f
  rw [iDrop_eq p xs hn, Option.bind_some]
  unfold slices_IndexFunc_Item_g89.f
  rw [if_pos (by omega), Option.bind_some]
  have hi : ∀ a : Int, 0 ≤ a ∧ a ≤ ((dropL p xs).length : Int) → slices_Insert_Item.f (dropL p xs) a [⟨p, b, t⟩] = some ((dropL p xs).take a.toNat ++ [⟨p, b, t⟩] ++ (dropL p xs).drop a.toNat) := fun a ha => by
    unfold slices_Insert_Item.f
    exact if_pos ⟨ha, rfl, by omega⟩
  have hq : (fun y : S38 => !(!Op.bytesLess y.f0.toList p.toList)) = fun y => Op.bytesLess y.f0.toList p.toList := by funext y; rw [Bool.not_not]
  have hx := ix_put (fun y : S38 => !Op.bytesLess y.f0.toList p.toList) z38 (dropL p xs) 0
  rw [hq] at hx
  have ht := take_tw (fun y : S38 => Op.bytesLess y.f0.toList p.toList) (dropL p xs)
  have hle : ((dropL p xs).takeWhile (fun y : S38 => Op.bytesLess y.f0.toList p.toList)).length ≤ (dropL p xs).length := List.Sublist.length_le (List.takeWhile_sublist _)
  rcases hx with ⟨e, h1, h2⟩ | e
  · rw [if_pos (by show Lib.idxByFrom _ _ _ 0 < 0; rw [show Lib.idxByFrom (fun _ y => clo89.p p b t y) z38 (dropL p xs) 0 = -1 from e]; omega), hi _ (by omega), Option.bind_some]
    unfold putL insL
    show some ((dropL p xs).take ((dropL p xs).length : Int).toNat ++ [⟨p, b, t⟩] ++ (dropL p xs).drop ((dropL p xs).length : Int).toNat) = some ((dropL p xs).takeWhile (fun y : S38 => Op.bytesLess y.f0.toList p.toList) ++ [⟨p, b, t⟩] ++ (dropL p xs).dropWhile (fun y : S38 => Op.bytesLess y.f0.toList p.toList))
    rw [h1, h2, Int.toNat_natCast, List.take_length, List.drop_length]
  · have e2 : Lib.idxBy (fun _ y => clo89.p p b t y) (dropL p xs) z38 = (((dropL p xs).takeWhile (fun y : S38 => Op.bytesLess y.f0.toList p.toList)).length : Int) := e.trans (by rw [Nat.zero_add])
    rw [e2, if_neg (by omega), hi _ (by omega), Option.bind_some, Int.toNat_natCast, ht.1, ht.2]
    rfl

/-! ### FnExactPutItem -/
theorem FnExactPutItem : laws_FnExactPutItem.Law := by
  intro xs p b t hx hp ht
  apply Ev.rounds
  unfold laws_FnExactPutItem.f
  refine Ev.bind (szView_ev xs hx _ (by omega) (by omega)) ?_
  by_cases h : left 1048576 (wtItemS xs) < 0
  · exact ev_pos h (ev_now rfl)
  have nx := (wtItemS_len (xs := xs) (a := 1048576) (by omega) (by omega)).1
  have nl : (xs.map cvItem).length ≤ 1048576 := by rw [List.length_map]; exact nx
  have nd := putL_len ⟨p, b, t⟩ (xs.map cvItem)
  have h1 := left_le (a := 1048576) (t := wtItemS xs) (by omega)
  refine ev_neg h ?_
  refine Ev.step (laws_FnExactPutItem.j0.eq_2 _ _ _ _ _) ?_
  refine Ev.bind (szItm_ev p b t hp ht (left 1048576 (wtItemS xs)) (by omega) (by omega)) ?_
  by_cases h2 : left (left 1048576 (wtItemS xs)) (p.size + t.size) < 0
  · exact ev_pos h2 (ev_now rfl)
  refine ev_neg h2 ?_
  repeat' first
    | (with_reducible exact ev_now rfl)
    | (with_reducible refine Ev.bind (toView_ev xs nx) ?_)
    | (with_reducible refine Ev.bind (ev_eq (toItm_eq p b t)) ?_)
    | (with_reducible refine Ev.bind (sPut_ev p b t _ (by omega)) ?_)
    | (with_reducible refine Ev.bind (ev_eq (iPut_eq p b t _ (by omega))) ?_)
    | (with_reducible refine Ev.bind (eqView2_ev _ (by omega)) ?_)
    | (with_reducible refine Ev.bind (markView_m _ (by omega)) ?_)
    | (with_reducible refine Ev.bind (heldView_m _ (by omega)) ?_)
    | (with_reducible refine ev_pos rfl ?_)
    | ((with_reducible refine ev_pos ?c_ ?_); (case c_ => first | rfl | omega | (dsimp only; omega) | (simp only [decide_eq_true_eq]; omega) | (simp; done)))
    | ((with_reducible refine ev_neg ?c_ ?_); (case c_ => first | rfl | omega | (dsimp only; omega) | (simp only [decide_eq_true_eq]; omega) | (simp; done)))
    | (refine Ev.step (laws_FnExactPutItem.j0.eq_2 _ _ _ _ _) ?_)
    | (refine Ev.step (laws_FnExactPutItem.j1.eq_2 _ _ _ _) ?_)
    | (refine Ev.step (laws_FnExactPutItem.j2.eq_2 _ _ _ _ _ _ _) ?_)
    | (refine Ev.step (laws_FnExactPutItem.j3.eq_2 _ _ _ _ _ _ _) ?_)
    | (refine Ev.step (laws_FnExactPutItem.j4.eq_2 _ _ _ _ _ _ _) ?_)
    | (refine Ev.step (laws_FnExactPutItem.j5.eq_2 _ _ _ _ _ _) ?_)
    | (refine Ev.step (laws_FnExactPutItem.j6.eq_2 _ _ _ _ _ _ _ _) ?_)
    | (refine Ev.step (laws_FnExactPutItem.j7.eq_2 _ _ _ _ _ _ _) ?_)
    | (refine Ev.step (laws_FnExactPutItem.j8.eq_2 _ _) ?_)
    | ((with_reducible refine ev_now ?c_); (case c_ => first | rfl | (simp; done)))
    | (dsimp only)

end Go.Proofs.Ytcdnfkoahajhhaa.Pure
