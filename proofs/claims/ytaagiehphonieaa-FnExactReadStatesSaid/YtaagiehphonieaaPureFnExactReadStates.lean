/- The pure statement of FnExactReadStates is proved: for all arguments within the row's own bounds the Lean function that the law's walk comes to answers true. Conditions: none beyond these bounds. -/
import Derived.Test.YtaagiehphonieaaStFnExactReadStates
import Derived.Test.YtaagiehphonieaaBase
namespace Go.Proofs.Ytaagiehphonieaa.Pure
open Go.RowKit Go.Proofs.Ytaagiehphonieaa.PFnExactReadStates Go.Proofs.YtaagiehphonieaaW.PrintWords Go.Proofs.YtaagiehphonieaaW.PrintLast Go.Proofs.Ytaagiehphonieaa.Base
set_option linter.unusedVariables false
set_option linter.unusedSimpArgs false
/-! ### szstrings -/
def wtS (s : ByteArray) : Nat := s.size
def wtSS (xs : List ByteArray) : Nat := xs.length + sumBy wtS xs
theorem rd_str (xs : List ByteArray) (i : Nat) (h : i < xs.length) : rdOf ByteArray.empty xs (i : Int) = xs[i] := rdOf_at _ xs i h
theorem szStringS_l (xs : List ByteArray) (hn : xs.length ≤ 1048576) (hw : ∀ y ∈ xs, y.size ≤ 140737488351232) : ∀ (i : Nat) (a : Int), i ≤ xs.length → 0 ≤ a → a ≤ 1048576 →
    Ev (fun k => laws_szStringS.l0 k xs a i) (left a (sumBy wtS (xs.drop i)))
  | i, a, hi, h0, h1 => by
    refine Ev.step (laws_szStringS.l0.eq_2 _ _ _) ?_
    by_cases h : i < xs.length
    · refine ev_pos (by omega) (ev_pos (by omega) ?_)
      have hz := hw _ (List.getElem_mem h)
      rw [rd_str xs i h, w64s i (by omega), w64 (x := a - (xs[i].size : Int)) (by omega) (by omega), drop_at xs i h, sumBy_cons, ← left_add]
      have e : wtS xs[i] = xs[i].size := rfl
      by_cases h2 : a - (xs[i].size : Int) < 0
      · have h3 : left a (wtS xs[i]) < 0 := by unfold left; rw [if_neg (by omega)]; omega
        exact ev_pos h2 (ev_now (if_pos h3).symm)
      · have h3 : left a (wtS xs[i]) = a - xs[i].size := by unfold left; rw [if_pos (by omega), e]
        rw [h3, if_neg h2]
        exact ev_neg h2 (szStringS_l xs hn hw (i + 1) _ (by omega) (by omega) (by omega))
    · refine ev_neg (by omega) (ev_now ?_)
      rw [List.drop_of_length_le (by omega), sumBy_nil, left_zero h0]
  termination_by i => xs.length - i
theorem szStringS_ev (xs : List ByteArray) (hb : xs.length ≤ 140737488351232) (hw : ∀ y ∈ xs, y.size ≤ 140737488351232) (a : Int) (h0 : 0 ≤ a) (h1 : a ≤ 1048576) : Ev (fun k => laws_szStringS.f k xs a) (left a (wtSS xs)) := by
  unfold laws_szStringS.f
  rw [w64 (by omega) (by omega)]
  unfold wtSS
  rw [← left_add]
  by_cases h : a - (xs.length : Int) < 0
  · exact ev_pos h (ev_now (by rw [if_pos]; unfold left; rw [if_neg (by omega)]; omega))
  · have h2 : left a xs.length = a - xs.length := by unfold left; rw [if_pos (by omega)]
    have := szStringS_l xs (by omega) hw 0 (a - xs.length) (by omega) (by omega) (by omega)
    rw [List.drop_zero] at this
    exact ev_neg h (ev_to this (by rw [h2, if_neg h]))

/-! ### tostrings -/
theorem toStringS_l (xs : List ByteArray) (hn : xs.length ≤ 1048576) : ∀ (i : Nat) (ys : List ByteArray), i ≤ xs.length → ys.length = xs.length → ys.take i = xs.take i →
    Ev (fun k => laws_toStringS.l0 k xs ys i) xs
  | i, ys, hi, hl, ht => by
    refine Ev.step (laws_toStringS.l0.eq_2 _ _ _) ?_
    by_cases h : i < xs.length
    · refine ev_pos (by omega) (ev_pos (by omega) (ev_pos (by omega) ?_))
      rw [rdOf_at _ xs i h, w64s i (by omega), Int.toNat_natCast]
      exact toStringS_l xs hn (i + 1) _ (by omega) (by simp [hl]) (take_set hl ht h rfl)
    · have : i = xs.length := by omega
      subst this
      exact ev_neg (by omega) (ev_now (take_all hl ht))
  termination_by i => xs.length - i
theorem toStringS_ev (xs : List ByteArray) (hn : xs.length ≤ 1048576) : Ev (fun k => laws_toStringS.f k xs) xs := by
  unfold laws_toStringS.f
  exact ev_pos (by omega) (ev_pos (by omega) (toStringS_l xs hn 0 _ (by omega) (by simp) (by simp)))

/-! ### ints -/
theorem eqIntS_l (xs : List Int) (hn : xs.length ≤ 4000000) : ∀ (i : Nat), i ≤ xs.length → Ev (fun k => laws_eqIntS.l0 k xs xs i) true
  | i, hi => by
    refine Ev.step (laws_eqIntS.l0.eq_2 _ _ _) ?_
    by_cases h : i < xs.length
    · refine ev_pos (by omega) (ev_pos (by omega) (ev_pos (by omega) (ev_pos rfl ?_)))
      rw [w64s i (by omega)]
      exact eqIntS_l xs hn (i + 1) (by omega)
    · exact ev_neg (by omega) (ev_now rfl)
  termination_by i => xs.length - i
theorem eqIntS_ev (xs : List Int) (hn : xs.length ≤ 4000000) : Ev (fun k => laws_eqIntS.f k xs xs) true := by
  unfold laws_eqIntS.f
  exact ev_pos rfl (eqIntS_l xs hn 0 (by omega))


/-! ### markints -/
def marks (a n : Nat) : List Int := (List.range' a n).map (fun j : Nat => (j : Int))
theorem marks_len (a n : Nat) : (marks a n).length = n := by simp [marks]
theorem markIntS_l (n a : Nat) (hn : n ≤ 1048576) (ha : a ≤ 4000000000000) : ∀ (i : Nat) (ys : List Int), i ≤ n → ys.length = n →
    Ev (fun k => laws_markIntS.l0 k ys ((a + i : Nat) : Int) i) (((a + n : Nat) : Int), ys.take i ++ marks (a + i) (n - i))
  | i, ys, hi, hl => by
    refine Ev.step (laws_markIntS.l0.eq_2 _ _ _) ?_
    by_cases h : i < n
    · refine ev_pos (by omega) (ev_pos (by omega) ?_)
      rw [w64s i (by omega), w64s (a + i) (by omega), Int.toNat_natCast]
      refine ev_to (markIntS_l n a hn ha (i + 1) (ys.set i _) (by omega) (by simp [hl])) ?_
      congr 1
      rw [List.take_succ_eq_append_getElem (by simp; omega)]
      simp only [List.getElem_set_self, List.append_assoc, List.take_set_of_le (Nat.le_refl i)]
      congr 1
      unfold marks
      rw [show n - i = (n - (i + 1)) + 1 by omega, List.range'_succ]
      simp [Nat.add_assoc]
    · have : i = n := by omega
      subst this
      refine ev_neg (by omega) (ev_now ?_)
      simp [marks, ← hl]
  termination_by i => n - i
theorem markIntS_ev (xs : List Int) (a : Nat) (hn : xs.length ≤ 1048576) (ha : a ≤ 4000000000000) : Ev (fun k => laws_markIntS.f k xs (a : Int)) (((a + xs.length : Nat) : Int), marks a xs.length) := by
  unfold laws_markIntS.f
  have := markIntS_l xs.length a hn ha 0 xs (by omega) rfl
  simpa using this
theorem heldIntS_l (n a : Nat) (hn : n ≤ 1048576) (ha : a ≤ 4000000000000) : ∀ (i : Nat), i ≤ n → Ev (fun k => laws_heldIntS.l0 k (marks a n) ((a + i : Nat) : Int) i) ((a + n : Nat) : Int)
  | i, hi => by
    refine Ev.step (laws_heldIntS.l0.eq_2 _ _ _) ?_
    have hl := marks_len a n
    by_cases h : i < n
    · refine ev_pos (by omega) (ev_pos (by omega) (ev_pos ?_ ?_))
      · rw [rd_at _ i (by omega)]
        simp [marks]
      · rw [w64s i (by omega), w64s (a + i) (by omega)]
        exact heldIntS_l n a hn ha (i + 1) (by omega)
    · have : i = n := by omega
      subst this
      exact ev_neg (by omega) (ev_now rfl)
  termination_by i => n - i
theorem heldIntS_ev (n a : Nat) (hn : n ≤ 1048576) (ha : a ≤ 4000000000000) : Ev (fun k => laws_heldIntS.f k (marks a n) (a : Int)) ((a + n : Nat) : Int) := by
  unfold laws_heldIntS.f
  have := heldIntS_l n a hn ha 0 (by omega)
  simpa using this


/-! ### eqstrings -/
theorem eqStringS_l (xs : List ByteArray) (hn : xs.length ≤ 1048576) : ∀ (i : Nat), i ≤ xs.length → Ev (fun k => laws_eqStringS.l0 k xs xs i) true
  | i, hi => by
    refine Ev.step (laws_eqStringS.l0.eq_2 _ _ _) ?_
    by_cases h : i < xs.length
    · refine ev_pos (by omega) (ev_pos (by omega) (ev_pos (by omega) (ev_pos rfl ?_)))
      rw [w64s i (by omega)]
      exact eqStringS_l xs hn (i + 1) (by omega)
    · exact ev_neg (by omega) (ev_now rfl)
  termination_by i => xs.length - i
theorem eqStringS_ev (xs : List ByteArray) (hn : xs.length ≤ 1048576) : Ev (fun k => laws_eqStringS.f k xs xs) true := by
  unfold laws_eqStringS.f
  exact ev_pos rfl (eqStringS_l xs hn 0 (by omega))

/-! ### markstrings -/
theorem mt_l (n : Nat) : ∀ o : ByteArray, o.size + 40 * (n + 1) ≤ 4000000000000000 → ∃ r : ByteArray, Ev (fun k => laws_markText.l0 k n o) r := by
  induction n using Nat.strongRecOn with
  | _ n ih =>
    intro o ho
    by_cases h : (n : Int) > 0
    · have hd : wrap64 (Int.tdiv (n : Int) 10) = ((n / 10 : Nat) : Int) := by
        rw [Int.tdiv_eq_ediv_of_nonneg (by omega), w64 (by omega) (by omega)]; omega
      obtain ⟨r, hr⟩ := ih (n / 10) (by omega) (strOfNums [wrap64 (48 + Int.tmod (n : Int) 10) % 256] ++ o) (by rw [ByteArray.size_append, strOfNums_size]; simp only [List.length_singleton]; omega)
      refine ⟨r, ?_⟩
      refine Ev.step (laws_markText.l0.eq_2 _ _) ?_
      refine ev_pos h (Ev.bind (Ev.now _) (ev_pos (by rw [strOfNums_size]; simp only [List.length_singleton]; omega) ?_))
      rw [hd]
      exact hr
    · refine ⟨(⟨#[109]⟩ : ByteArray) ++ o, ?_⟩
      refine Ev.step (laws_markText.l0.eq_2 _ _) ?_
      exact ev_neg h (ev_pos (by omega) (ev_now rfl))
noncomputable def mtx (n : Nat) : ByteArray := evv ⟨#[]⟩ (fun k => laws_markText.f k (n : Int))
theorem mtx_ev (n : Nat) (hn : n ≤ 4000000) : Ev (fun k => laws_markText.f k (n : Int)) (mtx n) := by
  unfold mtx
  apply evv_ev
  by_cases h : (n : Int) ≤ 0
  · exact ⟨_, by unfold laws_markText.f; exact ev_pos h (Ev.now _)⟩
  · have e0 : (⟨#[]⟩ : ByteArray).size = 0 := rfl
    obtain ⟨r, hr⟩ := mt_l n ⟨#[]⟩ (by omega)
    exact ⟨r, by unfold laws_markText.f; exact ev_neg h hr⟩
noncomputable def smarks (a n : Nat) : List ByteArray := (List.range' a n).map mtx
theorem smarks_len (a n : Nat) : (smarks a n).length = n := by simp [smarks]
theorem markStringS_l (n a : Nat) (hn : n ≤ 1048576) (ha : a ≤ 1048576) : ∀ (i : Nat) (ys : List ByteArray), i ≤ n → ys.length = n →
    Ev (fun k => laws_markStringS.l0 k ys ((a + i : Nat) : Int) i) (((a + n : Nat) : Int), ys.take i ++ smarks (a + i) (n - i))
  | i, ys, hi, hl => by
    refine Ev.step (laws_markStringS.l0.eq_2 _ _ _) ?_
    by_cases h : i < n
    · refine ev_pos (by omega) (Ev.bind (mtx_ev (a + i) (by omega)) (ev_pos (by omega) ?_))
      rw [w64s i (by omega), w64s (a + i) (by omega), Int.toNat_natCast]
      refine ev_to (markStringS_l n a hn ha (i + 1) (ys.set i _) (by omega) (by simp [hl])) ?_
      congr 1
      rw [List.take_succ_eq_append_getElem (by simp; omega)]
      simp only [List.getElem_set_self, List.append_assoc, List.take_set_of_le (Nat.le_refl i)]
      congr 1
      unfold smarks
      rw [show n - i = (n - (i + 1)) + 1 by omega, List.range'_succ]
      simp [Nat.add_assoc]
    · have : i = n := by omega
      subst this
      refine ev_neg (by omega) (ev_now ?_)
      simp [smarks, ← hl]
  termination_by i => n - i
theorem markStringS_ev (xs : List ByteArray) (a : Nat) (hn : xs.length ≤ 1048576) (ha : a ≤ 1048576) : Ev (fun k => laws_markStringS.f k xs (a : Int)) (((a + xs.length : Nat) : Int), smarks a xs.length) := by
  unfold laws_markStringS.f
  have := markStringS_l xs.length a hn ha 0 xs (by omega) rfl
  simpa using this


/-! ### okl -/
def okL : List Int → Bool
  | [] => true
  | n :: r => decide (0 ≤ n ∧ n ≤ 2) && okL r
theorem okL_mem : ∀ {xs : List Int}, okL xs = true → ∀ n ∈ xs, 0 ≤ n ∧ n ≤ 2
  | [], _, n, h => by cases h
  | x :: r, ho, n, h => by
    simp only [okL, Bool.and_eq_true, decide_eq_true_eq] at ho
    rcases List.mem_cons.1 h with rfl | h
    · exact ho.1
    · exact okL_mem ho.2 n h
def stB (xs : List Int) (p : Int) : Bool := okL xs && (decide ((xs.length : Int) = p) && decide (1 ≤ p ∧ p ≤ 12))

/-! ### stw -/
/-- The bytes of the states of pages. -/
def stB16 (xs : List Int) : List Int := xs ++ List.replicate (16 - xs.length) 0
def stW (xs : List Int) : List ByteArray := if stB xs xs.length = true then [strOfNums ((stB16 xs).take 8), strOfNums ((stB16 xs).drop 8)] else []
theorem stW_len (xs : List Int) : (stW xs).length ≤ 2 := by unfold stW; split <;> simp
theorem stB_parts {xs : List Int} (h : stB xs xs.length = true) : xs.length ≤ 12 ∧ ∀ n ∈ xs, 0 ≤ n ∧ n ≤ 2 := by
  simp only [stB, Bool.and_eq_true, decide_eq_true_eq] at h
  exact ⟨by omega, okL_mem h.1⟩
theorem son_cut (l : List Int) (i j : Nat) : (strOfNums l).extract i j = strOfNums ((l.take j).drop i) := by
  refine b_inj ?_
  rw [b_cut, strOfNums_data, strOfNums_data, List.map_drop, List.map_take]
theorem son_zeros (l : List Int) (n : Nat) : strOfNums (l ++ List.replicate n 0) = strOfNums l ++ zb n := by
  refine b_inj ?_
  rw [b_app, strOfNums_data, strOfNums_data, zb_list, List.map_append, List.map_replicate]
  rfl

/-! ### eqwords -/
theorem drop_eq_iff {α : Type} (xs ys : List α) (i : Nat) (h1 : i < xs.length) (h2 : i < ys.length) : xs.drop i = ys.drop i ↔ xs[i] = ys[i] ∧ xs.drop (i + 1) = ys.drop (i + 1) := by
  rw [drop_at xs i h1, drop_at ys i h2, List.cons.injEq]
open Classical in
noncomputable def eqW (xs ys : List ByteArray) : Bool := decide (xs = ys)
open Classical in
theorem sWords_l (xs ys : List ByteArray) (hl : xs.length = ys.length) (hn : xs.length ≤ 4000000) : ∀ i : Nat, i ≤ xs.length → Ev (fun k => spec_l12Words.l0 k xs ys i) (eqW (xs.drop i) (ys.drop i))
  | i, hi => by
    refine Ev.step (spec_l12Words.l0.eq_2 _ _ _) ?_
    by_cases h : i < xs.length
    · refine ev_pos (by omega) (ev_pos (by omega) (ev_pos (by omega) ?_))
      rw [rdOf_at _ xs i h, rdOf_at _ ys i (by omega), w64s i (by omega)]
      by_cases he : xs[i] = ys[i]'(by omega)
      · refine ev_pos (by rw [he]) (ev_to (sWords_l xs ys hl hn (i + 1) (by omega)) ?_)
        unfold eqW
        simp only [drop_eq_iff xs ys i h (by omega), he, true_and]
      · refine ev_neg (fun hc => he (toList_inj hc)) (ev_now ?_)
        unfold eqW
        simp only [drop_eq_iff xs ys i h (by omega), he, false_and, decide_false]
    · refine ev_neg (by omega) (ev_now ?_)
      rw [List.drop_of_length_le (by omega), List.drop_of_length_le (by omega)]
      unfold eqW; simp
  termination_by i => xs.length - i
theorem sWords_ev (xs ys : List ByteArray) (hn : xs.length ≤ 4000000) : Ev (fun k => spec_l12Words.f k xs ys) (eqW xs ys) := by
  unfold spec_l12Words.f
  by_cases h : xs.length = ys.length
  · have := sWords_l xs ys h hn 0 (by omega)
    rw [List.drop_zero, List.drop_zero] at this
    exact ev_pos (by omega) this
  · refine ev_neg (by omega) (ev_now ?_)
    unfold eqW
    rw [decide_eq_false (fun hc => h (by rw [hc]))]
theorem iWords_l (xs ys : List ByteArray) (hl : xs.length = ys.length) (hn : xs.length ≤ 4000000) : ∀ i : Nat, i ≤ xs.length → Ev (fun k => slices_Equal_string.l0 k xs ys xs.length i) (eqW (xs.drop i) (ys.drop i))
  | i, hi => by
    refine Ev.step (slices_Equal_string.l0.eq_2 _ _ _ _) ?_
    by_cases h : i < xs.length
    · refine ev_pos (by omega) (ev_pos (by omega) (ev_pos (by omega) (ev_pos (by omega) ?_)))
      rw [rdOf_at _ xs i h, rdOf_at _ ys i (by omega), w64s i (by omega)]
      by_cases he : xs[i] = ys[i]'(by omega)
      · refine ev_pos (by rw [he]) (ev_to (iWords_l xs ys hl hn (i + 1) (by omega)) ?_)
        unfold eqW
        simp only [drop_eq_iff xs ys i h (by omega), he, true_and]
      · refine ev_neg (fun hc => he (toList_inj hc)) (ev_now ?_)
        unfold eqW
        simp only [drop_eq_iff xs ys i h (by omega), he, false_and, decide_false]
    · refine ev_neg (by omega) (ev_now ?_)
      rw [List.drop_of_length_le (by omega), List.drop_of_length_le (by omega)]
      unfold eqW; simp
  termination_by i => xs.length - i
theorem iWords_ev (xs ys : List ByteArray) (hn : xs.length ≤ 4000000) : Ev (fun k => slices_Equal_string.f k xs ys) (eqW xs ys) := by
  unfold slices_Equal_string.f
  by_cases h : xs.length = ys.length
  · have := iWords_l xs ys h hn 0 (by omega)
    rw [List.drop_zero, List.drop_zero] at this
    exact ev_pos (by omega) this
  · refine ev_neg (by omega) (ev_now ?_)
    unfold eqW
    rw [decide_eq_false (fun hc => h (by rw [hc]))]

/-! ### rsv -/
def pre (y : ByteArray) : Nat → List Int
  | 0 => []
  | n + 1 => pre y n ++ [wrap64 (bt y (n : Int))]
theorem pre_len (y : ByteArray) (n : Nat) : (pre y n).length = n := by
  induction n with
  | zero => rfl
  | succ n ih => simp [pre, ih]
noncomputable def rsT (ws : List ByteArray) (p : Nat) (y : ByteArray) : List Int × Bool := if eqW (stW (pre y p)) ws = true then (pre y p, true) else ([], false)
noncomputable def rsY (ws : List ByteArray) : ByteArray := rdOf ByteArray.empty ws 0 ++ rdOf ByteArray.empty ws 1
def rsOk (ws : List ByteArray) (p : Int) : Prop := ws.length = 2 ∧ (rdOf ByteArray.empty ws 0).size = 8 ∧ (rdOf ByteArray.empty ws 1).size = 8 ∧ 1 ≤ p ∧ p ≤ 12
open Classical in
noncomputable def rsV (ws : List ByteArray) (p : Int) : List Int × Bool := if rsOk ws p then rsT ws p.toNat (rsY ws) else ([], false)
theorem rsV_len (ws : List ByteArray) (p : Int) : (rsV ws p).1.length ≤ 12 := by
  unfold rsV
  split
  · rename_i h
    unfold rsT
    split
    · rw [pre_len]; have := h.2.2.2; omega
    · simp
  · simp

/-! ### lin -/
theorem l01In_eq (a b c : Int) : spec_l01In.f a b c = some (decide (b ≤ a ∧ a ≤ c)) := by
  unfold spec_l01In.f
  by_cases h : a ≥ b
  · rw [if_pos h]; congr 1; simp; omega
  · rw [if_neg h]; congr 1; simp; omega

/-! ### statesok_s -/
theorem sStatesOk_l (xs : List Int) (p : Int) (hn : xs.length ≤ 4000000) : ∀ i : Nat, i ≤ xs.length → Ev (fun k => spec_StatesOk.l0 k xs p i) (okL (xs.drop i) && (decide ((xs.length : Int) = p) && decide (1 ≤ p ∧ p ≤ 12)))
  | i, hi => by
    refine Ev.step (spec_StatesOk.l0.eq_2 _ _ _) ?_
    by_cases h : i < xs.length
    · refine ev_pos (by omega) (ev_pos (by omega) (Ev.bind (ev_eq (l01In_eq _ _ _)) ?_))
      rw [rd_at _ i h, drop_at xs i h, w64s i (by omega)]
      simp only [okL]
      by_cases hv : 0 ≤ xs[i] ∧ xs[i] ≤ 2
      · rw [decide_eq_true hv]
        exact ev_pos rfl (ev_to (sStatesOk_l xs p hn (i + 1) (by omega)) (by simp))
      · rw [decide_eq_false hv]
        exact ev_neg (by simp) (ev_now (by simp))
    · refine ev_neg (by omega) ?_
      rw [List.drop_of_length_le (by omega)]
      by_cases hp : (xs.length : Int) = p
      · exact ev_pos hp (Ev.bind (ev_eq (l01In_eq _ _ _)) (ev_now (by simp [okL, hp])))
      · exact ev_neg hp (ev_now (by simp [hp]))
  termination_by i => xs.length - i
theorem sStatesOk_ev (xs : List Int) (p : Int) (hn : xs.length ≤ 4000000) : Ev (fun k => spec_StatesOk.f k xs p) (stB xs p) := by
  unfold spec_StatesOk.f
  have := sStatesOk_l xs p hn 0 (by omega)
  rw [List.drop_zero] at this
  exact this

/-! ### stateswords_s -/
theorem sSW_l (xs : List Int) (hl : xs.length ≤ 12) (hv : ∀ n ∈ xs, 0 ≤ n ∧ n ≤ 2) : ∀ i : Nat, i ≤ xs.length → Ev (fun k => spec_StatesWords.l0 k xs (xs.take i ++ List.replicate (16 - i) 0) i) [strOfNums ((stB16 xs).take 8), strOfNums ((stB16 xs).drop 8)]
  | i, hi => by
    refine Ev.step (spec_StatesWords.l0.eq_2 _ _ _) ?_
    have hlen : (xs.take i ++ List.replicate (16 - i) (0 : Int)).length = 16 := by simp; omega
    by_cases h : i < xs.length
    · refine ev_pos (by omega) (ev_pos (by omega) (ev_pos (by omega) ?_))
      have hb := hv _ (List.getElem_mem h)
      rw [rd_at _ i h, w64s i (by omega), Int.toNat_natCast, show xs[i] % 256 = xs[i] by omega]
      have e : (xs.take i ++ List.replicate (16 - i) (0 : Int)).set i xs[i] = xs.take (i + 1) ++ List.replicate (16 - (i + 1)) 0 := by
        rw [List.set_append_right _ _ (by simp; omega), List.length_take, Nat.min_eq_left (by omega), Nat.sub_self, show 16 - i = (16 - (i + 1)) + 1 by omega, List.replicate_succ, List.set_cons_zero, List.take_succ_eq_append_getElem h, List.append_assoc]
        rfl
      rw [e]
      exact sSW_l xs hl hv (i + 1) (by omega)
    · have : i = xs.length := by omega
      subst this
      rw [List.take_length]
      refine ev_neg (by omega) (ev_pos ?_ (ev_now rfl))
      rw [List.take_length] at hlen
      omega
  termination_by i => xs.length - i
theorem sSW_ev (xs : List Int) (hn : xs.length ≤ 4000000) : Ev (fun k => spec_StatesWords.f k xs) (stW xs) := by
  unfold spec_StatesWords.f
  refine Ev.bind (sStatesOk_ev xs xs.length hn) ?_
  unfold stW
  by_cases h : stB xs xs.length = true
  · obtain ⟨h1, h2⟩ := stB_parts h
    have := sSW_l xs h1 h2 0 (by omega)
    exact ev_pos h (ev_to this (by rw [if_pos h]))
  · exact ev_neg h (ev_now (by rw [if_neg h]))

/-! ### readstates_s -/
theorem sRS_l (ws : List ByteArray) (p : Nat) (hp : p ≤ 12) (hw : ws.length ≤ 4000000) (y : ByteArray) (hy : y.size = 16) : ∀ i : Nat, i ≤ p → Ev (fun k => spec_ReadStates.l0 k ws p y (pre y i) i) (rsT ws p y)
  | i, hi => by
    refine Ev.step (spec_ReadStates.l0.eq_2 _ _ _ _ _) ?_
    have hl := pre_len y i
    by_cases h : i < p
    · refine ev_pos (by omega) (ev_pos (by omega) (ev_pos (by omega) (ev_pos (by omega) ?_)))
      rw [w64s i (by omega)]
      exact sRS_l ws p hp hw y hy (i + 1) (by omega)
    · have : i = p := by omega
      subst this
      refine ev_neg (by omega) (Ev.bind (sSW_ev _ (by omega)) (Ev.bind (sWords_ev _ _ (by have := stW_len (pre y i); omega)) ?_))
      by_cases he : eqW (stW (pre y i)) ws = true
      · exact ev_pos he (ev_now (by unfold rsT; rw [if_pos he]))
      · exact ev_neg he (ev_now (by unfold rsT; rw [if_neg he]))
  termination_by i => p - i
theorem sRS_j (ws : List ByteArray) (p : Int) (h : rsOk ws p) : Ev (fun k => spec_ReadStates.j0 k ws p false) (rsV ws p) := by
  have hv : rsV ws p = rsT ws p.toNat (rsY ws) := by unfold rsV; rw [if_pos h]
  obtain ⟨h1, h2, h3, h4, h5⟩ := h
  refine Ev.step (spec_ReadStates.j0.eq_2 _ _ _) ?_
  refine ev_neg (by simp) (ev_pos (by omega) (ev_pos (by omega) (ev_pos (by omega) (Ev.bind (Ev.now _) ?_))))
  rw [hv]
  have hy : (rsY ws).size = 16 := by unfold rsY; rw [ByteArray.size_append]; omega
  have := sRS_l ws p.toNat (by omega) (by omega) (rsY ws) hy 0 (by omega)
  rw [show ((p.toNat : Nat) : Int) = p by omega] at this
  exact this
theorem sRS_ev (ws : List ByteArray) (p : Int) : Ev (fun k => spec_ReadStates.f k ws p) (rsV ws p) := by
  have bad : ¬ rsOk ws p → Ev (fun k => spec_ReadStates.j0 k ws p true) (rsV ws p) := by
    intro h
    refine Ev.step (spec_ReadStates.j0.eq_2 _ _ _) ?_
    exact ev_pos rfl (ev_now (by unfold rsV; rw [if_neg h]))
  unfold spec_ReadStates.f
  by_cases h1 : (ws.length : Int) = 2
  · refine ev_pos h1 (ev_pos (by omega) ?_)
    by_cases h2 : ((rdOf ByteArray.empty ws 0).size : Int) = 8
    · refine ev_pos h2 (ev_pos (by omega) ?_)
      by_cases h3 : ((rdOf ByteArray.empty ws 1).size : Int) = 8
      · refine ev_pos h3 (Ev.bind (ev_eq (l01In_eq _ _ _)) ?_)
        by_cases h4 : 1 ≤ p ∧ p ≤ 12
        · rw [decide_eq_true h4]
          exact sRS_j ws p ⟨by omega, by omega, by omega, h4.1, h4.2⟩
        · rw [decide_eq_false h4]
          exact bad (fun h => h4 h.2.2.2)
      · exact ev_neg h3 (bad (fun h => h3 (by have := h.2.2.1; omega)))
    · exact ev_neg h2 (bad (fun h => h2 (by have := h.2.1; omega)))
  · exact ev_neg h1 (bad (fun h => h1 (by have := h.1; omega)))

/-! ### padded -/
theorem repeat_eq (n : Nat) (h : n ≤ 1048576) : strings_Repeat.f (⟨#[0]⟩ : ByteArray) (n : Int) = some (zb n) := by
  unfold strings_Repeat.f
  have h1 : (⟨#[0]⟩ : ByteArray).size = 1 := rfl
  rw [if_pos ⟨by omega, by omega, by rw [Int.toNat_natCast, h1]; omega⟩]
  congr 1
  unfold zb
  rw [← repeat_zero, Int.toNat_natCast]
theorem padded_eq (s : ByteArray) (n : Int) (h0 : 0 ≤ n) (h1 : n ≤ 1048576) (hs : s.size ≤ 4000000) : impl_padded.f s n = some (s ++ zb (n - s.size).toNat) := by
  unfold impl_padded.f
  rw [w64 (by omega) (by omega)]
  have hm : mx 0 (n - (s.size : Int)) = (((n - s.size).toNat : Nat) : Int) := by
    show (if (0 : Int) < n - (s.size : Int) then n - (s.size : Int) else 0) = _
    split <;> omega
  rw [hm, repeat_eq _ (by omega), Option.bind_some, if_pos (by rw [zb_size]; omega)]

/-! ### wordsof16 -/
theorem pad8 (s : ByteArray) (h : s.size = 8) : impl_padded.f s 8 = some s := by
  rw [padded_eq s 8 (by omega) (by omega) (by omega), h]
  congr 1
  refine b_inj ?_
  rw [b_app, show (8 - ((8 : Nat) : Int)).toNat = 0 from rfl, zb_list]
  simp
theorem wordsOf16 (l : List Int) (hl : l.length = 16) : Ev (fun k => impl_wordsOf.f k (strOfNums l)) [strOfNums (l.take 8), strOfNums (l.drop 8)] := by
  have hz : (strOfNums l).size = 16 := by rw [strOfNums_size, hl]
  have w1 : wrap64 (0 + 8) = 8 := by have := w64 (x := 0 + 8) (by omega) (by omega); omega
  have w2 : wrap64 (8 + 8) = 16 := by have := w64 (x := 8 + 8) (by omega) (by omega); omega
  have m1 : mn (wrap64 (0 + 8)) (((strOfNums l).size : Nat) : Int) = 8 := by rw [hz, w1]; decide
  have m2 : mn (wrap64 (8 + 8)) (((strOfNums l).size : Nat) : Int) = 16 := by rw [hz, w2]; decide
  have e1 : (strOfNums l).extract (0 : Int).toNat (8 : Int).toNat = strOfNums (l.take 8) := by rw [son_cut]; simp
  have e2 : (strOfNums l).extract (8 : Int).toNat (16 : Int).toNat = strOfNums (l.drop 8) := by rw [son_cut, List.take_of_length_le (show l.length ≤ (16 : Int).toNat by rw [hl]; decide)]; rfl
  have s1 : (strOfNums (l.take 8)).size = 8 := by rw [strOfNums_size, List.length_take]; omega
  have s2 : (strOfNums (l.drop 8)).size = 8 := by rw [strOfNums_size, List.length_drop]; omega
  unfold impl_wordsOf.f
  refine Ev.step (impl_wordsOf.l0.eq_2 _ _ _) ?_
  rw [m1, e1, pad8 _ s1]
  refine ev_pos (by omega) (ev_pos (by omega) (ev_pos (by omega) (ev_pos (by omega) (Ev.bind (Ev.now _) (ev_pos (by simp) ?_)))))
  rw [w1]
  refine Ev.step (impl_wordsOf.l0.eq_2 _ _ _) ?_
  rw [m2, e2, pad8 _ s2]
  refine ev_pos (by omega) (ev_pos (by omega) (ev_pos (by omega) (ev_pos (by omega) (Ev.bind (Ev.now _) (ev_pos (by simp) ?_)))))
  rw [w2]
  refine Ev.step (impl_wordsOf.l0.eq_2 _ _ _) ?_
  exact ev_neg (by omega) (ev_now rfl)

/-! ### within -/
theorem within_eq (a b c : Int) : impl_within.f a b c = some (decide (b ≤ a ∧ a ≤ c)) := by
  unfold impl_within.f
  by_cases h : a ≥ b
  · rw [if_pos h]; congr 1; simp; omega
  · rw [if_neg h]; congr 1; simp; omega

/-! ### statesok_i -/
theorem iBad_l (xs : List Int) (hn : xs.length ≤ 4000000) : ∀ i : Nat, i ≤ xs.length → ∃ r : Int, Ev (fun k => slices_IndexFunc_int.l0 k xs xs.length i) r ∧ (okL (xs.drop i) = true → r = -1) ∧ (okL (xs.drop i) = false → 0 ≤ r)
  | i, hi => by
    by_cases h : i < xs.length
    · by_cases hv : 0 ≤ xs[i] ∧ xs[i] ≤ 2
      · obtain ⟨r, h1, h2, h3⟩ := iBad_l xs hn (i + 1) (by omega)
        refine ⟨r, ?_, ?_, ?_⟩
        · refine Ev.step (slices_IndexFunc_int.l0.eq_2 _ _ _) ?_
          refine ev_pos (by omega) (ev_pos (by omega) (ev_pos (by omega) ?_))
          rw [rd_at _ i h, w64s i (by omega)]
          refine Ev.bind (a := false) (by unfold impl_StatesOk_1.f; exact Ev.bind (ev_eq (within_eq _ _ _)) (ev_now (by rw [decide_eq_true hv]; rfl))) (ev_neg (by simp) h1)
        · rw [drop_at xs i h]; simp only [okL, decide_eq_true hv, Bool.true_and]; exact h2
        · rw [drop_at xs i h]; simp only [okL, decide_eq_true hv, Bool.true_and]; exact h3
      · refine ⟨i, ?_, ?_, ?_⟩
        · refine Ev.step (slices_IndexFunc_int.l0.eq_2 _ _ _) ?_
          refine ev_pos (by omega) (ev_pos (by omega) (ev_pos (by omega) ?_))
          rw [rd_at _ i h]
          refine Ev.bind (a := true) (by unfold impl_StatesOk_1.f; exact Ev.bind (ev_eq (within_eq _ _ _)) (ev_now (by rw [decide_eq_false hv]; rfl))) (ev_pos rfl (ev_now rfl))
        · rw [drop_at xs i h]; simp only [okL, decide_eq_false hv, Bool.false_and]; intro hc; cases hc
        · intro _; omega
    · refine ⟨-1, ?_, fun _ => rfl, ?_⟩
      · refine Ev.step (slices_IndexFunc_int.l0.eq_2 _ _ _) ?_
        exact ev_neg (by omega) (ev_now rfl)
      · rw [List.drop_of_length_le (by omega)]; intro hc; cases hc
  termination_by i => xs.length - i
theorem iStatesOk_ev (xs : List Int) (p : Int) (hn : xs.length ≤ 4000000) : Ev (fun k => impl_StatesOk.f k xs p) (stB xs p) := by
  obtain ⟨r, h1, h2, h3⟩ := iBad_l xs hn 0 (by omega)
  rw [List.drop_zero] at h2 h3
  unfold impl_StatesOk.f
  refine Ev.bind (ev_eq (within_eq _ _ _)) ?_
  unfold stB
  by_cases hp : 1 ≤ p ∧ p ≤ 12
  · refine ev_pos (by simpa using hp) ?_
    by_cases hl : (xs.length : Int) = p
    · refine ev_pos hl ?_
      refine Ev.bind (a := decide (r ≥ 0)) (by unfold slices_ContainsFunc_int.f slices_IndexFunc_int.f; exact Ev.bind h1 (ev_now rfl)) (ev_now ?_)
      cases ho : okL xs with
      | true => rw [h2 ho]; simp [hl, hp]
      | false => have := h3 ho; simp; omega
    · exact ev_neg hl (ev_now (by simp [hl]))
  · exact ev_neg (by simpa using hp) (ev_now (by rw [decide_eq_false hp]; simp))

/-! ### stateswords_i -/
theorem iSW_l (xs : List Int) (hl : xs.length ≤ 12) (hv : ∀ n ∈ xs, 0 ≤ n ∧ n ≤ 2) : ∀ i : Nat, i ≤ xs.length → Ev (fun k => impl_StatesWords.l0 k (xs.take i) xs xs.length i) [strOfNums ((stB16 xs).take 8), strOfNums ((stB16 xs).drop 8)]
  | i, hi => by
    refine Ev.step (impl_StatesWords.l0.eq_2 _ _ _ _) ?_
    by_cases h : i < xs.length
    · have hb := hv _ (List.getElem_mem h)
      refine ev_pos (by omega) (ev_pos (by omega) (ev_pos (by omega) (ev_pos (by rw [List.length_take]; omega) ?_)))
      rw [rd_at _ i h, w64s i (by omega), show xs[i] % 256 = xs[i] by omega, ← List.take_succ_eq_append_getElem h]
      exact iSW_l xs hl hv (i + 1) (by omega)
    · have : i = xs.length := by omega
      subst this
      rw [List.take_length]
      have hz : (strOfNums xs).size = xs.length := strOfNums_size xs
      have e : strOfNums xs ++ zb ((16 : Int) - ((strOfNums xs).size : Int)).toNat = strOfNums (stB16 xs) := by
        unfold stB16
        rw [son_zeros, hz]
        congr 2
        omega
      refine ev_neg (by omega) (Ev.bind (ev_eq (padded_eq _ 16 (by omega) (by omega) (by omega))) ?_)
      rw [e]
      exact Ev.bind (wordsOf16 _ (by unfold stB16; simp; omega)) (ev_now rfl)
  termination_by i => xs.length - i
theorem iSW_ev (xs : List Int) (hn : xs.length ≤ 4000000) : Ev (fun k => impl_StatesWords.f k xs) (stW xs) := by
  unfold impl_StatesWords.f
  refine Ev.bind (iStatesOk_ev xs xs.length hn) ?_
  unfold stW
  by_cases h : stB xs xs.length = true
  · obtain ⟨h1, h2⟩ := stB_parts h
    have := iSW_l xs h1 h2 0 (by omega)
    exact ev_pos h (ev_to this (by rw [if_pos h]))
  · exact ev_neg h (ev_now (by rw [if_neg h]))

/-! ### readstates_i -/
theorem iRS_l (ws : List ByteArray) (p : Nat) (hp : p ≤ 12) (hw : ws.length ≤ 4000000) (y : ByteArray) (hy : y.size = 16) : ∀ i : Nat, i ≤ p → Ev (fun k => impl_ReadStates.l0 k ws y (pre y i) p i) (rsT ws p y)
  | i, hi => by
    refine Ev.step (impl_ReadStates.l0.eq_2 _ _ _ _ _) ?_
    have hl := pre_len y i
    by_cases h : i < p
    · refine ev_pos (by omega) (ev_pos (by omega) (ev_pos (by omega) (ev_pos (by omega) ?_)))
      rw [w64s i (by omega)]
      exact iRS_l ws p hp hw y hy (i + 1) (by omega)
    · have : i = p := by omega
      subst this
      refine ev_neg (by omega) (Ev.bind (iSW_ev _ (by omega)) (Ev.bind (iWords_ev _ _ (by have := stW_len (pre y i); omega)) ?_))
      by_cases he : eqW (stW (pre y i)) ws = true
      · exact ev_pos he (ev_now (by unfold rsT; rw [if_pos he]))
      · exact ev_neg he (ev_now (by unfold rsT; rw [if_neg he]))
  termination_by i => p - i
theorem iRS_j (ws : List ByteArray) (p : Int) (h : rsOk ws p) : Ev (fun k => impl_ReadStates.j0 k ws p false) (rsV ws p) := by
  have hv : rsV ws p = rsT ws p.toNat (rsY ws) := by unfold rsV; rw [if_pos h]
  obtain ⟨h1, h2, h3, h4, h5⟩ := h
  refine Ev.step (impl_ReadStates.j0.eq_2 _ _ _) ?_
  refine ev_neg (by simp) (ev_pos (by omega) (ev_pos (by omega) (ev_pos (by omega) (Ev.bind (Ev.now _) ?_))))
  rw [hv]
  have hy : (rsY ws).size = 16 := by unfold rsY; rw [ByteArray.size_append]; omega
  have := iRS_l ws p.toNat (by omega) (by omega) (rsY ws) hy 0 (by omega)
  rw [show ((p.toNat : Nat) : Int) = p by omega] at this
  exact this
theorem iRS_ev (ws : List ByteArray) (p : Int) : Ev (fun k => impl_ReadStates.f k ws p) (rsV ws p) := by
  have bad : ¬ rsOk ws p → Ev (fun k => impl_ReadStates.j0 k ws p true) (rsV ws p) := by
    intro h
    refine Ev.step (impl_ReadStates.j0.eq_2 _ _ _) ?_
    exact ev_pos rfl (ev_now (by unfold rsV; rw [if_neg h]))
  unfold impl_ReadStates.f
  by_cases h1 : (ws.length : Int) = 2
  · refine ev_pos h1 (ev_pos (by omega) ?_)
    by_cases h2 : ((rdOf ByteArray.empty ws 0).size : Int) = 8
    · refine ev_pos h2 (ev_pos (by omega) ?_)
      by_cases h3 : ((rdOf ByteArray.empty ws 1).size : Int) = 8
      · refine ev_pos h3 (Ev.bind (ev_eq (within_eq _ _ _)) ?_)
        by_cases h4 : 1 ≤ p ∧ p ≤ 12
        · rw [decide_eq_true h4]
          exact iRS_j ws p ⟨by omega, by omega, by omega, h4.1, h4.2⟩
        · rw [decide_eq_false h4]
          exact bad (fun h => h4 h.2.2.2)
      · exact ev_neg h3 (bad (fun h => h3 (by have := h.2.2.1; omega)))
    · exact ev_neg h2 (bad (fun h => h2 (by have := h.2.1; omega)))
  · exact ev_neg h1 (bad (fun h => h1 (by have := h.1; omega)))

/-! ### FnExactReadStates -/
theorem FnExactReadStates : laws_FnExactReadStates.Law := by
  intro xs p hx _
  apply Ev.rounds
  unfold laws_FnExactReadStates.f
  refine Ev.bind (szStringS_ev xs (by omega) hx.2 _ (by omega) (by omega)) ?_
  by_cases h : left 1048576 (wtSS xs) < 0
  · exact ev_pos h (ev_now rfl)
  have h1 := (left_le (a := 1048576) (t := wtSS xs) (by omega)).1
  have h2 : xs.length + sumBy (fun s : ByteArray => s.size) xs ≤ 1048576 := by
    have : wtSS xs = xs.length + sumBy (fun s : ByteArray => s.size) xs := rfl
    omega
  refine ev_neg h ?_
  have hw := rsV_len xs p
  repeat' first
    | (with_reducible exact ev_now rfl)
    | (with_reducible refine Ev.bind (toStringS_ev _ (by omega)) ?_)
    | (with_reducible refine Ev.bind (sRS_ev _ _) ?_)
    | (with_reducible refine Ev.bind (iRS_ev _ _) ?_)
    | (with_reducible refine Ev.bind (eqStringS_ev _ (by omega)) ?_)
    | (with_reducible refine Ev.bind (eqIntS_ev _ (by omega)) ?_)
    | (with_reducible refine Ev.bind (markIntS_ev _ 1 (by omega) (by omega)) ?_)
    | (with_reducible refine Ev.bind (markStringS_ev _ 1 (by omega) (by omega)) ?_)
    | (with_reducible refine Ev.bind (heldIntS_ev _ 1 (by omega) (by omega)) ?_)
    | (with_reducible refine ev_pos rfl ?_)
    | ((with_reducible refine ev_pos ?c_ ?_); (case c_ => first | rfl | omega | (dsimp only; omega) | (simp only [decide_eq_true_eq]; omega) | (simp; done)))
    | ((with_reducible refine ev_neg ?c_ ?_); (case c_ => first | rfl | omega | (dsimp only; omega) | (simp only [decide_eq_true_eq]; omega) | (simp; done)))
    | (refine Ev.step (laws_FnExactReadStates.j0.eq_2 _ _ _ _ _ _ _ _) ?_)
    | (refine Ev.step (laws_FnExactReadStates.j1.eq_2 _ _ _ _ _ _) ?_)
    | (refine Ev.step (laws_FnExactReadStates.j2.eq_2 _ _ _) ?_)
    | ((with_reducible refine ev_now ?c_); (case c_ => first | rfl | (simp; done)))

end Go.Proofs.Ytaagiehphonieaa.Pure
