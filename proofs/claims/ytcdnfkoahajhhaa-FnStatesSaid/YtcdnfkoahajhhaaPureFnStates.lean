/- The pure statement of FnStates is proved: for all arguments within the row's own bounds the Lean function that the law's walk comes to answers true. Conditions: none beyond these bounds. -/
import Derived.Test.YtcdnfkoahajhhaaStFnStates
import Derived.Test.YtcdnfkoahajhhaaBase
namespace Go.Proofs.Ytcdnfkoahajhhaa.Pure
open Go.RowKit Go.Proofs.Ytcdnfkoahajhhaa.PFnStates Go.Proofs.YtcdnfkoahajhhaaW.PrintWords Go.Proofs.YtcdnfkoahajhhaaW.PrintLast Go.Proofs.Ytcdnfkoahajhhaa.Base
set_option linter.unusedVariables false
set_option linter.unusedSimpArgs false
/-! ### draw -/
theorem and255 (x : Int) : 0 ≤ Go.bits .and .i64 x 255 ∧ Go.bits .and .i64 x 255 ≤ 255 := by
  have h : (BitVec.ofInt IntKind.i64.bits x &&& BitVec.ofInt IntKind.i64.bits 255).toNat ≤ 255 := by
    rw [BitVec.toNat_and]
    exact Nat.le_trans Nat.and_le_right (by decide)
  show 0 ≤ IntKind.i64.wrap (((BitVec.ofInt IntKind.i64.bits x &&& BitVec.ofInt IntKind.i64.bits 255).toNat : Nat) : Int) ∧ IntKind.i64.wrap (((BitVec.ofInt IntKind.i64.bits x &&& BitVec.ofInt IntKind.i64.bits 255).toNat : Nat) : Int) ≤ 255
  generalize (BitVec.ofInt IntKind.i64.bits x &&& BitVec.ofInt IntKind.i64.bits 255).toNat = m at h
  rw [IntKind.wrap_i64]
  omega
theorem new_l (xs : List Int) (hn : xs.length ≤ 4000000) : ∀ (i : Nat) (h : Int), i ≤ xs.length → ∃ r, Ev (fun k => spec_l01New.l0 k xs h i) (xs, 0, r)
  | i, h, hi => by
    by_cases c : i < xs.length
    · by_cases c2 : (i : Int) < 4000
      · obtain ⟨r, hr⟩ := new_l xs hn (i + 1) (Go.bits .and .i64 (wrap64 ((wrap64 ((wrap64 (h * 131)) + (wrap64 (rd xs i)))) + 7)) 1073741823) (by omega)
        refine ⟨r, ?_⟩
        refine Ev.step (spec_l01New.l0.eq_2 _ _ _) ?_
        refine ev_pos (by omega) (ev_pos c2 (ev_pos (by omega) ?_))
        rw [w64s i (by omega)]
        exact hr
      · refine ⟨h, ?_⟩
        refine Ev.step (spec_l01New.l0.eq_2 _ _ _) ?_
        exact ev_pos (by omega) (ev_neg c2 (ev_now rfl))
    · refine ⟨h, ?_⟩
      refine Ev.step (spec_l01New.l0.eq_2 _ _ _) ?_
      exact ev_neg (by omega) (ev_now rfl)
  termination_by i => xs.length - i
theorem new_ev (xs : List Int) (hn : xs.length ≤ 4000000) : ∃ r, Ev (fun k => spec_l01New.f k xs) (xs, 0, r) := by
  unfold spec_l01New.f
  exact new_l xs hn 0 _ (by omega)
/-- A cursor's place: right, and no further than n. -/
def crs (n i : Int) : Prop := 0 ≤ i ∧ i ≤ n
theorem byte_eq (xs : List Int) (hn : xs.length ≤ 4000000) (i h : Int) (hi : crs 4000000 i) : ∃ b i' h', spec_l01Byte.f xs i h = some (b, i', h') ∧ 0 ≤ b ∧ b ≤ 255 ∧ crs 4000000 i' := by
  unfold spec_l01Byte.f
  obtain ⟨h0, h1⟩ := hi
  by_cases c : i < (xs.length : Int)
  · refine ⟨_, _, _, by rw [if_pos c, if_pos h0], (and255 _).1, (and255 _).2, ?_⟩
    rw [w64 (by omega) (by omega)]
    exact ⟨by omega, by omega⟩
  · exact ⟨_, _, _, by rw [if_neg c], (and255 _).1, (and255 _).2, h0, h1⟩
theorem below_eq (xs : List Int) (hn : xs.length ≤ 4000000) (i h : Int) (hi : crs 4000000 i) (n : Int) (h0 : 0 < n) (h1 : n ≤ 256) : ∃ b i' h', spec_l01Below.f xs i h n = some (b, i', h') ∧ 0 ≤ b ∧ b < n ∧ crs 4000000 i' := by
  unfold spec_l01Below.f
  obtain ⟨b, i', h', e, b0, b1, hi'⟩ := byte_eq xs hn i h hi
  refine ⟨Int.tmod b n, i', h', ?_, ?_, ?_, hi'⟩
  · rw [if_neg (by omega), if_pos h1, e, Option.bind_some, if_neg (by omega)]
  · rw [Int.tmod_eq_emod_of_nonneg b0]; exact Int.emod_nonneg _ (by omega)
  · rw [Int.tmod_eq_emod_of_nonneg b0]; exact Int.emod_lt_of_pos _ h0
theorem pick_eq (xs : List Int) (hn : xs.length ≤ 4000000) (i h : Int) (hi : crs 4000000 i) (l : List Int) (h0 : 0 < l.length) (h1 : l.length ≤ 256) : ∃ x i' h', spec_l01PickInt.f xs i h l = some (x, i', h') ∧ x ∈ l ∧ crs 4000000 i' := by
  unfold spec_l01PickInt.f
  obtain ⟨b, i', h', e, b0, b1, hi'⟩ := below_eq xs hn i h hi (l.length : Int) (by omega) (by omega)
  obtain ⟨m, rfl⟩ := Int.eq_ofNat_of_zero_le b0
  refine ⟨l[m]'(by omega), i', h', ?_, List.getElem_mem _, hi'⟩
  rw [e, Option.bind_some, if_pos b0, if_pos b1, rd_at l m (by omega)]


/-! ### sameints -/
theorem same_l (xs : List Int) (hn : xs.length ≤ 4000000) : ∀ (i : Nat), i ≤ xs.length → Ev (fun k => laws_sameInts.l0 k xs xs i) true
  | i, hi => by
    refine Ev.step (laws_sameInts.l0.eq_2 _ _ _) ?_
    by_cases h : i < xs.length
    · refine ev_pos (by omega) (ev_pos (by omega) (ev_pos (by omega) (ev_pos rfl ?_)))
      rw [w64s i (by omega)]
      exact same_l xs hn (i + 1) (by omega)
    · exact ev_neg (by omega) (ev_now rfl)
  termination_by i => xs.length - i
theorem same_ev (xs : List Int) (hn : xs.length ≤ 4000000) : Ev (fun k => laws_sameInts.f k xs xs) true := by
  unfold laws_sameInts.f
  exact ev_pos rfl (same_l xs hn 0 (by omega))

/-! ### within -/
theorem within_eq (a b c : Int) : impl_within.f a b c = some (decide (b ≤ a ∧ a ≤ c)) := by
  unfold impl_within.f
  by_cases h : a ≥ b
  · rw [if_pos h]; congr 1; simp; omega
  · rw [if_neg h]; congr 1; simp; omega

/-! ### lin -/
theorem l01In_eq (a b c : Int) : spec_l01In.f a b c = some (decide (b ≤ a ∧ a ≤ c)) := by
  unfold spec_l01In.f
  by_cases h : a ≥ b
  · rw [if_pos h]; congr 1; simp; omega
  · rw [if_neg h]; congr 1; simp; omega

/-! ### clone_int -/
theorem clone_int_eq (xs : List Int) (h : xs.length ≤ 1048576) : slices_Clone_int.f xs = some xs := by unfold slices_Clone_int.f; rw [if_pos (by omega)]

/-! ### withstate -/
def setAll (st : Int) : List Int → List Int → List Int
  | [], o => o
  | p :: r, o => setAll st r (if 0 ≤ p ∧ p ≤ (o.length : Int) - 1 then o.set p.toNat st else o)
theorem setAll_len (st : Int) (ps : List Int) : ∀ o : List Int, (setAll st ps o).length = o.length := by
  induction ps with
  | nil => intro o; rfl
  | cons p r ih => intro o; simp only [setAll]; rw [ih]; split <;> simp
theorem sWith_l (ps : List Int) (st : Int) (hn : ps.length ≤ 1048576) : ∀ (i : Nat) (o : List Int), i ≤ ps.length → o.length ≤ 1048576 → Ev (fun k => spec_WithState.l0 k ps st o i) (setAll st (ps.drop i) o)
  | i, o, hi, ho => by
    refine Ev.step (spec_WithState.l0.eq_2 _ _ _ _) ?_
    by_cases h : i < ps.length
    · refine ev_pos (by omega) (ev_pos (by omega) ?_)
      rw [rd_at ps i h, w64s i (by omega), w64 (x := (o.length : Int) - 1) (by omega) (by omega), drop_at ps i h]
      refine Ev.bind (ev_eq (l01In_eq _ _ _)) ?_
      simp only [setAll]
      by_cases hp : 0 ≤ ps[i] ∧ ps[i] ≤ (o.length : Int) - 1
      · rw [if_pos hp]
        exact ev_pos (by simpa using hp) (ev_pos (by omega) (ev_pos (by omega) (sWith_l ps st hn (i + 1) _ (by omega) (by simpa using ho))))
      · rw [if_neg hp]
        exact ev_neg (by simpa using hp) (sWith_l ps st hn (i + 1) _ (by omega) ho)
    · refine ev_neg (by omega) (ev_now ?_)
      rw [List.drop_of_length_le (by omega)]; rfl
  termination_by i => ps.length - i
theorem iWith_l (ps : List Int) (st : Int) (hn : ps.length ≤ 1048576) : ∀ (i : Nat) (o : List Int), i ≤ ps.length → o.length ≤ 1048576 → Ev (fun k => impl_WithState.l0 k st o ps ps.length i) (setAll st (ps.drop i) o)
  | i, o, hi, ho => by
    refine Ev.step (impl_WithState.l0.eq_2 _ _ _ _ _) ?_
    by_cases h : i < ps.length
    · refine ev_pos (by omega) (ev_pos (by omega) (ev_pos (by omega) ?_))
      rw [rd_at ps i h, w64s i (by omega), w64 (x := (o.length : Int) - 1) (by omega) (by omega), drop_at ps i h]
      refine Ev.bind (ev_eq (within_eq _ _ _)) ?_
      simp only [setAll]
      by_cases hp : 0 ≤ ps[i] ∧ ps[i] ≤ (o.length : Int) - 1
      · rw [if_pos hp]
        exact ev_pos (by simpa using hp) (ev_pos (by omega) (ev_pos (by omega) (iWith_l ps st hn (i + 1) _ (by omega) (by simpa using ho))))
      · rw [if_neg hp]
        exact ev_neg (by simpa using hp) (iWith_l ps st hn (i + 1) _ (by omega) ho)
    · refine ev_neg (by omega) (ev_now ?_)
      rw [List.drop_of_length_le (by omega)]; rfl
  termination_by i => ps.length - i
theorem sWith_ev (xs ps : List Int) (st : Int) (hx : xs.length ≤ 1048576) (hn : ps.length ≤ 1048576) : Ev (fun k => spec_WithState.f k xs ps st) (setAll st ps xs) := by
  unfold spec_WithState.f
  exact Ev.bind (Ev.now _) (ev_pos (by simp; omega) (by simpa using sWith_l ps st hn 0 xs (by omega) hx))
theorem iWith_ev (xs ps : List Int) (st : Int) (hx : xs.length ≤ 1048576) (hn : ps.length ≤ 1048576) : Ev (fun k => impl_WithState.f k xs ps st) (setAll st ps xs) := by
  unfold impl_WithState.f
  exact Ev.bind (ev_eq (clone_int_eq xs hx)) (by simpa using iWith_l ps st hn 0 xs (by omega) hx)

/-! ### okl -/
def okL : List Int → Bool
  | [] => true
  | n :: r => decide (0 ≤ n ∧ n ≤ 2) && okL r
theorem okL_mem : ∀ {xs : List Int}, okL xs = true → ∀ n ∈ xs, 0 ≤ n ∧ n ≤ 2
  | [], _, n, h => by cases h
  | x :: r, ho, n, h => by
    simp only [okL, Bool.and_eq_true, decide_eq_true_eq] at ho
    rcases List.mem_cons.1 h with rfl | h
    · exact ho.1
    · exact okL_mem ho.2 n h
def stB (xs : List Int) (p : Int) : Bool := okL xs && (decide ((xs.length : Int) = p) && decide (1 ≤ p ∧ p ≤ 12))

/-! ### statesok_s -/
theorem sStatesOk_l (xs : List Int) (p : Int) (hn : xs.length ≤ 4000000) : ∀ i : Nat, i ≤ xs.length → Ev (fun k => spec_StatesOk.l0 k xs p i) (okL (xs.drop i) && (decide ((xs.length : Int) = p) && decide (1 ≤ p ∧ p ≤ 12)))
  | i, hi => by
    refine Ev.step (spec_StatesOk.l0.eq_2 _ _ _) ?_
    by_cases h : i < xs.length
    · refine ev_pos (by omega) (ev_pos (by omega) (Ev.bind (ev_eq (l01In_eq _ _ _)) ?_))
      rw [rd_at _ i h, drop_at xs i h, w64s i (by omega)]
      simp only [okL]
      by_cases hv : 0 ≤ xs[i] ∧ xs[i] ≤ 2
      · rw [decide_eq_true hv]
        exact ev_pos rfl (ev_to (sStatesOk_l xs p hn (i + 1) (by omega)) (by simp))
      · rw [decide_eq_false hv]
        exact ev_neg (by simp) (ev_now (by simp))
    · refine ev_neg (by omega) ?_
      rw [List.drop_of_length_le (by omega)]
      by_cases hp : (xs.length : Int) = p
      · exact ev_pos hp (Ev.bind (ev_eq (l01In_eq _ _ _)) (ev_now (by simp [okL, hp])))
      · exact ev_neg hp (ev_now (by simp [hp]))
  termination_by i => xs.length - i
theorem sStatesOk_ev (xs : List Int) (p : Int) (hn : xs.length ≤ 4000000) : Ev (fun k => spec_StatesOk.f k xs p) (stB xs p) := by
  unfold spec_StatesOk.f
  have := sStatesOk_l xs p hn 0 (by omega)
  rw [List.drop_zero] at this
  exact this

/-! ### stw -/
/-- The bytes of the states of pages. -/
def stB16 (xs : List Int) : List Int := xs ++ List.replicate (16 - xs.length) 0
def stW (xs : List Int) : List ByteArray := if stB xs xs.length = true then [strOfNums ((stB16 xs).take 8), strOfNums ((stB16 xs).drop 8)] else []
theorem stW_len (xs : List Int) : (stW xs).length ≤ 2 := by unfold stW; split <;> simp
theorem stB_parts {xs : List Int} (h : stB xs xs.length = true) : xs.length ≤ 12 ∧ ∀ n ∈ xs, 0 ≤ n ∧ n ≤ 2 := by
  simp only [stB, Bool.and_eq_true, decide_eq_true_eq] at h
  exact ⟨by omega, okL_mem h.1⟩
theorem son_cut (l : List Int) (i j : Nat) : (strOfNums l).extract i j = strOfNums ((l.take j).drop i) := by
  refine b_inj ?_
  rw [b_cut, strOfNums_data, strOfNums_data, List.map_drop, List.map_take]
theorem son_zeros (l : List Int) (n : Nat) : strOfNums (l ++ List.replicate n 0) = strOfNums l ++ zb n := by
  refine b_inj ?_
  rw [b_app, strOfNums_data, strOfNums_data, zb_list, List.map_append, List.map_replicate]
  rfl

/-! ### eqwords -/
theorem drop_eq_iff {α : Type} (xs ys : List α) (i : Nat) (h1 : i < xs.length) (h2 : i < ys.length) : xs.drop i = ys.drop i ↔ xs[i] = ys[i] ∧ xs.drop (i + 1) = ys.drop (i + 1) := by
  rw [drop_at xs i h1, drop_at ys i h2, List.cons.injEq]
open Classical in
noncomputable def eqW (xs ys : List ByteArray) : Bool := decide (xs = ys)

theorem iWords_l (xs ys : List ByteArray) (hl : xs.length = ys.length) (hn : xs.length ≤ 4000000) : ∀ i : Nat, i ≤ xs.length → Ev (fun k => slices_Equal_string.l0 k xs ys xs.length i) (eqW (xs.drop i) (ys.drop i))
  | i, hi => by
    refine Ev.step (slices_Equal_string.l0.eq_2 _ _ _ _) ?_
    by_cases h : i < xs.length
    · refine ev_pos (by omega) (ev_pos (by omega) (ev_pos (by omega) (ev_pos (by omega) ?_)))
      rw [rdOf_at _ xs i h, rdOf_at _ ys i (by omega), w64s i (by omega)]
      by_cases he : xs[i] = ys[i]'(by omega)
      · refine ev_pos (by rw [he]) (ev_to (iWords_l xs ys hl hn (i + 1) (by omega)) ?_)
        unfold eqW
        simp only [drop_eq_iff xs ys i h (by omega), he, true_and]
      · refine ev_neg (fun hc => he (toList_inj hc)) (ev_now ?_)
        unfold eqW
        simp only [drop_eq_iff xs ys i h (by omega), he, false_and, decide_false]
    · refine ev_neg (by omega) (ev_now ?_)
      rw [List.drop_of_length_le (by omega), List.drop_of_length_le (by omega)]
      unfold eqW; simp
  termination_by i => xs.length - i
theorem iWords_ev (xs ys : List ByteArray) (hn : xs.length ≤ 4000000) : Ev (fun k => slices_Equal_string.f k xs ys) (eqW xs ys) := by
  unfold slices_Equal_string.f
  by_cases h : xs.length = ys.length
  · have := iWords_l xs ys h hn 0 (by omega)
    rw [List.drop_zero, List.drop_zero] at this
    exact ev_pos (by omega) this
  · refine ev_neg (by omega) (ev_now ?_)
    unfold eqW
    rw [decide_eq_false (fun hc => h (by rw [hc]))]

/-! ### rsv -/
def pre (y : ByteArray) : Nat → List Int
  | 0 => []
  | n + 1 => pre y n ++ [wrap64 (bt y (n : Int))]
theorem pre_len (y : ByteArray) (n : Nat) : (pre y n).length = n := by
  induction n with
  | zero => rfl
  | succ n ih => simp [pre, ih]
noncomputable def rsT (ws : List ByteArray) (p : Nat) (y : ByteArray) : List Int × Bool := if eqW (stW (pre y p)) ws = true then (pre y p, true) else ([], false)
noncomputable def rsY (ws : List ByteArray) : ByteArray := rdOf ByteArray.empty ws 0 ++ rdOf ByteArray.empty ws 1
def rsOk (ws : List ByteArray) (p : Int) : Prop := ws.length = 2 ∧ (rdOf ByteArray.empty ws 0).size = 8 ∧ (rdOf ByteArray.empty ws 1).size = 8 ∧ 1 ≤ p ∧ p ≤ 12
open Classical in
noncomputable def rsV (ws : List ByteArray) (p : Int) : List Int × Bool := if rsOk ws p then rsT ws p.toNat (rsY ws) else ([], false)
theorem rsV_len (ws : List ByteArray) (p : Int) : (rsV ws p).1.length ≤ 12 := by
  unfold rsV
  split
  · rename_i h
    unfold rsT
    split
    · rw [pre_len]; have := h.2.2.2; omega
    · simp
  · simp

/-! ### padded -/
theorem repeat_eq (n : Nat) (h : n ≤ 1048576) : strings_Repeat.f (⟨#[0]⟩ : ByteArray) (n : Int) = some (zb n) := by
  unfold strings_Repeat.f
  have h1 : (⟨#[0]⟩ : ByteArray).size = 1 := rfl
  rw [if_pos ⟨by omega, by omega, by rw [Int.toNat_natCast, h1]; omega⟩]
  congr 1
  unfold zb
  rw [← repeat_zero, Int.toNat_natCast]
theorem padded_eq (s : ByteArray) (n : Int) (h0 : 0 ≤ n) (h1 : n ≤ 1048576) (hs : s.size ≤ 4000000) : impl_padded.f s n = some (s ++ zb (n - s.size).toNat) := by
  unfold impl_padded.f
  rw [w64 (by omega) (by omega)]
  have hm : mx 0 (n - (s.size : Int)) = (((n - s.size).toNat : Nat) : Int) := by
    show (if (0 : Int) < n - (s.size : Int) then n - (s.size : Int) else 0) = _
    split <;> omega
  rw [hm, repeat_eq _ (by omega), Option.bind_some, if_pos (by rw [zb_size]; omega)]

/-! ### wordsof16 -/
theorem pad8 (s : ByteArray) (h : s.size = 8) : impl_padded.f s 8 = some s := by
  rw [padded_eq s 8 (by omega) (by omega) (by omega), h]
  congr 1
  refine b_inj ?_
  rw [b_app, show (8 - ((8 : Nat) : Int)).toNat = 0 from rfl, zb_list]
  simp
theorem wordsOf16 (l : List Int) (hl : l.length = 16) : Ev (fun k => impl_wordsOf.f k (strOfNums l)) [strOfNums (l.take 8), strOfNums (l.drop 8)] := by
  have hz : (strOfNums l).size = 16 := by rw [strOfNums_size, hl]
  have w1 : wrap64 (0 + 8) = 8 := by have := w64 (x := 0 + 8) (by omega) (by omega); omega
  have w2 : wrap64 (8 + 8) = 16 := by have := w64 (x := 8 + 8) (by omega) (by omega); omega
  have m1 : mn (wrap64 (0 + 8)) (((strOfNums l).size : Nat) : Int) = 8 := by rw [hz, w1]; decide
  have m2 : mn (wrap64 (8 + 8)) (((strOfNums l).size : Nat) : Int) = 16 := by rw [hz, w2]; decide
  have e1 : (strOfNums l).extract (0 : Int).toNat (8 : Int).toNat = strOfNums (l.take 8) := by rw [son_cut]; simp
  have e2 : (strOfNums l).extract (8 : Int).toNat (16 : Int).toNat = strOfNums (l.drop 8) := by rw [son_cut, List.take_of_length_le (show l.length ≤ (16 : Int).toNat by rw [hl]; decide)]; rfl
  have s1 : (strOfNums (l.take 8)).size = 8 := by rw [strOfNums_size, List.length_take]; omega
  have s2 : (strOfNums (l.drop 8)).size = 8 := by rw [strOfNums_size, List.length_drop]; omega
  unfold impl_wordsOf.f
  refine Ev.step (impl_wordsOf.l0.eq_2 _ _ _) ?_
  rw [m1, e1, pad8 _ s1]
  refine ev_pos (by omega) (ev_pos (by omega) (ev_pos (by omega) (ev_pos (by omega) (Ev.bind (Ev.now _) (ev_pos (by simp) ?_)))))
  rw [w1]
  refine Ev.step (impl_wordsOf.l0.eq_2 _ _ _) ?_
  rw [m2, e2, pad8 _ s2]
  refine ev_pos (by omega) (ev_pos (by omega) (ev_pos (by omega) (ev_pos (by omega) (Ev.bind (Ev.now _) (ev_pos (by simp) ?_)))))
  rw [w2]
  refine Ev.step (impl_wordsOf.l0.eq_2 _ _ _) ?_
  exact ev_neg (by omega) (ev_now rfl)

/-! ### statesok_i -/
theorem iBad_l (xs : List Int) (hn : xs.length ≤ 4000000) : ∀ i : Nat, i ≤ xs.length → ∃ r : Int, Ev (fun k => slices_IndexFunc_int.l0 k xs xs.length i) r ∧ (okL (xs.drop i) = true → r = -1) ∧ (okL (xs.drop i) = false → 0 ≤ r)
  | i, hi => by
    by_cases h : i < xs.length
    · by_cases hv : 0 ≤ xs[i] ∧ xs[i] ≤ 2
      · obtain ⟨r, h1, h2, h3⟩ := iBad_l xs hn (i + 1) (by omega)
        refine ⟨r, ?_, ?_, ?_⟩
        · refine Ev.step (slices_IndexFunc_int.l0.eq_2 _ _ _) ?_
          refine ev_pos (by omega) (ev_pos (by omega) (ev_pos (by omega) ?_))
          rw [rd_at _ i h, w64s i (by omega)]
          refine Ev.bind (a := false) (by unfold impl_StatesOk_1.f; exact Ev.bind (ev_eq (within_eq _ _ _)) (ev_now (by rw [decide_eq_true hv]; rfl))) (ev_neg (by simp) h1)
        · rw [drop_at xs i h]; simp only [okL, decide_eq_true hv, Bool.true_and]; exact h2
        · rw [drop_at xs i h]; simp only [okL, decide_eq_true hv, Bool.true_and]; exact h3
      · refine ⟨i, ?_, ?_, ?_⟩
        · refine Ev.step (slices_IndexFunc_int.l0.eq_2 _ _ _) ?_
          refine ev_pos (by omega) (ev_pos (by omega) (ev_pos (by omega) ?_))
          rw [rd_at _ i h]
          refine Ev.bind (a := true) (by unfold impl_StatesOk_1.f; exact Ev.bind (ev_eq (within_eq _ _ _)) (ev_now (by rw [decide_eq_false hv]; rfl))) (ev_pos rfl (ev_now rfl))
        · rw [drop_at xs i h]; simp only [okL, decide_eq_false hv, Bool.false_and]; intro hc; cases hc
        · intro _; omega
    · refine ⟨-1, ?_, fun _ => rfl, ?_⟩
      · refine Ev.step (slices_IndexFunc_int.l0.eq_2 _ _ _) ?_
        exact ev_neg (by omega) (ev_now rfl)
      · rw [List.drop_of_length_le (by omega)]; intro hc; cases hc
  termination_by i => xs.length - i
theorem iStatesOk_ev (xs : List Int) (p : Int) (hn : xs.length ≤ 4000000) : Ev (fun k => impl_StatesOk.f k xs p) (stB xs p) := by
  obtain ⟨r, h1, h2, h3⟩ := iBad_l xs hn 0 (by omega)
  rw [List.drop_zero] at h2 h3
  unfold impl_StatesOk.f
  refine Ev.bind (ev_eq (within_eq _ _ _)) ?_
  unfold stB
  by_cases hp : 1 ≤ p ∧ p ≤ 12
  · refine ev_pos (by simpa using hp) ?_
    by_cases hl : (xs.length : Int) = p
    · refine ev_pos hl ?_
      refine Ev.bind (a := decide (r ≥ 0)) (by unfold slices_ContainsFunc_int.f slices_IndexFunc_int.f; exact Ev.bind h1 (ev_now rfl)) (ev_now ?_)
      cases ho : okL xs with
      | true => rw [h2 ho]; simp [hl, hp]
      | false => have := h3 ho; simp; omega
    · exact ev_neg hl (ev_now (by simp [hl]))
  · exact ev_neg (by simpa using hp) (ev_now (by rw [decide_eq_false hp]; simp))

/-! ### stateswords_i -/
theorem iSW_l (xs : List Int) (hl : xs.length ≤ 12) (hv : ∀ n ∈ xs, 0 ≤ n ∧ n ≤ 2) : ∀ i : Nat, i ≤ xs.length → Ev (fun k => impl_StatesWords.l0 k (xs.take i) xs xs.length i) [strOfNums ((stB16 xs).take 8), strOfNums ((stB16 xs).drop 8)]
  | i, hi => by
    refine Ev.step (impl_StatesWords.l0.eq_2 _ _ _ _) ?_
    by_cases h : i < xs.length
    · have hb := hv _ (List.getElem_mem h)
      refine ev_pos (by omega) (ev_pos (by omega) (ev_pos (by omega) (ev_pos (by rw [List.length_take]; omega) ?_)))
      rw [rd_at _ i h, w64s i (by omega), show xs[i] % 256 = xs[i] by omega, ← List.take_succ_eq_append_getElem h]
      exact iSW_l xs hl hv (i + 1) (by omega)
    · have : i = xs.length := by omega
      subst this
      rw [List.take_length]
      have hz : (strOfNums xs).size = xs.length := strOfNums_size xs
      have e : strOfNums xs ++ zb ((16 : Int) - ((strOfNums xs).size : Int)).toNat = strOfNums (stB16 xs) := by
        unfold stB16
        rw [son_zeros, hz]
        congr 2
        omega
      refine ev_neg (by omega) (Ev.bind (ev_eq (padded_eq _ 16 (by omega) (by omega) (by omega))) ?_)
      rw [e]
      exact Ev.bind (wordsOf16 _ (by unfold stB16; simp; omega)) (ev_now rfl)
  termination_by i => xs.length - i
theorem iSW_ev (xs : List Int) (hn : xs.length ≤ 4000000) : Ev (fun k => impl_StatesWords.f k xs) (stW xs) := by
  unfold impl_StatesWords.f
  refine Ev.bind (iStatesOk_ev xs xs.length hn) ?_
  unfold stW
  by_cases h : stB xs xs.length = true
  · obtain ⟨h1, h2⟩ := stB_parts h
    have := iSW_l xs h1 h2 0 (by omega)
    exact ev_pos h (ev_to this (by rw [if_pos h]))
  · exact ev_neg h (ev_now (by rw [if_neg h]))

/-! ### readstates_i -/
theorem iRS_l (ws : List ByteArray) (p : Nat) (hp : p ≤ 12) (hw : ws.length ≤ 4000000) (y : ByteArray) (hy : y.size = 16) : ∀ i : Nat, i ≤ p → Ev (fun k => impl_ReadStates.l0 k ws y (pre y i) p i) (rsT ws p y)
  | i, hi => by
    refine Ev.step (impl_ReadStates.l0.eq_2 _ _ _ _ _) ?_
    have hl := pre_len y i
    by_cases h : i < p
    · refine ev_pos (by omega) (ev_pos (by omega) (ev_pos (by omega) (ev_pos (by omega) ?_)))
      rw [w64s i (by omega)]
      exact iRS_l ws p hp hw y hy (i + 1) (by omega)
    · have : i = p := by omega
      subst this
      refine ev_neg (by omega) (Ev.bind (iSW_ev _ (by omega)) (Ev.bind (iWords_ev _ _ (by have := stW_len (pre y i); omega)) ?_))
      by_cases he : eqW (stW (pre y i)) ws = true
      · exact ev_pos he (ev_now (by unfold rsT; rw [if_pos he]))
      · exact ev_neg he (ev_now (by unfold rsT; rw [if_neg he]))
  termination_by i => p - i
theorem iRS_j (ws : List ByteArray) (p : Int) (h : rsOk ws p) : Ev (fun k => impl_ReadStates.j0 k ws p false) (rsV ws p) := by
  have hv : rsV ws p = rsT ws p.toNat (rsY ws) := by unfold rsV; rw [if_pos h]
  obtain ⟨h1, h2, h3, h4, h5⟩ := h
  refine Ev.step (impl_ReadStates.j0.eq_2 _ _ _) ?_
  refine ev_neg (by simp) (ev_pos (by omega) (ev_pos (by omega) (ev_pos (by omega) (Ev.bind (Ev.now _) ?_))))
  rw [hv]
  have hy : (rsY ws).size = 16 := by unfold rsY; rw [ByteArray.size_append]; omega
  have := iRS_l ws p.toNat (by omega) (by omega) (rsY ws) hy 0 (by omega)
  rw [show ((p.toNat : Nat) : Int) = p by omega] at this
  exact this
theorem iRS_ev (ws : List ByteArray) (p : Int) : Ev (fun k => impl_ReadStates.f k ws p) (rsV ws p) := by
  have bad : ¬ rsOk ws p → Ev (fun k => impl_ReadStates.j0 k ws p true) (rsV ws p) := by
    intro h
    refine Ev.step (impl_ReadStates.j0.eq_2 _ _ _) ?_
    exact ev_pos rfl (ev_now (by unfold rsV; rw [if_neg h]))
  unfold impl_ReadStates.f
  by_cases h1 : (ws.length : Int) = 2
  · refine ev_pos h1 (ev_pos (by omega) ?_)
    by_cases h2 : ((rdOf ByteArray.empty ws 0).size : Int) = 8
    · refine ev_pos h2 (ev_pos (by omega) ?_)
      by_cases h3 : ((rdOf ByteArray.empty ws 1).size : Int) = 8
      · refine ev_pos h3 (Ev.bind (ev_eq (within_eq _ _ _)) ?_)
        by_cases h4 : 1 ≤ p ∧ p ≤ 12
        · rw [decide_eq_true h4]
          exact iRS_j ws p ⟨by omega, by omega, by omega, h4.1, h4.2⟩
        · rw [decide_eq_false h4]
          exact bad (fun h => h4 h.2.2.2)
      · exact ev_neg h3 (bad (fun h => h3 (by have := h.2.2.1; omega)))
    · exact ev_neg h2 (bad (fun h => h2 (by have := h.2.1; omega)))
  · exact ev_neg h1 (bad (fun h => h1 (by have := h.1; omega)))

/-! ### pageswith -/
def withS (a : Int) (xs : List Int) (i : Nat) : List Int := match xs with
  | [] => []
  | x :: r => if x = a then (i : Int) :: withS a r (i + 1) else withS a r (i + 1)
theorem withS_len (a : Int) (xs : List Int) : ∀ i, (withS a xs i).length ≤ xs.length := by
  induction xs with
  | nil => intro i; simp [withS]
  | cons x r ih => intro i; simp only [withS]; split <;> simp <;> have := ih (i + 1) <;> omega
theorem sPagesWith_l (xs : List Int) (a : Int) (hn : xs.length ≤ 1048576) : ∀ (i : Nat) (o : List Int), i ≤ xs.length → o.length ≤ i → Ev (fun k => spec_PagesWith.l0 k xs a o i) (o ++ withS a (xs.drop i) i)
  | i, o, hi, ho => by
    refine Ev.step (spec_PagesWith.l0.eq_2 _ _ _ _) ?_
    by_cases h : i < xs.length
    · refine ev_pos (by omega) (ev_pos (by omega) ?_)
      rw [rd_at xs i h, w64s i (by omega), drop_at xs i h]
      simp only [withS]
      by_cases he : xs[i] = a
      · rw [if_pos he]
        exact ev_pos he (ev_pos (by omega) (ev_to (sPagesWith_l xs a hn (i + 1) _ (by omega) (by simp; omega)) (by simp)))
      · rw [if_neg he]
        exact ev_neg he (sPagesWith_l xs a hn (i + 1) _ (by omega) (by omega))
    · refine ev_neg (by omega) (ev_now ?_)
      rw [List.drop_of_length_le (by omega)]; simp [withS]
  termination_by i => xs.length - i
theorem iPagesWith_l (xs : List Int) (a : Int) (hn : xs.length ≤ 1048576) : ∀ (i : Nat) (o : List Int), i ≤ xs.length → o.length ≤ i → Ev (fun k => impl_PagesWith.l0 k a o xs xs.length i) (o ++ withS a (xs.drop i) i)
  | i, o, hi, ho => by
    refine Ev.step (impl_PagesWith.l0.eq_2 _ _ _ _ _) ?_
    by_cases h : i < xs.length
    · refine ev_pos (by omega) (ev_pos (by omega) (ev_pos (by omega) ?_))
      rw [rd_at xs i h, w64s i (by omega), drop_at xs i h]
      simp only [withS]
      by_cases he : xs[i] = a
      · rw [if_pos he]
        exact ev_pos he (ev_pos (by omega) (ev_to (iPagesWith_l xs a hn (i + 1) _ (by omega) (by simp; omega)) (by simp)))
      · rw [if_neg he]
        exact ev_neg he (iPagesWith_l xs a hn (i + 1) _ (by omega) (by omega))
    · refine ev_neg (by omega) (ev_now ?_)
      rw [List.drop_of_length_le (by omega)]; simp [withS]
  termination_by i => xs.length - i
theorem sPagesWith_ev (xs : List Int) (a : Int) (hn : xs.length ≤ 1048576) : Ev (fun k => spec_PagesWith.f k xs a) (withS a xs 0) := by
  unfold spec_PagesWith.f
  simpa using sPagesWith_l xs a hn 0 [] (by omega) (by simp)
theorem iPagesWith_ev (xs : List Int) (a : Int) (hn : xs.length ≤ 1048576) : Ev (fun k => impl_PagesWith.f k xs a) (withS a xs 0) := by
  unfold impl_PagesWith.f
  simpa using iPagesWith_l xs a hn 0 [] (by omega) (by simp)

/-! ### firstclean -/
def fcl (xs : List Int) (n : Int) : List Int × Bool := if 0 ≤ n ∧ n ≤ ((withS 0 xs 0).length : Int) then ((withS 0 xs 0).take n.toNat, true) else ([], false)
theorem fcl_len (xs : List Int) (n : Int) : (fcl xs n).1.length ≤ xs.length := by
  have := withS_len 0 xs 0
  unfold fcl
  split
  · simp; omega
  · simp

theorem iFirst_ev (xs : List Int) (n : Int) (hn : xs.length ≤ 1048576) : Ev (fun k => impl_FirstClean.f k xs n) (fcl xs n) := by
  unfold impl_FirstClean.f fcl
  have hw := withS_len 0 xs 0
  refine Ev.bind (iPagesWith_ev xs 0 hn) (Ev.bind (ev_eq (within_eq _ _ _)) ?_)
  by_cases h : 0 ≤ n ∧ n ≤ ((withS 0 xs 0).length : Int)
  · rw [if_pos h]
    exact ev_pos (by simpa using h) (ev_pos (by omega) (ev_pos (by omega) (Ev.bind (ev_eq (clone_int_eq _ (by simp; omega))) (ev_now rfl))))
  · rw [if_neg h]
    exact ev_neg (by simpa using h) (ev_now rfl)

/-! ### btn -/
theorem btn (a : ByteArray) (i : Nat) (h : i < a.data.toList.length) : bt a (i : Int) = ((a.data.toList[i]).toNat : Int) := by
  have h2 : i < a.size := by rw [b_len] at h; exact h
  rw [← bt_at a (i : Int) (by simpa using h2)]
  simp only [Int.toNat_natCast]; rfl

/-! ### FnStates -/
theorem place_eq (xs : List Int) (hn : xs.length ≤ 4000000) (i h : Int) (hi : crs 4000000 i) : ∃ x i' h', spec_l01Place.f xs i h 12 = some (x, i', h') ∧ crs 4000000 i' := by
  unfold spec_l01Place.f spec_l01Once.f
  obtain ⟨b, i1, h1, e, b0, b1, hi1⟩ := below_eq xs hn i h hi 15 (by omega) (by omega)
  rw [e, Option.bind_some, Option.bind_some]
  by_cases hb : (b == 0) = true
  · rw [if_pos hb]
    obtain ⟨x, i2, h2, e2, _, hi2⟩ := pick_eq xs hn i1 h1 hi1 [-1, 12, wrap64 (12 + 1), 9223372036854775807, -9223372036854775808] (by simp) (by simp)
    exact ⟨x, i2, h2, by rw [e2, Option.bind_some], hi2⟩
  · rw [if_neg hb]
    obtain ⟨x, i2, h2, e2, _, _, hi2⟩ := below_eq xs hn i1 h1 hi1 12 (by omega) (by omega)
    exact ⟨x, i2, h2, by rw [e2, Option.bind_some], hi2⟩
theorem list_l (xs : List Int) (hn : xs.length ≤ 4000000) : ∀ (f n : Nat) (acc : List Int) (i h : Int), n + f = 12 → acc.length = n → crs 4000000 i → ∃ r i' h', Ev (fun k => spec_l13List.l0 k acc (n : Int) xs i h) (r, i', h') ∧ 1 ≤ r.length ∧ r.length ≤ 12 ∧ crs 4000000 i'
  | f, n, acc, i, h, hf, ha, hi => by
    obtain ⟨b, i1, h1, e, b0, b1, hi1⟩ := below_eq xs hn i h hi 12 (by omega) (by omega)
    by_cases hc : (n : Int) < 1 + b
    · cases f with
      | zero => omega
      | succ f =>
        obtain ⟨c, i2, h2, e2, c0, c1, hi2⟩ := below_eq xs hn i1 h1 hi1 3 (by omega) (by omega)
        obtain ⟨r, i3, h3, hr, r1, r2, hi3⟩ := list_l xs hn f (n + 1) (acc ++ [c]) i2 h2 (by omega) (by simp [ha]) hi2
        refine ⟨r, i3, h3, ?_, r1, r2, hi3⟩
        refine Ev.step (spec_l13List.l0.eq_2 _ _ _ _ _) ?_
        refine Ev.bind (ev_eq e) ?_
        dsimp only
        rw [w64 (x := 1 + b) (by omega) (by omega), w64s n (by omega)]
        exact ev_pos hc (Ev.bind (ev_eq e2) (ev_pos (by omega) hr))
    · refine ⟨acc, i1, h1, ?_, by omega, by omega, hi1⟩
      refine Ev.step (spec_l13List.l0.eq_2 _ _ _ _ _) ?_
      refine Ev.bind (ev_eq e) ?_
      dsimp only
      rw [w64 (x := 1 + b) (by omega) (by omega)]
      exact ev_neg hc (ev_now rfl)
theorem zeros_l (xs : List Int) (i h : Int) : ∀ (f : Nat) (acc : List Int), acc.length + f = 13 → ∃ r, Ev (fun k => spec_l13Any.l0 k acc xs i h) (r, i, h) ∧ r.length ≤ 13
  | f, acc, hf => by
    cases f with
    | zero =>
      refine ⟨acc, ?_, by omega⟩
      refine Ev.step (spec_l13Any.l0.eq_2 _ _ _ _) ?_
      exact ev_neg (by omega) (ev_now rfl)
    | succ f =>
      obtain ⟨r, hr, h2⟩ := zeros_l xs i h f (acc ++ [0]) (by simp; omega)
      refine ⟨r, ?_, h2⟩
      refine Ev.step (spec_l13Any.l0.eq_2 _ _ _ _) ?_
      exact ev_pos (by omega) (ev_pos (by omega) hr)
theorem any_ev (xs : List Int) (hn : xs.length ≤ 4000000) (i h : Int) (hi : crs 4000000 i) : ∃ r i' h', Ev (fun k => spec_l13Any.f k xs i h) (r, i', h') ∧ r.length ≤ 13 ∧ crs 4000000 i' := by
  unfold spec_l13Any.f spec_l13List.f
  obtain ⟨l, i1, h1, el, l1, l2, hi1⟩ := list_l xs hn 12 0 [] i h (by omega) rfl hi
  obtain ⟨b, i2, h2, e, b0, b1, hi2⟩ := below_eq xs hn i1 h1 hi1 8 (by omega) (by omega)
  by_cases c0 : b = 0
  · obtain ⟨x, i3, h3, e3, _, hi3⟩ := pick_eq xs hn i2 h2 hi2 [3, -1] (by simp) (by simp)
    exact ⟨_, i3, h3, Ev.bind el (Ev.bind (ev_eq e) (ev_pos c0 (Ev.bind (ev_eq e3) (ev_pos (by dsimp only; omega) (ev_now rfl))))), by simp; omega, hi3⟩
  · by_cases c1 : b = 1
    · obtain ⟨r, hr, h3⟩ := zeros_l xs i2 h2 (13 - l.length) l (by omega)
      exact ⟨r, i2, h2, Ev.bind el (Ev.bind (ev_eq e) (ev_neg c0 (ev_pos c1 hr))), h3, hi2⟩
    · by_cases c2 : b = 2
      · exact ⟨_, i2, h2, Ev.bind el (Ev.bind (ev_eq e) (ev_neg c0 (ev_neg c1 (ev_pos c2 (ev_now rfl))))), by simp, hi2⟩
      · exact ⟨l, i2, h2, Ev.bind el (Ev.bind (ev_eq e) (ev_neg c0 (ev_neg c1 (ev_neg c2 (ev_now rfl))))), by omega, hi2⟩
theorem drawW_l (xs : List Int) (hn : xs.length ≤ 4000000) (s : List Int) : ∀ (f n : Nat) (acc : List Int) (i h : Int), n + f = 5 → acc.length = n → crs 4000000 i → ∃ ps st, Ev (fun k => spec_DrawWithState.l0 k s acc (n : Int) xs i h) (s, ps, st) ∧ ps.length ≤ 5
  | f, n, acc, i, h, hf, ha, hi => by
    obtain ⟨b, i1, h1, e, b0, b1, hi1⟩ := below_eq xs hn i h hi 5 (by omega) (by omega)
    by_cases hc : (n : Int) < b
    · cases f with
      | zero => omega
      | succ f =>
        obtain ⟨c, i2, h2, e2, hi2⟩ := place_eq xs hn i1 h1 hi1
        obtain ⟨ps, st, hr, r1⟩ := drawW_l xs hn s f (n + 1) (acc ++ [c]) i2 h2 (by omega) (by simp [ha]) hi2
        refine ⟨ps, st, ?_, r1⟩
        refine Ev.step (spec_DrawWithState.l0.eq_2 _ _ _ _ _ _) ?_
        refine Ev.bind (ev_eq e) ?_
        dsimp only
        rw [w64s n (by omega)]
        exact ev_pos hc (Ev.bind (ev_eq e2) (ev_pos (by omega) hr))
    · obtain ⟨c, i2, h2, e2, c0, c1, hi2⟩ := below_eq xs hn i1 h1 hi1 3 (by omega) (by omega)
      refine ⟨acc, c, ?_, by omega⟩
      refine Ev.step (spec_DrawWithState.l0.eq_2 _ _ _ _ _ _) ?_
      refine Ev.bind (ev_eq e) (ev_neg hc (Ev.bind (ev_eq e2) (ev_now rfl)))
theorem drawW_ev (xs : List Int) (hn : xs.length ≤ 4000000) : ∃ s ps st, Ev (fun k => spec_DrawWithState.f k xs) (s, ps, st) ∧ s.length ≤ 13 ∧ ps.length ≤ 5 := by
  unfold spec_DrawWithState.f
  obtain ⟨r, hr⟩ := new_ev xs hn
  obtain ⟨s, i1, h1, hs, s1, hi1⟩ := any_ev xs hn 0 r ⟨by omega, by omega⟩
  obtain ⟨ps, st, hp, p1⟩ := drawW_l xs hn s 5 0 [] i1 h1 (by omega) rfl hi1
  exact ⟨s, ps, st, Ev.bind hr (Ev.bind hs hp), s1, p1⟩
theorem pre_son (l : List Int) (hv : ∀ x ∈ l, 0 ≤ x ∧ x ≤ 2) : ∀ n : Nat, n ≤ l.length → pre (strOfNums l) n = l.take n
  | 0, _ => by simp [pre]
  | n + 1, h => by
    have ih := pre_son l hv n (by omega)
    have hx := hv l[n] (List.getElem_mem _)
    have hd : n < (strOfNums l).data.toList.length := by rw [strOfNums_data, List.length_map]; omega
    have hb : bt (strOfNums l) (n : Int) = l[n] := by
      rw [btn _ n hd]
      simp only [strOfNums_data, List.getElem_map]
      rw [UInt8.toNat_ofNat']
      omega
    unfold pre
    rw [ih, hb, w64 (by omega) (by omega), List.take_succ_eq_append_getElem (by omega)]
theorem rs_back (xs : List Int) (h : stB xs xs.length = true) : rsV (stW xs) (xs.length : Int) = (xs, true) := by
  obtain ⟨hl, hv⟩ := stB_parts h
  have h1 : 1 ≤ xs.length := by simp only [stB, Bool.and_eq_true, decide_eq_true_eq] at h; omega
  have hL : (stB16 xs).length = 16 := by unfold stB16; rw [List.length_append, List.length_replicate]; omega
  have hW : stW xs = [strOfNums ((stB16 xs).take 8), strOfNums ((stB16 xs).drop 8)] := by unfold stW; rw [if_pos h]
  have hv16 : ∀ x ∈ stB16 xs, 0 ≤ x ∧ x ≤ 2 := by
    intro x hx
    unfold stB16 at hx
    rcases List.mem_append.1 hx with hx | hx
    · exact hv x hx
    · have := (List.mem_replicate.1 hx).2; omega
  have e0 : rdOf ByteArray.empty (stW xs) 0 = strOfNums ((stB16 xs).take 8) := by rw [hW]; rfl
  have e1 : rdOf ByteArray.empty (stW xs) 1 = strOfNums ((stB16 xs).drop 8) := by rw [hW]; rfl
  have hok : rsOk (stW xs) (xs.length : Int) := by
    refine ⟨by rw [hW]; rfl, ?_, ?_, by omega, by omega⟩
    · rw [e0, strOfNums_size, List.length_take]; omega
    · rw [e1, strOfNums_size, List.length_drop]; omega
  have hy : rsY (stW xs) = strOfNums (stB16 xs) := by
    unfold rsY
    rw [e0, e1]
    refine b_inj ?_
    rw [b_app, strOfNums_data, strOfNums_data, strOfNums_data, ← List.map_append, List.take_append_drop]
  have hp : pre (strOfNums (stB16 xs)) xs.length = xs := by
    rw [pre_son (stB16 xs) hv16 _ (by omega)]
    unfold stB16
    rw [List.take_append_of_le_length (Nat.le_refl _), List.take_length]
  unfold rsV
  rw [if_pos hok, hy, Int.toNat_natCast]
  unfold rsT
  rw [hp, if_pos (by simp [eqW])]
theorem with_sum (xs : List Int) : ∀ i : Nat, okL xs = true → (withS 0 xs i).length + (withS 1 xs i).length + (withS 2 xs i).length = xs.length := by
  induction xs with
  | nil => intro i _; simp [withS]
  | cons x r ih =>
    intro i h
    simp only [okL, Bool.and_eq_true, decide_eq_true_eq] at h
    have := ih (i + 1) h.2
    have hx := h.1
    simp only [withS]
    by_cases h0 : x = 0
    · subst h0; simp; omega
    · by_cases h1 : x = 1
      · subst h1; simp; omega
      · have h2 : x = 2 := by omega
        subst h2; simp; omega
theorem FnStates : laws_FnStates.Law := by
  intro xs hx
  apply Ev.rounds
  unfold laws_FnStates.f laws_big.f
  refine Ev.bind (Ev.now _) ?_
  by_cases hb : (xs.length : Int) > 1048576
  · exact ev_pos (decide_eq_true hb) (ev_now rfl)
  refine ev_neg (by simpa using hb) ?_
  obtain ⟨s, ps, st, hd, s1, p1⟩ := drawW_ev xs (by omega)
  have hl := setAll_len st ps s
  refine Ev.step (laws_FnStates.j0.eq_2 _) ?_
  refine Ev.bind hd (Ev.bind (iWith_ev s ps st (by omega) (by omega)) (Ev.bind (sWith_ev s ps st (by omega) (by omega)) (Ev.bind (same_ev _ (by omega)) (ev_pos rfl ?_))))
  refine Ev.step (laws_FnStates.j1.eq_2 _) ?_
  refine Ev.bind (sStatesOk_ev s _ (by omega)) ?_
  by_cases h : stB s (s.length : Int) = true
  · refine ev_pos h ?_
    have hok := h
    simp only [stB, Bool.and_eq_true, decide_eq_true_eq] at hok
    have hs := with_sum s 0 hok.1
    have hrs := iRS_ev (stW s) (s.length : Int)
    rw [rs_back s h] at hrs
    have l0 := withS_len 0 s 0
    have l1 := withS_len 1 s 0
    have l2 := withS_len 2 s 0
    have hso := iStatesOk_ev s (s.length : Int) (by omega)
    rw [h] at hso
    refine Ev.step (laws_FnStates.j2.eq_2 _) ?_
    refine Ev.bind (iSW_ev s (by omega)) (Ev.bind hrs (Ev.bind (iPagesWith_ev s 0 (by omega)) (Ev.bind (iPagesWith_ev s 1 (by omega)) (Ev.bind (iPagesWith_ev s 2 (by omega)) (Ev.bind (iFirst_ev s 1 (by omega)) ?_)))))
    refine ev_pos rfl (Ev.bind (same_ev s (by omega)) (ev_pos rfl (ev_pos ?_ (Ev.bind (sPagesWith_ev s 0 (by omega)) ?_))))
    · dsimp only
      rw [w64 (x := ((withS 0 s 0).length : Int) + ((withS 1 s 0).length : Int)) (by omega) (by omega), w64 (by omega) (by omega)]; omega
    · unfold fcl
      by_cases hc : 1 ≤ (withS 0 s 0).length
      · rw [if_pos (by omega : (0 : Int) ≤ 1 ∧ (1 : Int) ≤ ((withS 0 s 0).length : Int))]
        have ht : ((withS 0 s 0).take (1 : Int).toNat).length = 1 := by rw [List.length_take]; show min 1 _ = 1; omega
        refine ev_pos ?_ (ev_pos rfl (ev_pos ?_ (ev_pos ?_ (Ev.bind (sPagesWith_ev s 0 (by omega)) (ev_pos (by omega) (ev_pos ?_ (Ev.bind hso (ev_now rfl))))))))
        · rw [beq_iff_eq]; symm; rw [decide_eq_true_eq]; omega
        · dsimp only; omega
        · dsimp only; omega
        · dsimp only
          have hz : ∃ y r, withS 0 s 0 = y :: r := List.exists_cons_of_ne_nil (List.length_pos_iff.1 (by omega))
          obtain ⟨y, r, hy⟩ := hz
          rw [hy]; rfl
      · rw [if_neg (by omega)]
        refine ev_pos ?_ (ev_neg (by simp) (Ev.bind hso (ev_now rfl)))
        rw [beq_iff_eq]; symm; rw [decide_eq_false_iff_not]; omega
  · refine ev_neg h ?_
    have hW : stW s = [] := by unfold stW; rw [if_neg h]
    have hsw := iSW_ev s (by omega)
    rw [hW] at hsw
    have h0 : (stW [0]).length = 2 := by unfold stW; rw [if_pos (by decide)]; rfl
    refine Ev.bind hsw (ev_pos rfl (Ev.bind (iSW_ev [0] (by simp)) (ev_now ?_)))
    rw [h0]; rfl

end Go.Proofs.Ytcdnfkoahajhhaa.Pure
