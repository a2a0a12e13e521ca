/- The pure statement of FnExactReadInode is proved: for all arguments within the row's own bounds the Lean function that the law's walk comes to answers true. Conditions: none beyond these bounds. -/
import Derived.Test.YtjfhddenmnjgbaaDoorStFnExactReadInode
import Derived.Test.YtjfhddenmnjgbaaDoorBase
namespace Go.Proofs.YtjfhddenmnjgbaaDoor.Pure
open Go.RowKit Go.Proofs.YtjfhddenmnjgbaaDoor.PFnExactReadInode Go.Proofs.YtjfhddenmnjgbaaDoorW.PrintWords Go.Proofs.YtjfhddenmnjgbaaDoorW.PrintLast Go.Proofs.YtjfhddenmnjgbaaDoor.Base
set_option linter.unusedVariables false
set_option linter.unusedSimpArgs false
/-! ### t_Rec -/

def wiRec (x : S42) : Nat := x.f2.size + (0)

def wiRecS (xs : List S42) : Nat := xs.length + sumBy wiRec xs




theorem rdiRec (xs : List S42) (i : Nat) (h : i < xs.length) : rd_T42 xs (i : Int) = xs[i] := getD_at _ xs i h


theorem eqRec_ev (x : S42) : Ev (fun _ => laws_eqRec.f x.f0 x.f1 x.f2 x.f0 x.f1 x.f2) true := ev_eq (by simp [laws_eqRec.f])
theorem eqRecS_l (xs : List S42) (hn : wiRecS xs ≤ 4000000) : ∀ (i : Nat), i ≤ xs.length → Ev (fun k => laws_eqRecS.l0 k xs xs i) true
  | i, hi => by
    have hn2 : xs.length ≤ 4000000 := by unfold wiRecS at hn; omega
    refine Ev.step (laws_eqRecS.l0.eq_2 _ _ _) ?_
    by_cases h : i < xs.length
    · refine ev_pos (by omega) (ev_pos (by omega) (ev_pos (by omega) ?_))
      rw [w64s i (by omega), rdiRec xs i h]
      exact Ev.bind (eqRec_ev _) (ev_pos rfl (eqRecS_l xs hn (i + 1) (by omega)))
    · exact ev_neg (by omega) (ev_now rfl)
  termination_by i => xs.length - i
theorem eqRecS_ev (xs : List S42) (hn : wiRecS xs ≤ 4000000) : Ev (fun k => laws_eqRecS.f k xs xs) true := by
  unfold laws_eqRecS.f
  exact ev_pos rfl (eqRecS_l xs hn 0 (by omega))


/-! ### t_Entry -/

def wiEntry (x : S47) : Nat := x.f1.size + (0)

def wiEntryS (xs : List S47) : Nat := xs.length + sumBy wiEntry xs




theorem rdiEntry (xs : List S47) (i : Nat) (h : i < xs.length) : rd_T47 xs (i : Int) = xs[i] := getD_at _ xs i h


theorem eqEntry_ev (x : S47) : Ev (fun _ => laws_eqEntry.f x.f0 x.f1 x.f0 x.f1) true := ev_eq (by simp [laws_eqEntry.f])
theorem eqEntryS_l (xs : List S47) (hn : wiEntryS xs ≤ 4000000) : ∀ (i : Nat), i ≤ xs.length → Ev (fun k => laws_eqEntryS.l0 k xs xs i) true
  | i, hi => by
    have hn2 : xs.length ≤ 4000000 := by unfold wiEntryS at hn; omega
    refine Ev.step (laws_eqEntryS.l0.eq_2 _ _ _) ?_
    by_cases h : i < xs.length
    · refine ev_pos (by omega) (ev_pos (by omega) (ev_pos (by omega) ?_))
      rw [w64s i (by omega), rdiEntry xs i h]
      exact Ev.bind (eqEntry_ev _) (ev_pos rfl (eqEntryS_l xs hn (i + 1) (by omega)))
    · exact ev_neg (by omega) (ev_now rfl)
  termination_by i => xs.length - i
theorem eqEntryS_ev (xs : List S47) (hn : wiEntryS xs ≤ 4000000) : Ev (fun k => laws_eqEntryS.f k xs xs) true := by
  unfold laws_eqEntryS.f
  exact ev_pos rfl (eqEntryS_l xs hn 0 (by omega))


/-! ### f_inode -/

theorem eqI_ev (kd sz ct : Int) (mk : ByteArray) (rs : List S42) (es : List S47) (hr : wiRecS rs ≤ 4000000) (he : wiEntryS es ≤ 4000000) : Ev (fun k => laws_eqInode.f k kd sz ct mk rs es kd sz ct mk rs es) true := by
  unfold laws_eqInode.f
  refine ev_pos rfl ?_
  refine ev_pos rfl ?_
  refine ev_pos rfl ?_
  refine ev_pos rfl ?_
  refine Ev.bind (eqRecS_ev rs (by omega)) (ev_pos rfl ?_)
  refine Ev.bind (eqEntryS_ev es (by omega)) (ev_pos rfl ?_)
  exact ev_now rfl


/-! ### markstrings -/
theorem mt_l (n : Nat) : ∀ o : ByteArray, o.size + 40 * (n + 1) ≤ 4000000000000000 → ∃ r : ByteArray, Ev (fun k => laws_markText.l0 k n o) r := by
  induction n using Nat.strongRecOn with
  | _ n ih =>
    intro o ho
    by_cases h : (n : Int) > 0
    · have hd : wrap64 (Int.tdiv (n : Int) 10) = ((n / 10 : Nat) : Int) := by
        rw [Int.tdiv_eq_ediv_of_nonneg (by omega), w64 (by omega) (by omega)]; omega
      obtain ⟨r, hr⟩ := ih (n / 10) (by omega) (strOfNums [wrap64 (48 + Int.tmod (n : Int) 10) % 256] ++ o) (by rw [ByteArray.size_append, strOfNums_size]; simp only [List.length_singleton]; omega)
      refine ⟨r, ?_⟩
      refine Ev.step (laws_markText.l0.eq_2 _ _) ?_
      refine ev_pos h (Ev.bind (Ev.now _) (ev_pos (by rw [strOfNums_size]; simp only [List.length_singleton]; omega) ?_))
      rw [hd]
      exact hr
    · refine ⟨(⟨#[109]⟩ : ByteArray) ++ o, ?_⟩
      refine Ev.step (laws_markText.l0.eq_2 _ _) ?_
      exact ev_neg h (ev_pos (by omega) (ev_now rfl))
noncomputable def mtx (n : Nat) : ByteArray := evv ⟨#[]⟩ (fun k => laws_markText.f k (n : Int))
theorem mtx_ev (n : Nat) (hn : n ≤ 4000000) : Ev (fun k => laws_markText.f k (n : Int)) (mtx n) := by
  unfold mtx
  apply evv_ev
  by_cases h : (n : Int) ≤ 0
  · exact ⟨_, by unfold laws_markText.f; exact ev_pos h (Ev.now _)⟩
  · have e0 : (⟨#[]⟩ : ByteArray).size = 0 := rfl
    obtain ⟨r, hr⟩ := mt_l n ⟨#[]⟩ (by omega)
    exact ⟨r, by unfold laws_markText.f; exact ev_neg h hr⟩
noncomputable def smarks (a n : Nat) : List ByteArray := (List.range' a n).map mtx
theorem smarks_len (a n : Nat) : (smarks a n).length = n := by simp [smarks]
theorem markStringS_l (n a : Nat) (hn : n ≤ 1048576) (ha : a ≤ 1048576) : ∀ (i : Nat) (ys : List ByteArray), i ≤ n → ys.length = n →
    Ev (fun k => laws_markStringS.l0 k ys ((a + i : Nat) : Int) i) (((a + n : Nat) : Int), ys.take i ++ smarks (a + i) (n - i))
  | i, ys, hi, hl => by
    refine Ev.step (laws_markStringS.l0.eq_2 _ _ _) ?_
    by_cases h : i < n
    · refine ev_pos (by omega) (Ev.bind (mtx_ev (a + i) (by omega)) (ev_pos (by omega) ?_))
      rw [w64s i (by omega), w64s (a + i) (by omega), Int.toNat_natCast]
      refine ev_to (markStringS_l n a hn ha (i + 1) (ys.set i _) (by omega) (by simp [hl])) ?_
      congr 1
      rw [List.take_succ_eq_append_getElem (by simp; omega)]
      simp only [List.getElem_set_self, List.append_assoc, List.take_set_of_le (Nat.le_refl i)]
      congr 1
      unfold smarks
      rw [show n - i = (n - (i + 1)) + 1 by omega, List.range'_succ]
      simp [Nat.add_assoc]
    · have : i = n := by omega
      subst this
      refine ev_neg (by omega) (ev_now ?_)
      simp [smarks, ← hl]
  termination_by i => n - i
theorem markStringS_ev (xs : List ByteArray) (a : Nat) (hn : xs.length ≤ 1048576) (ha : a ≤ 1048576) : Ev (fun k => laws_markStringS.f k xs (a : Int)) (((a + xs.length : Nat) : Int), smarks a xs.length) := by
  unfold laws_markStringS.f
  have := markStringS_l xs.length a hn ha 0 xs (by omega) rfl
  simpa using this



/-! ### marksinode -/
noncomputable def rmk (a i : Nat) : S42 := ⟨((a + 3 * i : Nat) : Int), ((a + 3 * i + 1 : Nat) : Int), mtx (a + 3 * i + 2)⟩
noncomputable def rmarks (a n : Nat) : List S42 := (List.range' 0 n).map (rmk a)
theorem rmarks_len (a n : Nat) : (rmarks a n).length = n := by simp [rmarks]
noncomputable def emk (a i : Nat) : S47 := ⟨((a + 2 * i : Nat) : Int), mtx (a + 2 * i + 1)⟩
noncomputable def emarks (a n : Nat) : List S47 := (List.range' 0 n).map (emk a)
theorem emarks_len (a n : Nat) : (emarks a n).length = n := by simp [emarks]
theorem rd_setR (ys : List S42) (x : S42) (i : Nat) (h : i < ys.length) : rd_T42 (ys.set i x) (i : Int) = x := by rw [rdiRec _ i (by simpa using h), List.getElem_set_self]
theorem rd_setE (ys : List S47) (x : S47) (i : Nat) (h : i < ys.length) : rd_T47 (ys.set i x) (i : Int) = x := by rw [rdiEntry _ i (by simpa using h), List.getElem_set_self]
theorem markRecS_m (n a : Nat) (hn : a + 3 * n ≤ 4000000) : ∀ (i : Nat) (ys : List S42), i ≤ n → ys.length = n →
    Ev (fun k => laws_markRecS.l0 k ys ((a + 3 * i : Nat) : Int) (i : Int)) (((a + 3 * n : Nat) : Int), ys.take i ++ (List.range' i (n - i)).map (rmk a))
  | i, ys, hi, hl => by
    refine Ev.step (laws_markRecS.l0.eq_2 _ _ _) ?_
    by_cases h : i < n
    · have e1 : wrap64 (((a + 3 * i : Nat) : Int) + 1) = ((a + 3 * i + 1 : Nat) : Int) := w64s _ (by omega)
      have e2 : wrap64 (((a + 3 * i + 1 : Nat) : Int) + 1) = ((a + 3 * i + 2 : Nat) : Int) := w64s _ (by omega)
      have e3 : wrap64 (((a + 3 * i + 2 : Nat) : Int) + 1) = ((a + 3 * (i + 1) : Nat) : Int) := by rw [show a + 3 * (i + 1) = a + 3 * i + 2 + 1 by omega]; exact w64s _ (by omega)
      refine ev_pos (by omega) (ev_pos (by omega) (Ev.bind (Ev.now _) (Ev.bind (Ev.now _) ?_)))
      rw [e1, e2, e3, Int.toNat_natCast, w64s i (by omega)]
      refine Ev.bind (mtx_ev _ (by omega)) ?_
      refine ev_to (markRecS_m n a hn (i + 1) _ (by omega) (by rw [List.length_set, List.length_set, List.length_set]; exact hl)) ?_
      rw [rd_setR ys _ i (by omega), rd_setR (ys.set i _) _ i (by rw [List.length_set]; omega)]
      simp only [List.set_set]
      congr 1
      rw [List.take_succ_eq_append_getElem (by simp; omega)]
      simp only [List.getElem_set_self, List.append_assoc, List.take_set_of_le (Nat.le_refl i)]
      congr 1
      rw [show n - i = (n - (i + 1)) + 1 by omega, List.range'_succ]
      rfl
    · have : i = n := by omega
      subst this
      refine ev_neg (by omega) (ev_now ?_)
      simp [← hl]
  termination_by i => n - i
theorem markEntryS_m (n a : Nat) (hn : a + 2 * n ≤ 4000000) : ∀ (i : Nat) (ys : List S47), i ≤ n → ys.length = n →
    Ev (fun k => laws_markEntryS.l0 k ys ((a + 2 * i : Nat) : Int) (i : Int)) (((a + 2 * n : Nat) : Int), ys.take i ++ (List.range' i (n - i)).map (emk a))
  | i, ys, hi, hl => by
    refine Ev.step (laws_markEntryS.l0.eq_2 _ _ _) ?_
    by_cases h : i < n
    · have e1 : wrap64 (((a + 2 * i : Nat) : Int) + 1) = ((a + 2 * i + 1 : Nat) : Int) := w64s _ (by omega)
      have e2 : wrap64 (((a + 2 * i + 1 : Nat) : Int) + 1) = ((a + 2 * (i + 1) : Nat) : Int) := by rw [show a + 2 * (i + 1) = a + 2 * i + 1 + 1 by omega]; exact w64s _ (by omega)
      refine ev_pos (by omega) (ev_pos (by omega) (Ev.bind (Ev.now _) ?_))
      rw [e1, e2, Int.toNat_natCast, w64s i (by omega)]
      refine Ev.bind (mtx_ev _ (by omega)) ?_
      refine ev_to (markEntryS_m n a hn (i + 1) _ (by omega) (by rw [List.length_set, List.length_set]; exact hl)) ?_
      rw [rd_setE ys _ i (by omega)]
      simp only [List.set_set]
      congr 1
      rw [List.take_succ_eq_append_getElem (by simp; omega)]
      simp only [List.getElem_set_self, List.append_assoc, List.take_set_of_le (Nat.le_refl i)]
      congr 1
      rw [show n - i = (n - (i + 1)) + 1 by omega, List.range'_succ]
      rfl
    · have : i = n := by omega
      subst this
      refine ev_neg (by omega) (ev_now ?_)
      simp [← hl]
  termination_by i => n - i
theorem markInode_m (kd sz ct : Int) (mk : ByteArray) (rs : List S42) (es : List S47) (hre : 1 + 3 * rs.length + 2 * es.length ≤ 4000000) : Ev (fun k => laws_markInode.f k kd sz ct mk rs es 1) (((1 + 3 * rs.length + 2 * es.length : Nat) : Int), rmarks 1 rs.length, emarks (1 + 3 * rs.length) es.length) := by
  have h1 := markRecS_m rs.length 1 (by omega) 0 rs (by omega) rfl
  have h2 := markEntryS_m es.length (1 + 3 * rs.length) (by omega) 0 es (by omega) rfl
  rw [List.take_zero, List.nil_append, Nat.sub_zero] at h1 h2
  unfold laws_markInode.f laws_markRecS.f laws_markEntryS.f
  exact Ev.bind h1 (Ev.bind h2 (ev_now rfl))
theorem heldRecS_l (n a : Nat) (hn : a + 3 * n ≤ 4000000) : ∀ (i : Nat), i ≤ n → Ev (fun k => laws_heldRecS.l0 k (rmarks a n) ((a + 3 * i : Nat) : Int) (i : Int)) ((a + 3 * n : Nat) : Int)
  | i, hi => by
    refine Ev.step (laws_heldRecS.l0.eq_2 _ _ _) ?_
    have hl := rmarks_len a n
    by_cases h : i < n
    · have e1 : wrap64 (((a + 3 * i : Nat) : Int) + 1) = ((a + 3 * i + 1 : Nat) : Int) := w64s _ (by omega)
      have e2 : wrap64 (((a + 3 * i + 1 : Nat) : Int) + 1) = ((a + 3 * i + 2 : Nat) : Int) := w64s _ (by omega)
      have e3 : wrap64 (((a + 3 * i + 2 : Nat) : Int) + 1) = ((a + 3 * (i + 1) : Nat) : Int) := by rw [show a + 3 * (i + 1) = a + 3 * i + 2 + 1 by omega]; exact w64s _ (by omega)
      have he : rd_T42 (rmarks a n) (i : Int) = rmk a i := by
        rw [rdiRec _ i (by omega)]; simp [rmarks]
      rw [he, e1, e2, e3, w64s i (by omega)]
      exact ev_pos (by omega) (ev_pos (by omega) (ev_pos rfl (ev_pos rfl (Ev.bind (mtx_ev _ (by omega)) (ev_pos rfl (heldRecS_l n a hn (i + 1) (by omega)))))))
    · have : i = n := by omega
      subst this
      exact ev_neg (by omega) (ev_now rfl)
  termination_by i => n - i
theorem heldEntryS_l (n a : Nat) (hn : a + 2 * n ≤ 4000000) : ∀ (i : Nat), i ≤ n → Ev (fun k => laws_heldEntryS.l0 k (emarks a n) ((a + 2 * i : Nat) : Int) (i : Int)) ((a + 2 * n : Nat) : Int)
  | i, hi => by
    refine Ev.step (laws_heldEntryS.l0.eq_2 _ _ _) ?_
    have hl := emarks_len a n
    by_cases h : i < n
    · have e1 : wrap64 (((a + 2 * i : Nat) : Int) + 1) = ((a + 2 * i + 1 : Nat) : Int) := w64s _ (by omega)
      have e2 : wrap64 (((a + 2 * i + 1 : Nat) : Int) + 1) = ((a + 2 * (i + 1) : Nat) : Int) := by rw [show a + 2 * (i + 1) = a + 2 * i + 1 + 1 by omega]; exact w64s _ (by omega)
      have he : rd_T47 (emarks a n) (i : Int) = emk a i := by
        rw [rdiEntry _ i (by omega)]; simp [emarks]
      rw [he, e1, e2, w64s i (by omega)]
      exact ev_pos (by omega) (ev_pos (by omega) (ev_pos rfl (Ev.bind (mtx_ev _ (by omega)) (ev_pos rfl (heldEntryS_l n a hn (i + 1) (by omega))))))
    · have : i = n := by omega
      subst this
      exact ev_neg (by omega) (ev_now rfl)
  termination_by i => n - i
theorem heldInode_m (kd sz ct : Int) (mk : ByteArray) (n m : Nat) (h : 1 + 3 * n + 2 * m ≤ 4000000) : Ev (fun k => laws_heldInode.f k kd sz ct mk (rmarks 1 n) (emarks (1 + 3 * n) m) 1) ((1 + 3 * n + 2 * m : Nat) : Int) := by
  unfold laws_heldInode.f laws_heldRecS.f laws_heldEntryS.f
  exact Ev.bind (heldRecS_l n 1 (by omega) 0 (by omega)) (ev_neg (by omega) (Ev.bind (heldEntryS_l m (1 + 3 * n) (by omega) 0 (by omega)) (ev_neg (by omega) (ev_now rfl))))


/-! ### szstrings -/
def wtS (s : ByteArray) : Nat := s.size
def wtSS (xs : List ByteArray) : Nat := xs.length + sumBy wtS xs
theorem rd_str (xs : List ByteArray) (i : Nat) (h : i < xs.length) : rdOf ByteArray.empty xs (i : Int) = xs[i] := rdOf_at _ xs i h
theorem szStringS_l (xs : List ByteArray) (hn : xs.length ≤ 1048576) (hw : ∀ y ∈ xs, y.size ≤ 140737488351232) : ∀ (i : Nat) (a : Int), i ≤ xs.length → 0 ≤ a → a ≤ 1048576 →
    Ev (fun k => laws_szStringS.l0 k xs a i) (left a (sumBy wtS (xs.drop i)))
  | i, a, hi, h0, h1 => by
    refine Ev.step (laws_szStringS.l0.eq_2 _ _ _) ?_
    by_cases h : i < xs.length
    · refine ev_pos (by omega) (ev_pos (by omega) ?_)
      have hz := hw _ (List.getElem_mem h)
      rw [rd_str xs i h, w64s i (by omega), w64 (x := a - (xs[i].size : Int)) (by omega) (by omega), drop_at xs i h, sumBy_cons, ← left_add]
      have e : wtS xs[i] = xs[i].size := rfl
      by_cases h2 : a - (xs[i].size : Int) < 0
      · have h3 : left a (wtS xs[i]) < 0 := by unfold left; rw [if_neg (by omega)]; omega
        exact ev_pos h2 (ev_now (if_pos h3).symm)
      · have h3 : left a (wtS xs[i]) = a - xs[i].size := by unfold left; rw [if_pos (by omega), e]
        rw [h3, if_neg h2]
        exact ev_neg h2 (szStringS_l xs hn hw (i + 1) _ (by omega) (by omega) (by omega))
    · refine ev_neg (by omega) (ev_now ?_)
      rw [List.drop_of_length_le (by omega), sumBy_nil, left_zero h0]
  termination_by i => xs.length - i
theorem szStringS_ev (xs : List ByteArray) (hb : xs.length ≤ 140737488351232) (hw : ∀ y ∈ xs, y.size ≤ 140737488351232) (a : Int) (h0 : 0 ≤ a) (h1 : a ≤ 1048576) : Ev (fun k => laws_szStringS.f k xs a) (left a (wtSS xs)) := by
  unfold laws_szStringS.f
  rw [w64 (by omega) (by omega)]
  unfold wtSS
  rw [← left_add]
  by_cases h : a - (xs.length : Int) < 0
  · exact ev_pos h (ev_now (by rw [if_pos]; unfold left; rw [if_neg (by omega)]; omega))
  · have h2 : left a xs.length = a - xs.length := by unfold left; rw [if_pos (by omega)]
    have := szStringS_l xs (by omega) hw 0 (a - xs.length) (by omega) (by omega) (by omega)
    rw [List.drop_zero] at this
    exact ev_neg h (ev_to this (by rw [h2, if_neg h]))

/-! ### tostrings -/
theorem toStringS_l (xs : List ByteArray) (hn : xs.length ≤ 1048576) : ∀ (i : Nat) (ys : List ByteArray), i ≤ xs.length → ys.length = xs.length → ys.take i = xs.take i →
    Ev (fun k => laws_toStringS.l0 k xs ys i) xs
  | i, ys, hi, hl, ht => by
    refine Ev.step (laws_toStringS.l0.eq_2 _ _ _) ?_
    by_cases h : i < xs.length
    · refine ev_pos (by omega) (ev_pos (by omega) (ev_pos (by omega) ?_))
      rw [rdOf_at _ xs i h, w64s i (by omega), Int.toNat_natCast]
      exact toStringS_l xs hn (i + 1) _ (by omega) (by simp [hl]) (take_set hl ht h rfl)
    · have : i = xs.length := by omega
      subst this
      exact ev_neg (by omega) (ev_now (take_all hl ht))
  termination_by i => xs.length - i
theorem toStringS_ev (xs : List ByteArray) (hn : xs.length ≤ 1048576) : Ev (fun k => laws_toStringS.f k xs) xs := by
  unfold laws_toStringS.f
  exact ev_pos (by omega) (ev_pos (by omega) (toStringS_l xs hn 0 _ (by omega) (by simp) (by simp)))

/-! ### eqstrings -/
theorem eqStringS_l (xs : List ByteArray) (hn : xs.length ≤ 1048576) : ∀ (i : Nat), i ≤ xs.length → Ev (fun k => laws_eqStringS.l0 k xs xs i) true
  | i, hi => by
    refine Ev.step (laws_eqStringS.l0.eq_2 _ _ _) ?_
    by_cases h : i < xs.length
    · refine ev_pos (by omega) (ev_pos (by omega) (ev_pos (by omega) (ev_pos rfl ?_)))
      rw [w64s i (by omega)]
      exact eqStringS_l xs hn (i + 1) (by omega)
    · exact ev_neg (by omega) (ev_now rfl)
  termination_by i => xs.length - i
theorem eqStringS_ev (xs : List ByteArray) (hn : xs.length ≤ 1048576) : Ev (fun k => laws_eqStringS.f k xs xs) true := by
  unfold laws_eqStringS.f
  exact ev_pos rfl (eqStringS_l xs hn 0 (by omega))

/-! ### lin -/
theorem l01In_eq (a b c : Int) : spec_l01In.f a b c = some (decide (b ≤ a ∧ a ≤ c)) := by
  unfold spec_l01In.f
  by_cases h : a ≥ b
  · rw [if_pos h]; congr 1; simp; omega
  · rw [if_neg h]; congr 1; simp; omega

/-! ### within -/
theorem within_eq (a b c : Int) : impl_within.f a b c = some (decide (b ≤ a ∧ a ≤ c)) := by
  unfold impl_within.f
  by_cases h : a ≥ b
  · rw [if_pos h]; congr 1; simp; omega
  · rw [if_neg h]; congr 1; simp; omega

/-! ### numtext -/
theorem u64w (x : Int) (h0 : 0 ≤ x) (h1 : x < 18446744073709551616) : IntKind.u64.wrap x = x := by
  have b : IntKind.u64.bits = 64 := rfl
  have s : IntKind.u64.signed = false := rfl
  simp only [IntKind.wrap, b, s, Bool.false_and, Bool.false_eq_true, if_false]
  omega
def dg (n : Int) (i : Nat) : Int := n / 2 ^ (8 * i) % 256
def dn (n : Int) : Nat → List Int
  | 0 => []
  | i + 1 => dg n i :: dn n i
theorem dn_len (n : Int) (w : Nat) : (dn n w).length = w := by
  induction w with
  | zero => rfl
  | succ w ih => simp [dn, ih]
theorem dn_get (n : Int) : ∀ (w p : Nat) (h : p < (dn n w).length), (dn n w)[p] = dg n (w - 1 - p)
  | 0, p, h => by simp [dn] at h
  | w + 1, 0, h => by simp [dn]
  | w + 1, p + 1, h => by
    simp only [dn, List.getElem_cons_succ]
    rw [dn_get n w p (by simpa [dn] using h)]
    congr 1; omega
theorem shr_eq (n : Int) (i : Nat) (h : i ≤ 7) (y : Int) (hy : y = 8 * (i : Int)) : shr .i64 n y = n / 2 ^ (8 * i) := by
  subst hy
  have e : (8 * (i : Int)).toNat = 8 * i := by omega
  have b : IntKind.i64.bits = 64 := rfl
  unfold shr
  rw [e, b, Nat.min_eq_left (by omega)]
def ntOk (n : Int) (w : Nat) : Prop := 0 ≤ n ∧ 1 ≤ w ∧ w ≤ 7 ∧ n < 2 ^ (8 * w)
open Classical in
noncomputable def nt (n : Int) (w : Nat) : ByteArray := if ntOk n w then strOfNums (dn n w) else ⟨#[]⟩
theorem sNum_l (n : Int) (w : Nat) (hw : w ≤ 7) : ∀ (i : Nat) (o : List Int), i ≤ w → o.length ≤ 7 → o.length + i ≤ 7 → Ev (fun k => spec_NumText.l0 k n o ((i : Int) - 1)) (strOfNums (o ++ dn n i))
  | 0, o, hi, ho, hs => by
    refine Ev.step (spec_NumText.l0.eq_2 _ _ _) ?_
    refine ev_neg (by omega) (ev_now ?_)
    simp [dn]
  | i + 1, o, hi, ho, hs => by
    refine Ev.step (spec_NumText.l0.eq_2 _ _ _) ?_
    have e : ((i + 1 : Nat) : Int) - 1 = (i : Int) := by omega
    rw [e, u64w (i : Int) (by omega) (by omega), u64w (8 * (i : Int)) (by omega) (by omega), shr_eq n i (by omega) _ rfl, w64 (x := (i : Int) - 1) (by omega) (by omega)]
    refine ev_pos (by omega) (ev_pos (by omega) (ev_pos (by omega) (ev_to (sNum_l n w hw i _ (by omega) (by simp; omega) (by simp; omega)) ?_)))
    simp [dn, dg]
theorem pow_le (w : Nat) (h : w ≤ 7) : (1 : Int) ≤ 2 ^ (8 * w) ∧ (2 : Int) ^ (8 * w) ≤ 72057594037927936 := by
  have : w = 0 ∨ w = 1 ∨ w = 2 ∨ w = 3 ∨ w = 4 ∨ w = 5 ∨ w = 6 ∨ w = 7 := by omega
  rcases this with h | h | h | h | h | h | h | h <;> subst h <;> decide
theorem div_pos (n : Int) (w : Nat) (hw : w ≤ 7) (h0 : 0 ≤ n) : n / 2 ^ (8 * w) > 0 ↔ ¬ n < 2 ^ (8 * w) := by
  have hp := pow_le w hw
  constructor
  · intro h hl
    have := Int.ediv_eq_zero_of_lt h0 hl
    omega
  · intro h
    exact (Int.le_ediv_iff_mul_le (by omega)).2 (by omega)
theorem sNum_ev (n : Int) (w : Nat) (hw : w ≤ 7) (h1 : 1 ≤ w) : Ev (fun k => spec_NumText.f k n (w : Int)) (nt n w) := by
  unfold spec_NumText.f
  have bad : ¬ ntOk n w → Ev (fun k => spec_NumText.j0 k n w true) (nt n w) := by
    intro h
    unfold nt
    rw [if_neg h]
    refine Ev.step (spec_NumText.j0.eq_2 _ _ _) ?_
    exact ev_pos rfl (ev_now rfl)
  by_cases h0 : n < 0
  · exact ev_pos h0 (bad (fun h => by have := h.1; omega))
  · refine ev_neg h0 (Ev.bind (ev_eq (l01In_eq _ _ _)) (ev_pos (by simp; omega) ?_))
    rw [u64w (w : Int) (by omega) (by omega), u64w (8 * (w : Int)) (by omega) (by omega), shr_eq n w hw _ rfl]
    refine ev_pos (by omega) ?_
    by_cases hl : n < 2 ^ (8 * w)
    · have hz : ¬ n / 2 ^ (8 * w) > 0 := fun h => (div_pos n w hw (by omega)).1 h hl
      rw [decide_eq_false hz]
      refine Ev.step (spec_NumText.j0.eq_2 _ _ _) ?_
      refine ev_neg (by simp) ?_
      rw [w64 (by omega) (by omega)]
      refine ev_to (sNum_l n w hw w [] (Nat.le_refl _) (by simp) (by simp; omega)) ?_
      unfold nt
      rw [if_pos ⟨by omega, h1, hw, hl⟩]
      simp
    · have hz : n / 2 ^ (8 * w) > 0 := (div_pos n w hw (by omega)).2 hl
      rw [decide_eq_true hz]
      exact bad (fun h => hl h.2.2.2)
theorem iNum_l (n : Int) (w : Nat) (hw : w ≤ 7) : ∀ (p : Nat) (ys : List Int), p ≤ w → ys.length = w → ys.take p = (dn n w).take p → Ev (fun k => impl_NumText.l0 k n w ys w p) (strOfNums (dn n w))
  | p, ys, hp, hl, ht => by
    have hd := dn_len n w
    refine Ev.step (impl_NumText.l0.eq_2 _ _ _ _ _) ?_
    by_cases h : p < w
    · rw [w64 (x := (w : Int) - 1) (by omega) (by omega), w64 (x := (w : Int) - 1 - p) (by omega) (by omega), w64 (x := 8 * ((w : Int) - 1 - p)) (by omega) (by omega), w64s p (by omega), shr_eq n (w - 1 - p) (by omega) _ (by omega), Int.toNat_natCast]
      refine ev_pos (by omega) (ev_pos (by omega) (ev_pos (by omega) (ev_pos (by omega) ?_)))
      exact iNum_l n w hw (p + 1) _ (by omega) (by simp [hl]) (take_set (by omega) ht (by omega) (by rw [dn_get]; rfl))
    · have : p = w := by omega
      subst this
      refine ev_neg (by omega) (ev_now ?_)
      rw [show ys = dn n p from take_all (xs := dn n p) (by omega) (by rw [hd]; exact ht)]
  termination_by p => w - p
theorem shl_eq (w : Nat) (hw : w ≤ 7) : shl .i64 1 (8 * (w : Int)) = 2 ^ (8 * w) := by
  have : w = 0 ∨ w = 1 ∨ w = 2 ∨ w = 3 ∨ w = 4 ∨ w = 5 ∨ w = 6 ∨ w = 7 := by omega
  rcases this with h | h | h | h | h | h | h | h <;> subst h <;> decide
theorem iNum_ev (n : Int) (w : Nat) (hw : w ≤ 7) (h1 : 1 ≤ w) : Ev (fun k => impl_NumText.f k n (w : Int)) (nt n w) := by
  unfold impl_NumText.f
  have bad : ¬ ntOk n w → Ev (fun k => impl_NumText.j0 k n w true) (nt n w) := by
    intro h
    unfold nt
    rw [if_neg h]
    refine Ev.step (impl_NumText.j0.eq_2 _ _ _) ?_
    exact ev_pos rfl (ev_now rfl)
  by_cases h0 : n < 0
  · exact ev_pos h0 (bad (fun h => by have := h.1; omega))
  · refine ev_neg h0 (Ev.bind (ev_eq (within_eq _ _ _)) (ev_pos (by simp; omega) ?_))
    rw [w64 (x := 8 * (w : Int)) (by omega) (by omega), shl_eq w hw]
    refine ev_pos (by omega) ?_
    by_cases hl : n < 2 ^ (8 * w)
    · rw [decide_eq_false (by omega)]
      refine Ev.step (impl_NumText.j0.eq_2 _ _ _) ?_
      refine ev_neg (by simp) (ev_pos (by omega) (ev_pos (by omega) (Ev.bind (Ev.now _) ?_)))
      rw [Int.toNat_natCast]
      have := iNum_l n w hw 0 (List.replicate w 0) (by omega) (by simp) (by simp)
      rw [List.length_replicate]
      refine ev_to this ?_
      unfold nt
      rw [if_pos ⟨by omega, h1, hw, hl⟩]
    · rw [decide_eq_true (by omega)]
      exact bad (fun h => hl h.2.2.2)
theorem nt_size (n : Int) (w : Nat) : (nt n w).size ≤ w := by
  unfold nt
  split
  · have := dn_len n w
    unfold strOfNums
    rw [b_size, List.length_map]; omega
  · show 0 ≤ w; omega

/-! ### zerotext -/
theorem long_l (n : Nat) (hn : n ≤ 1048576) : ∀ (i : Nat) (ys : List Int), i ≤ n → ys.length = n → (∀ y ∈ ys, y = 0) → Ev (fun k => spec_l01Long.l0 k n 0 ys i) (strOfNums ys)
  | i, ys, hi, hl, hz => by
    refine Ev.step (spec_l01Long.l0.eq_2 _ _ _ _) ?_
    by_cases h : i < n
    · refine ev_pos (by omega) (ev_pos (by omega) (ev_pos (by omega) ?_))
      rw [w64s i (by omega), Int.toNat_natCast]
      have e : ys.set i 0 = ys := by
        apply List.ext_getElem (by simp)
        intro j h1 h2
        rw [List.getElem_set]
        split
        · exact (hz _ (List.getElem_mem h2)).symm
        · rfl
      rw [e]
      exact long_l n hn (i + 1) ys (by omega) hl hz
    · exact ev_neg (by omega) (ev_now rfl)
  termination_by i => n - i
theorem long_ev (n : Nat) (hn : n ≤ 1048576) : Ev (fun k => spec_l01Long.f k n 0) (zb n) := by
  unfold spec_l01Long.f
  refine ev_pos (by omega) (ev_pos (by omega) (ev_to (long_l n hn 0 _ (by omega) (by simp) (by simp)) ?_))
  simp [strOfNums, zb]
theorem zeroText_ev (n : Nat) (hn : n ≤ 20000) : Ev (fun k => spec_ZeroText.f k (n : Int)) (zb n) := by
  unfold spec_ZeroText.f
  exact Ev.bind (ev_eq (l01In_eq _ _ _)) (ev_pos (by simp; omega) (Ev.bind (long_ev n (by omega)) (ev_now rfl)))

/-! ### padded -/
theorem repeat_eq (n : Nat) (h : n ≤ 1048576) : strings_Repeat.f (⟨#[0]⟩ : ByteArray) (n : Int) = some (zb n) := by
  unfold strings_Repeat.f
  have h1 : (⟨#[0]⟩ : ByteArray).size = 1 := rfl
  rw [if_pos ⟨by omega, by omega, by rw [Int.toNat_natCast, h1]; omega⟩]
  congr 1
  unfold zb
  rw [← repeat_zero, Int.toNat_natCast]
theorem padded_eq (s : ByteArray) (n : Int) (h0 : 0 ≤ n) (h1 : n ≤ 1048576) (hs : s.size ≤ 4000000) : impl_padded.f s n = some (s ++ zb (n - s.size).toNat) := by
  unfold impl_padded.f
  rw [w64 (by omega) (by omega)]
  have hm : mx 0 (n - (s.size : Int)) = (((n - s.size).toNat : Nat) : Int) := by
    show (if (0 : Int) < n - (s.size : Int) then n - (s.size : Int) else 0) = _
    split <;> omega
  rw [hm, repeat_eq _ (by omega), Option.bind_some, if_pos (by rw [zb_size]; omega)]

/-! ### wordtext -/
def wdT (s : ByteArray) : ByteArray := if s.size > 8 then ⟨#[]⟩ else s ++ zb (8 - s.size)
theorem sWord_ev (s : ByteArray) (hs : s.size ≤ 4000000) : Ev (fun k => spec_WordText.f k s) (wdT s) := by
  unfold spec_WordText.f wdT
  by_cases h : s.size > 8
  · rw [if_pos h]; exact ev_pos (by omega) (ev_now rfl)
  · rw [if_neg h]
    refine ev_neg (by omega) ?_
    rw [show (8 : Int) - (s.size : Int) = ((8 - s.size : Nat) : Int) by omega]
    exact Ev.bind (zeroText_ev _ (by omega)) (ev_pos (by rw [zb_size]; omega) (ev_now rfl))
theorem iWord_eq (s : ByteArray) (hs : s.size ≤ 4000000) : impl_WordText.f s = some (wdT s) := by
  unfold impl_WordText.f wdT
  by_cases h : s.size > 8
  · rw [if_pos h, if_pos (by omega)]
  · rw [if_neg h, if_neg (by omega), padded_eq s 8 (by omega) (by omega) hs, Option.bind_some, show ((8 : Int) - (s.size : Int)).toNat = 8 - s.size by omega]

/-! ### btn -/
theorem btn (a : ByteArray) (i : Nat) (h : i < a.data.toList.length) : bt a (i : Int) = ((a.data.toList[i]).toNat : Int) := by
  have h2 : i < a.size := by rw [b_len] at h; exact h
  rw [← bt_at a (i : Int) (by simpa using h2)]
  simp only [Int.toNat_natCast]; rfl

/-! ### entryword -/
def nmB (b : Int) : Bool := decide (97 ≤ b ∧ b ≤ 122) || decide (48 ≤ b ∧ b ≤ 57)
def nmV (a : ByteArray) : Bool := a.data.toList.all (fun x => nmB (x.toNat : Int)) && decide (1 ≤ (a.size : Int) ∧ (a.size : Int) ≤ 7)
theorem nm_step (a : ByteArray) (i : Nat) (h : i < a.data.toList.length) : (a.data.toList.drop i).all (fun x => nmB (x.toNat : Int)) = (nmB (bt a (i : Int)) && (a.data.toList.drop (i + 1)).all (fun x => nmB (x.toNat : Int))) := by
  rw [btn a i h]
  rw [show a.data.toList.drop i = a.data.toList[i] :: a.data.toList.drop (i + 1) from List.drop_eq_getElem_cons h, List.all_cons]
theorem bt_byte (a : ByteArray) (i : Nat) (h : i < a.data.toList.length) : 0 ≤ bt a (i : Int) ∧ bt a (i : Int) ≤ 255 := by
  rw [btn a i h]
  have := (a.data.toList[i]).toNat_lt
  omega
theorem sName_l (a : ByteArray) (ha : a.size ≤ 4000000) : ∀ i : Nat, i ≤ a.size → Ev (fun k => spec_NameOk.l0 k a (i : Int)) ((a.data.toList.drop i).all (fun x => nmB (x.toNat : Int)) && decide (1 ≤ (a.size : Int) ∧ (a.size : Int) ≤ 7))
  | i, hi => by
    have hl := b_len a
    refine Ev.step (spec_NameOk.l0.eq_2 _ _) ?_
    by_cases h : i < a.size
    · have hb := bt_byte a i (by omega)
      rw [nm_step a i (by omega)]
      refine ev_pos (by omega) (ev_pos (by omega) ?_)
      rw [w64 (x := bt a (i : Int)) (by omega) (by omega), l01In_eq, w64s i (by omega)]
      refine Ev.bind (Ev.now _) ?_
      have ih := sName_l a ha (i + 1) (by omega)
      unfold nmB at ih ⊢
      by_cases h1 : 97 ≤ bt a (i : Int) ∧ bt a (i : Int) ≤ 122
      · exact ev_pos (decide_eq_true h1) (ev_to ih (by simp [h1]))
      · rw [l01In_eq]
        refine ev_neg (by simpa using h1) (Ev.bind (Ev.now _) ?_)
        by_cases h2 : 48 ≤ bt a (i : Int) ∧ bt a (i : Int) ≤ 57
        · exact ev_pos (decide_eq_true h2) (ev_to ih (by simp [h2]))
        · exact ev_neg (by simpa using h2) (ev_now (by rw [decide_eq_false h1, decide_eq_false h2]; simp))
    · rw [l01In_eq (a.size : Int) 1 7, List.drop_of_length_le (by omega)]
      exact ev_neg (by omega) (Ev.bind (Ev.now _) (ev_now (by simp)))
  termination_by i => a.size - i
theorem sName_ev (a : ByteArray) (ha : a.size ≤ 4000000) : Ev (fun k => spec_NameOk.f k a) (nmV a) := by
  unfold spec_NameOk.f nmV
  exact ev_to (sName_l a ha 0 (by omega)) (by rw [List.drop_zero])
theorem iName_l (a : ByteArray) (ha : a.size ≤ 4000000) : ∀ i : Nat, i ≤ a.size → Ev (fun k => impl_NameOk.l0 k a (a.size : Int) (i : Int)) ((a.data.toList.drop i).all (fun x => nmB (x.toNat : Int)) && decide (1 ≤ (a.size : Int) ∧ (a.size : Int) ≤ 7))
  | i, hi => by
    have hl := b_len a
    refine Ev.step (impl_NameOk.l0.eq_2 _ _ _) ?_
    by_cases h : i < a.size
    · have hb := bt_byte a i (by omega)
      rw [nm_step a i (by omega)]
      refine ev_pos (by omega) (ev_pos (by omega) (ev_pos (by omega) ?_))
      rw [w64s i (by omega)]
      have ih := iName_l a ha (i + 1) (by omega)
      unfold nmB at ih ⊢
      have low : Ev (fun k => if bt a (i : Int) ≥ 48 then (if bt a (i : Int) ≤ 57 then impl_NameOk.l0 k a (a.size : Int) ((i + 1 : Nat) : Int) else some false) else some false) (decide (48 ≤ bt a (i : Int) ∧ bt a (i : Int) ≤ 57) && ((a.data.toList.drop (i + 1)).all (fun x => decide (97 ≤ (x.toNat : Int) ∧ (x.toNat : Int) ≤ 122) || decide (48 ≤ (x.toNat : Int) ∧ (x.toNat : Int) ≤ 57)) && decide (1 ≤ (a.size : Int) ∧ (a.size : Int) ≤ 7))) := by
        by_cases h1 : bt a (i : Int) ≥ 48
        · by_cases h2 : bt a (i : Int) ≤ 57
          · exact ev_pos h1 (ev_pos h2 (ev_to ih (by rw [decide_eq_true (show 48 ≤ bt a (i : Int) ∧ bt a (i : Int) ≤ 57 from ⟨h1, h2⟩), Bool.true_and])))
          · exact ev_pos h1 (ev_neg h2 (ev_now (by rw [decide_eq_false (fun hc => h2 hc.2), Bool.false_and])))
        · exact ev_neg h1 (ev_now (by rw [decide_eq_false (fun hc => h1 hc.1), Bool.false_and]))
      by_cases h1 : bt a (i : Int) ≥ 97
      · by_cases h2 : bt a (i : Int) ≤ 122
        · exact ev_pos h1 (ev_pos h2 (ev_to ih (by rw [decide_eq_true (show 97 ≤ bt a (i : Int) ∧ bt a (i : Int) ≤ 122 from ⟨h1, h2⟩), Bool.true_or, Bool.true_and])))
        · exact ev_pos h1 (ev_neg h2 (ev_to low (by rw [decide_eq_false (show ¬ (97 ≤ bt a (i : Int) ∧ bt a (i : Int) ≤ 122) from fun hc => h2 hc.2), Bool.false_or, Bool.and_assoc])))
      · exact ev_neg h1 (ev_to low (by rw [decide_eq_false (show ¬ (97 ≤ bt a (i : Int) ∧ bt a (i : Int) ≤ 122) from fun hc => h1 hc.1), Bool.false_or, Bool.and_assoc]))
    · rw [within_eq, List.drop_of_length_le (by omega)]
      exact ev_neg (by omega) (Ev.bind (Ev.now _) (ev_now (by simp)))
  termination_by i => a.size - i
theorem iName_ev (a : ByteArray) (ha : a.size ≤ 4000000) : Ev (fun k => impl_NameOk.f k a) (nmV a) := by
  unfold impl_NameOk.f nmV
  exact ev_to (iName_l a ha 0 (by omega)) (by rw [List.drop_zero])
noncomputable def enV (a : Int) (t : ByteArray) : ByteArray := if (1 ≤ a ∧ a ≤ 5) ∧ nmV t = true then wdT (nt a 1 ++ t) else ⟨#[]⟩
theorem sEnt_j (a : Int) (t : ByteArray) (ht : t.size ≤ 2000000) (z : Bool) : Ev (fun k => spec_EntryWord.j0 k z a t) (if z = true then ⟨#[]⟩ else wdT (nt a 1 ++ t)) := by
  refine Ev.step (spec_EntryWord.j0.eq_2 _ _ _) ?_
  have z1 := nt_size a 1
  cases z with
  | true => exact ev_pos rfl (ev_now rfl)
  | false => exact ev_neg (by simp) (Ev.bind (sNum_ev a 1 (by omega) (by omega)) (ev_pos (by omega) (Ev.bind (sWord_ev _ (by rw [ByteArray.size_append]; omega)) (ev_now rfl))))
theorem sEnt_ev (a : Int) (t : ByteArray) (ht : t.size ≤ 2000000) : Ev (fun k => spec_EntryWord.f k a t) (enV a t) := by
  unfold spec_EntryWord.f enV
  rw [l01In_eq]
  refine Ev.bind (Ev.now _) ?_
  by_cases h1 : 1 ≤ a ∧ a ≤ 5
  · refine ev_pos (decide_eq_true h1) (Ev.bind (sName_ev t (by omega)) (ev_to (sEnt_j a t ht _) ?_))
    by_cases h2 : nmV t = true
    · rw [if_neg (by simp [h2]), if_pos ⟨h1, h2⟩]
    · rw [if_pos (by simp at h2; simp [h2]), if_neg (fun h => h2 h.2)]
  · exact ev_neg (by simpa using h1) (ev_to (sEnt_j a t ht true) (by rw [if_pos rfl, if_neg (fun h => h1 h.1)]))
theorem iEnt_j (a : Int) (t : ByteArray) (ht : t.size ≤ 2000000) (z : Bool) : Ev (fun k => impl_EntryWord.j0 k z a t) (if z = true then ⟨#[]⟩ else wdT (nt a 1 ++ t)) := by
  refine Ev.step (impl_EntryWord.j0.eq_2 _ _ _) ?_
  have z1 := nt_size a 1
  cases z with
  | true => exact ev_pos rfl (ev_now rfl)
  | false => exact ev_neg (by simp) (Ev.bind (iNum_ev a 1 (by omega) (by omega)) (ev_pos (by omega) (Ev.bind (ev_eq (iWord_eq _ (by rw [ByteArray.size_append]; omega))) (ev_now rfl))))
theorem iEnt_ev (a : Int) (t : ByteArray) (ht : t.size ≤ 2000000) : Ev (fun k => impl_EntryWord.f k a t) (enV a t) := by
  unfold impl_EntryWord.f enV
  rw [within_eq]
  refine Ev.bind (Ev.now _) ?_
  by_cases h1 : 1 ≤ a ∧ a ≤ 5
  · refine ev_pos (decide_eq_true h1) (Ev.bind (iName_ev t (by omega)) (ev_to (iEnt_j a t ht _) ?_))
    by_cases h2 : nmV t = true
    · rw [if_neg (by simp [h2]), if_pos ⟨h1, h2⟩]
    · rw [if_pos (by simp at h2; simp [h2]), if_neg (fun h => h2 h.2)]
  · exact ev_neg (by simpa using h1) (ev_to (iEnt_j a t ht true) (by rw [if_pos rfl, if_neg (fun h => h1 h.1)]))

/-! ### numat -/
def naG (s : ByteArray) : Nat → Nat → Int → Int
  | 0, _, n => n
  | f + 1, i, n => naG s f (i + 1) (256 * n + bt s (i : Int))
def naB : Nat → Int
  | 0 => 16777215
  | 1 => 65535
  | 2 => 255
  | _ => 0
theorem naB_step (f : Nat) (n b : Int) (h : n ≤ naB (f + 1)) (hf : f + 1 ≤ 3) (hb : b ≤ 255) : 256 * n + b ≤ naB f ∧ n ≤ 65535 := by
  have : f = 0 ∨ f = 1 ∨ f = 2 := by omega
  rcases this with rfl | rfl | rfl <;> simp only [naB] at h ⊢ <;> omega
theorem naB_nn (w : Nat) : 0 ≤ naB w := by
  unfold naB
  split <;> omega
theorem or_add (x y : Int) (h0 : 0 ≤ x) (h1 : x ≤ 65535) (y0 : 0 ≤ y) (y1 : y ≤ 255) : Go.bits .or .i64 (x * 256) y = 256 * x + y := by
  have p33 : (2 : Int) ^ 33 = 8589934592 := by decide
  have p8 : (2 : Int) ^ 8 = 256 := by decide
  have hw : ∀ n : Int, 0 ≤ n → n < 2 ^ 33 → IntKind.i64.wrap n = n := by
    intro n a b
    rw [i64_w]
    exact w64 (by omega) (by omega)
  have hj := Go.bits_join .i64 33 (by decide) hw 8 (x * 256) y (by omega) (by omega) (by omega) y0 (by omega) (by omega)
  rw [hj]
  omega
theorem sNA_l (s : ByteArray) (hs : s.size ≤ 4000000) (a w : Nat) : ∀ (f i : Nat) (n : Int), f ≤ 3 → 0 ≤ n → n ≤ naB f → i + f = a + w → a + w ≤ s.size → Ev (fun k => spec_NumAt.l0 k s (a : Int) (w : Int) n (i : Int)) (naG s f i n, true)
  | 0, i, n, hf, h0, h1, hi, hl => by
    refine Ev.step (spec_NumAt.l0.eq_2 _ _ _ _ _) ?_
    rw [w64 (x := (a : Int) + (w : Int)) (by omega) (by omega)]
    exact ev_neg (by omega) (ev_now rfl)
  | f + 1, i, n, hf, h0, h1, hi, hl => by
    refine Ev.step (spec_NumAt.l0.eq_2 _ _ _ _ _) ?_
    have hb := bt_byte s i (by rw [b_len]; omega)
    have hq := naB_step f n (bt s (i : Int)) h1 hf hb.2
    rw [w64 (x := (a : Int) + (w : Int)) (by omega) (by omega), w64 (x := 256 * n) (by omega) (by omega), w64 (x := bt s (i : Int)) (by omega) (by omega), w64 (x := 256 * n + bt s (i : Int)) (by omega) (by omega), w64s i (by omega)]
    exact ev_pos (by omega) (ev_pos (by omega) (ev_pos (by omega) (sNA_l s hs a w f (i + 1) _ (by omega) (by omega) hq.1 (by omega) hl)))
theorem sNA_ev (s : ByteArray) (hs : s.size ≤ 4000000) (a w : Nat) (h1 : 1 ≤ w) (h3 : w ≤ 3) (hl : a + w ≤ s.size) : Ev (fun k => spec_NumAt.f k s (a : Int) (w : Int)) (naG s w a 0, true) := by
  unfold spec_NumAt.f
  rw [l01In_eq]
  refine Ev.bind (Ev.now _) (ev_pos (decide_eq_true (by omega)) ?_)
  rw [l01In_eq, w64 (x := (s.size : Int) - (w : Int)) (by omega) (by omega)]
  refine Ev.bind (Ev.now _) ?_
  rw [decide_eq_true (show (0 : Int) ≤ (a : Int) ∧ (a : Int) ≤ (s.size : Int) - (w : Int) by omega)]
  refine Ev.step (spec_NumAt.j0.eq_2 _ _ _ _) ?_
  exact ev_neg (by simp) (sNA_l s hs a w w a 0 (by omega) (by omega) (naB_nn w) rfl hl)

theorem iNA_l (s : ByteArray) (hs : s.size ≤ 4000000) (a w : Nat) : ∀ (f j : Nat) (n : Int), f ≤ 3 → 0 ≤ n → n ≤ naB f → j + f = w → a + w ≤ s.size → Ev (fun k => impl_NumAt.l0 k s (a : Int) n (w : Int) (j : Int)) (naG s f (a + j) n, true)
  | 0, j, n, hf, h0, h1, hi, hl => by
    refine Ev.step (impl_NumAt.l0.eq_2 _ _ _ _ _) ?_
    exact ev_neg (by omega) (ev_now rfl)
  | f + 1, j, n, hf, h0, h1, hi, hl => by
    refine Ev.step (impl_NumAt.l0.eq_2 _ _ _ _ _) ?_
    have hb := bt_byte s (a + j) (by rw [b_len]; omega)
    have hq := naB_step f n (bt s ((a + j : Nat) : Int)) h1 hf hb.2
    rw [w64 (x := (a : Int) + (j : Int)) (by omega) (by omega), show (a : Int) + (j : Int) = ((a + j : Nat) : Int) by omega, w64 (x := n * 256) (by omega) (by omega), w64 (x := bt s ((a + j : Nat) : Int)) (by omega) (by omega), or_add n _ h0 hq.2 hb.1 hb.2, w64s j (by omega)]
    exact ev_pos (by omega) (ev_pos (by omega) (ev_pos (by omega) (iNA_l s hs a w f (j + 1) _ (by omega) (by omega) hq.1 (by omega) hl)))
theorem iNA_ev (s : ByteArray) (hs : s.size ≤ 4000000) (a w : Nat) (h1 : 1 ≤ w) (h3 : w ≤ 3) (hl : a + w ≤ s.size) : Ev (fun k => impl_NumAt.f k s (a : Int) (w : Int)) (naG s w a 0, true) := by
  unfold impl_NumAt.f
  refine ev_neg (by omega) ?_
  rw [within_eq, w64 (x := (s.size : Int) - (w : Int)) (by omega) (by omega)]
  refine Ev.bind (Ev.now _) (ev_pos (decide_eq_true (by omega)) ?_)
  rw [decide_eq_false (show ¬ ((a : Int) > (s.size : Int) - (w : Int)) by omega)]
  refine Ev.step (impl_NumAt.j0.eq_2 _ _ _ _) ?_
  exact ev_neg (by simp) (iNA_l s hs a w w 0 0 (by omega) (by omega) (naB_nn w) (by omega) hl)


/-! ### recword -/
noncomputable def recV (a b : Int) (t : ByteArray) : ByteArray := if (1 ≤ a ∧ a ≤ 12) ∧ (1 ≤ b ∧ b ≤ 16777215) ∧ t.size = 4 then nt a 1 ++ nt b 3 ++ t else ⟨#[]⟩
theorem sRec_j (a b : Int) (t : ByteArray) (ht : t.size ≤ 4000000) (z : Bool) : Ev (fun k => spec_RecWord.j0 k z a b t) (if z = true then ⟨#[]⟩ else nt a 1 ++ nt b 3 ++ t) := by
  refine Ev.step (spec_RecWord.j0.eq_2 _ _ _ _) ?_
  have z1 := nt_size a 1
  have z3 := nt_size b 3
  cases z with
  | true => exact ev_pos rfl (ev_now rfl)
  | false => exact ev_neg (by simp) (Ev.bind (sNum_ev a 1 (by omega) (by omega)) (Ev.bind (sNum_ev b 3 (by omega) (by omega)) (ev_pos (by omega) (ev_pos (by rw [ByteArray.size_append]; omega) (ev_now rfl)))))
theorem sRec_ev (a b : Int) (t : ByteArray) (ht : t.size ≤ 4000000) : Ev (fun k => spec_RecWord.f k a b t) (recV a b t) := by
  unfold spec_RecWord.f recV
  rw [l01In_eq]
  refine Ev.bind (Ev.now _) ?_
  by_cases h1 : 1 ≤ a ∧ a ≤ 12
  · rw [l01In_eq]
    refine ev_pos (decide_eq_true h1) (Ev.bind (Ev.now _) ?_)
    by_cases h2 : 1 ≤ b ∧ b ≤ 16777215
    · refine ev_pos (decide_eq_true h2) (ev_to (sRec_j a b t ht _) ?_)
      by_cases h3 : t.size = 4
      · rw [if_neg (by simp [h3]), if_pos ⟨h1, h2, h3⟩]
      · rw [if_pos (by simp; omega), if_neg (fun h => h3 h.2.2)]
    · exact ev_neg (by simpa using h2) (ev_to (sRec_j a b t ht true) (by rw [if_pos rfl, if_neg (fun h => h2 h.2.1)]))
  · exact ev_neg (by simpa using h1) (ev_to (sRec_j a b t ht true) (by rw [if_pos rfl, if_neg (fun h => h1 h.1)]))
theorem iRec_j (a b : Int) (t : ByteArray) (ht : t.size ≤ 4000000) (z : Bool) : Ev (fun k => impl_RecWord.j0 k z a b t) (if z = true then ⟨#[]⟩ else nt a 1 ++ nt b 3 ++ t) := by
  refine Ev.step (impl_RecWord.j0.eq_2 _ _ _ _) ?_
  have z1 := nt_size a 1
  have z3 := nt_size b 3
  cases z with
  | true => exact ev_pos rfl (ev_now rfl)
  | false => exact ev_neg (by simp) (Ev.bind (iNum_ev a 1 (by omega) (by omega)) (Ev.bind (iNum_ev b 3 (by omega) (by omega)) (ev_pos (by omega) (ev_pos (by rw [ByteArray.size_append]; omega) (ev_now rfl)))))
theorem iRec_ev (a b : Int) (t : ByteArray) (ht : t.size ≤ 4000000) : Ev (fun k => impl_RecWord.f k a b t) (recV a b t) := by
  unfold impl_RecWord.f recV
  rw [within_eq]
  refine Ev.bind (Ev.now _) ?_
  by_cases h1 : 1 ≤ a ∧ a ≤ 12
  · rw [within_eq]
    refine ev_pos (decide_eq_true h1) (Ev.bind (Ev.now _) ?_)
    by_cases h2 : 1 ≤ b ∧ b ≤ 16777215
    · refine ev_pos (decide_eq_true h2) (ev_to (iRec_j a b t ht _) ?_)
      by_cases h3 : t.size = 4
      · rw [if_neg (by simp [h3]), if_pos ⟨h1, h2, h3⟩]
      · rw [if_pos (by simp; omega), if_neg (fun h => h3 h.2.2)]
    · exact ev_neg (by simpa using h2) (ev_to (iRec_j a b t ht true) (by rw [if_pos rfl, if_neg (fun h => h2 h.2.1)]))
  · exact ev_neg (by simpa using h1) (ev_to (iRec_j a b t ht true) (by rw [if_pos rfl, if_neg (fun h => h1 h.1)]))

/-! ### readrec -/
noncomputable def rrV (w : ByteArray) : Int × Int × ByteArray × Bool := if w.size = 8 ∧ (recV (naG w 1 0 0) (naG w 3 1 0) (w.extract 4 w.size)).toList = w.toList then (naG w 1 0 0, naG w 3 1 0, w.extract 4 w.size, true) else (0, 0, ⟨#[]⟩, false)
theorem sRR_ev (w : ByteArray) (hw : w.size ≤ 4000000) : Ev (fun k => spec_ReadRec.f k w) (rrV w) := by
  unfold spec_ReadRec.f rrV
  by_cases h8 : w.size = 8
  · refine ev_pos (by omega) (Ev.bind (sNA_ev w hw 0 1 (by omega) (by omega) (by omega)) (Ev.bind (sNA_ev w hw 1 3 (by omega) (by omega) (by omega)) (ev_pos (by omega) (Ev.bind (sRec_ev _ _ _ (by rw [ByteArray.size_extract]; omega)) ?_))))
    by_cases he : (recV (naG w 1 0 0) (naG w 3 1 0) (w.extract 4 w.size)).toList = w.toList
    · exact ev_pos he (ev_now (if_pos ⟨h8, he⟩).symm)
    · exact ev_neg he (ev_now (if_neg (fun h => he h.2)).symm)
  · exact ev_neg (by omega) (ev_now (if_neg (fun h => h8 h.1)).symm)

theorem iRR_ev (w : ByteArray) (hw : w.size ≤ 4000000) : Ev (fun k => impl_ReadRec.f k w) (rrV w) := by
  unfold impl_ReadRec.f rrV
  by_cases h8 : w.size = 8
  · refine ev_pos (by omega) (Ev.bind (iNA_ev w hw 0 1 (by omega) (by omega) (by omega)) (Ev.bind (iNA_ev w hw 1 3 (by omega) (by omega) (by omega)) (ev_pos (by omega) (Ev.bind (iRec_ev _ _ _ (by rw [ByteArray.size_extract]; omega)) ?_))))
    by_cases he : (recV (naG w 1 0 0) (naG w 3 1 0) (w.extract 4 w.size)).toList = w.toList
    · exact ev_pos he (ev_now (if_pos ⟨h8, he⟩).symm)
    · exact ev_neg he (ev_now (if_neg (fun h => he h.2)).symm)
  · exact ev_neg (by omega) (ev_now (if_neg (fun h => h8 h.1)).symm)


/-! ### readentry -/
def trE (w : ByteArray) : Nat → Nat
  | 0 => 0
  | e + 1 => if 1 ≤ e ∧ bt w (e : Int) = 0 then trE w e else e + 1
noncomputable def rnX (w : ByteArray) (m : Nat) : Int × ByteArray × Bool := if (enV (bt w 0) (w.extract 1 m)).toList = w.toList then (bt w 0, w.extract 1 m, true) else (0, ⟨#[]⟩, false)
noncomputable def rnV (w : ByteArray) : Int × ByteArray × Bool := if w.size = 8 then rnX w (trE w 8) else (0, ⟨#[]⟩, false)
theorem sRN_l (w : ByteArray) (h8 : w.size = 8) : ∀ e : Nat, 1 ≤ e → e ≤ 8 → Ev (fun k => spec_ReadEntry.l0 k w (e : Int)) (rnX w (trE w e))
  | 0, h1, _ => by omega
  | e + 1, h1, h2 => by
    refine Ev.step (spec_ReadEntry.l0.eq_2 _ _) ?_
    have hl := b_len w
    have hb0 := bt_byte w 0 (by omega)
    have tail : ∀ F : Nat → Option (Int × ByteArray × Bool), (∀ k, F k = if 0 < (w.size : Int) then (if 1 ≤ ((e + 1 : Nat) : Int) then (if ((e + 1 : Nat) : Int) ≤ (w.size : Int) then ((spec_EntryWord.f k (wrap64 (bt w 0)) (w.extract 1 (((e + 1 : Nat) : Int) : Int).toNat)).bind fun t140 => (if t140.toList = w.toList then (some (wrap64 (bt w 0), w.extract 1 (((e + 1 : Nat) : Int) : Int).toNat, true)) else (some (0, (⟨#[]⟩ : ByteArray), false)))) else (none)) else (none)) else (none)) → Ev F (rnX w (e + 1)) := by
      intro F hF
      refine Ev.congr hF ?_
      rw [w64 (x := bt w 0) (by have := hb0.1; simpa using (by omega : (-9223372036854775808 : Int) ≤ bt w ((0 : Nat) : Int))) (by have := hb0.2; simpa using (by omega : bt w ((0 : Nat) : Int) < (9223372036854775808 : Int))), Int.toNat_natCast]
      refine ev_pos (by omega) (ev_pos (by omega) (ev_pos (by omega) (Ev.bind (sEnt_ev _ _ (by rw [ByteArray.size_extract]; omega)) ?_)))
      unfold rnX
      by_cases he : (enV (bt w 0) (w.extract 1 (e + 1))).toList = w.toList
      · exact ev_pos he (ev_now (if_pos he).symm)
      · exact ev_neg he (ev_now (if_neg he).symm)
    have e1 : wrap64 (((e + 1 : Nat) : Int) - 1) = (e : Int) := by rw [w64 (by omega) (by omega)]; omega
    rw [e1]
    unfold trE
    by_cases c1 : 1 ≤ e
    · refine ev_pos (by omega) (ev_pos (by omega) (ev_pos (by omega) ?_))
      by_cases c2 : bt w (e : Int) = 0
      · rw [if_pos ⟨c1, c2⟩]
        exact ev_pos c2 (sRN_l w h8 e c1 (by omega))
      · rw [if_neg (fun h => c2 h.2)]
        exact ev_neg c2 (tail _ (fun _ => rfl))
    · rw [if_neg (fun h => c1 h.1)]
      exact ev_neg (by omega) (tail _ (fun _ => rfl))
theorem sRN_ev (w : ByteArray) : Ev (fun k => spec_ReadEntry.f k w) (rnV w) := by
  unfold spec_ReadEntry.f rnV
  by_cases h8 : w.size = 8
  · rw [if_pos h8]; exact ev_pos (by omega) (sRN_l w h8 8 (by omega) (by omega))
  · rw [if_neg h8]; exact ev_neg (by omega) (ev_now rfl)

theorem trim_snoc (xs : List UInt8) (b : UInt8) : Lib.trimRightB (xs ++ [b]) 0 = if b = 0 then Lib.trimRightB xs 0 else xs ++ [b] := by
  unfold Lib.trimRightB
  rw [List.reverse_append, List.reverse_singleton, List.singleton_append, List.dropWhile_cons]
  by_cases h : b = 0
  · rw [if_pos h, if_pos (by simp [h])]
  · rw [if_neg h, if_neg (by simp [h])]; simp
theorem trim_l (w : ByteArray) (h8 : w.size = 8) : ∀ e : Nat, e ≤ 7 → Lib.trimRightB ((w.data.toList.drop 1).take e) 0 = (w.data.toList.drop 1).take (trE w (e + 1) - 1)
  | 0, _ => by simp [trE, Lib.trimRightB]
  | e + 1, h => by
    have hl := b_len w
    have ih := trim_l w h8 e (by omega)
    have hd : e < (w.data.toList.drop 1).length := by rw [List.length_drop]; omega
    rw [List.take_succ_eq_append_getElem hd, trim_snoc, List.getElem_drop]
    have hb : bt w ((e + 1 : Nat) : Int) = ((w.data.toList[1 + e]'(by omega)).toNat : Int) := by
      rw [btn w (e + 1) (by omega)]; congr 2; congr 1; omega
    show _ = (w.data.toList.drop 1).take ((if 1 ≤ e + 1 ∧ bt w ((e + 1 : Nat) : Int) = 0 then trE w (e + 1) else e + 1 + 1) - 1)
    by_cases hz : w.data.toList[1 + e]'(by omega) = 0
    · rw [if_pos hz, if_pos ⟨by omega, by rw [hb, hz]; rfl⟩, ih]
    · rw [if_neg hz, if_neg, show e + 1 + 1 - 1 = e + 1 from rfl, List.take_succ_eq_append_getElem hd, List.getElem_drop]
      rintro ⟨_, hc⟩
      rw [hb] at hc
      exact hz (UInt8.toNat_inj.1 (by have : (w.data.toList[1 + e]'(by omega)).toNat = 0 := by omega
                                      rw [this]; rfl))
theorem trE_le (w : ByteArray) : ∀ e : Nat, trE w e ≤ e
  | 0 => Nat.le_refl _
  | e + 1 => by
    unfold trE
    split
    · have := trE_le w e; omega
    · omega
theorem trE_pos (w : ByteArray) : ∀ e : Nat, 1 ≤ e → 1 ≤ trE w e
  | 0, h => by omega
  | e + 1, _ => by
    unfold trE
    split
    · rename_i h; exact trE_pos w e h.1
    · omega
theorem trim_eq (w : ByteArray) (h8 : w.size = 8) : strings_TrimRight.f (w.extract 1 w.size) (⟨#[0]⟩ : ByteArray) = some (w.extract 1 (trE w 8)) := by
  have hl := b_len w
  unfold strings_TrimRight.f
  rw [if_pos ⟨rfl, by rw [ByteArray.size_extract]; omega⟩]
  congr 1
  refine b_inj ?_
  have h7 := trim_l w h8 7 (by omega)
  have hp := trE_pos w 8 (by omega)
  have hq := trE_le w 8
  have e1 : (w.extract 1 w.size).data.toList = (w.data.toList.drop 1).take 7 := by
    rw [b_cut, List.take_of_length_le (by omega), List.take_of_length_le (by rw [List.length_drop]; omega)]
  have e2 : (w.extract 1 (trE w 8)).data.toList = (w.data.toList.drop 1).take (trE w 8 - 1) := by
    rw [b_cut, List.drop_take]
  rw [e1, e2, h7]
theorem iRN_ev (w : ByteArray) : Ev (fun k => impl_ReadEntry.f k w) (rnV w) := by
  unfold impl_ReadEntry.f rnV
  by_cases h8 : w.size = 8
  · have hl := b_len w
    have hb0 := bt_byte w 0 (by omega)
    rw [if_pos h8, trim_eq w h8, w64 (x := bt w 0) (by have := hb0.1; simpa using (by omega : (-9223372036854775808 : Int) ≤ bt w ((0 : Nat) : Int))) (by have := hb0.2; simpa using (by omega : bt w ((0 : Nat) : Int) < (9223372036854775808 : Int)))]
    refine ev_pos (by omega) (ev_pos (by omega) (ev_pos (by omega) (Ev.bind (Ev.now _) (Ev.bind (iEnt_ev _ _ (by rw [ByteArray.size_extract]; omega)) ?_))))
    unfold rnX
    by_cases he : (enV (bt w 0) (w.extract 1 (trE w 8))).toList = w.toList
    · exact ev_pos he (ev_now (if_pos he).symm)
    · exact ev_neg he (ev_now (if_neg he).symm)
  · rw [if_neg h8]; exact ev_neg (by omega) (ev_now rfl)


/-! ### pagesfor -/
def pgF (n : Int) : Int := if n ≤ 0 then 0 else (n - 1) / 32 + 1
theorem sPagesFor_eq (n : Int) (h : 0 ≤ n) (h1 : n ≤ 1048576) : spec_PagesFor.f n = some (pgF n) := by
  unfold spec_PagesFor.f pgF
  split
  · rfl
  · rw [w64 (x := n - 1) (by omega) (by omega), Int.tdiv_eq_ediv_of_nonneg (by omega), w64 (x := (n - 1) / 32) (by omega) (by omega), w64 (by omega) (by omega)]
theorem iPagesFor_eq (n : Int) (h : 0 ≤ n) (h1 : n ≤ 1048576) : impl_PagesFor.f n = some (pgF n) := by
  unfold impl_PagesFor.f pgF
  rw [if_neg (by omega), Int.tdiv_eq_ediv_of_nonneg h, Int.tmod_eq_emod_of_nonneg h, w64 (x := n / 32) (by omega) (by omega), w64 (x := n / 32 + 1) (by omega) (by omega)]
  split <;> split <;> congr 1 <;> omega

theorem pgF_le (n : Int) (h1 : n ≤ 1048576) : 0 ≤ pgF n ∧ pgF n ≤ 32768 := by
  unfold pgF
  split <;> omega

/-! ### inodeok -/
def dupR (rs : List S42) (i : Nat) : Bool := (rs.take i).any (fun y => y.f0 == (rd_T42 rs (i : Int)).f0)
noncomputable def rcAll (rs : List S42) : Nat → Nat → Bool
  | 0, _ => true
  | f + 1, i => if (recV (rd_T42 rs (i : Int)).f0 (rd_T42 rs (i : Int)).f1 (rd_T42 rs (i : Int)).f2).toList = ([] : List UInt8) then false else if dupR rs i = true then false else rcAll rs f (i + 1)
def ascE (es : List S47) (i : Nat) : Bool := if (i : Int) > 0 then Op.bytesLess ((rd_T47 es ((i : Int) - 1)).f1).toList ((rd_T47 es (i : Int)).f1).toList else true
noncomputable def enAll (es : List S47) : Nat → Nat → Bool
  | 0, _ => true
  | f + 1, i => if (enV (rd_T47 es (i : Int)).f0 (rd_T47 es (i : Int)).f1).toList = ([] : List UInt8) then false else if ascE es i = true then enAll es f (i + 1) else false
noncomputable def okI (kd sz ct : Int) (mk : ByteArray) (rs : List S42) (es : List S47) : Bool :=
  decide (0 ≤ ct ∧ ct ≤ 65535) && (if kd = 0 then decide (sz = 0 ∧ mk.toList = [] ∧ rs.length = 0 ∧ es.length = 0)
    else if kd = 1 then decide ((0 ≤ sz ∧ sz ≤ 128) ∧ (mk.size : Int) = 8 ∧ (rs.length : Int) = pgF sz ∧ es.length = 0) && rcAll rs rs.length 0
    else if kd = 2 then decide (sz = 0 ∧ mk.toList = [] ∧ rs.length = 0 ∧ es.length ≤ 6) && enAll es es.length 0
    else false)
theorem drop_any (rs : List S42) (i j : Nat) (hj : j < i) (hi : i < rs.length) (p : S42 → Bool) : ((rs.take i).drop j).any p = (p rs[j] || ((rs.take i).drop (j + 1)).any p) := by
  have hl : (rs.take i).length = i := by rw [List.length_take]; omega
  rw [List.drop_eq_getElem_cons (by omega), List.any_cons, List.getElem_take]
theorem sOk_l1 (kd sz ct : Int) (mk : ByteArray) (rs : List S42) (es : List S47) (hr : rs.length ≤ 4000000) (i : Nat) (hi : i < rs.length) (N : Bool) (next : Ev (fun k => spec_InodeOk.l0 k ((i + 1 : Nat) : Int) kd sz ct mk rs es) N) : ∀ j : Nat, j ≤ i → Ev (fun k => spec_InodeOk.l1 k (i : Int) (j : Int) kd sz ct mk rs es) (if ((rs.take i).drop j).any (fun y => y.f0 == (rd_T42 rs (i : Int)).f0) = true then false else N)
  | j, hj => by
    refine Ev.step (spec_InodeOk.l1.eq_2 _ _ _ _ _ _ _ _) ?_
    by_cases h : j < i
    · refine ev_pos (by omega) (ev_pos (by omega) (ev_pos (by omega) (ev_pos (by omega) (ev_pos (by omega) ?_))))
      rw [drop_any rs i j h hi, rdiRec rs j (by omega), w64s j (by omega)]
      by_cases he : rs[j].f0 = (rd_T42 rs (i : Int)).f0
      · exact ev_pos he (ev_now (by rw [if_pos (by simp [he])]))
      · refine ev_neg he (ev_to (sOk_l1 kd sz ct mk rs es hr i hi N next (j + 1) (by omega)) ?_)
        rw [beq_false_of_ne he, Bool.false_or]
    · have : j = i := by omega
      subst this
      rw [w64s j (by omega)]
      refine ev_neg (by omega) (ev_to next ?_)
      rw [List.drop_of_length_le (by rw [List.length_take]; omega)]
      simp
  termination_by j => i - j
theorem sOk_l0 (kd sz ct : Int) (mk : ByteArray) (rs : List S42) (es : List S47) (hr : rs.length ≤ 4000000) (hs : ∀ y ∈ rs, y.f2.size ≤ 4000000) : ∀ (f i : Nat), i + f = rs.length → Ev (fun k => spec_InodeOk.l0 k (i : Int) kd sz ct mk rs es) (rcAll rs f i)
  | f, i, hf => by
    refine Ev.step (spec_InodeOk.l0.eq_2 _ _ _ _ _ _ _) ?_
    cases f with
    | zero => exact ev_neg (by omega) (ev_now rfl)
    | succ f =>
      have hz : (rd_T42 rs (i : Int)).f2.size ≤ 4000000 := by rw [rdiRec rs i (by omega)]; exact hs _ (List.getElem_mem _)
      refine ev_pos (by omega) (ev_pos (by omega) (Ev.bind (sRec_ev _ _ _ hz) ?_))
      unfold rcAll
      by_cases h : (recV (rd_T42 rs (i : Int)).f0 (rd_T42 rs (i : Int)).f1 (rd_T42 rs (i : Int)).f2).toList = ([] : List UInt8)
      · exact ev_to (ev_pos h (ev_now rfl)) (if_pos h).symm
      · refine ev_to (ev_neg h (sOk_l1 kd sz ct mk rs es hr i (by omega) _ (sOk_l0 kd sz ct mk rs es hr hs f (i + 1) (by omega)) 0 (by omega))) ?_
        rw [if_neg h]
        unfold dupR
        rw [List.drop_zero]
theorem sOk_l2 (kd sz ct : Int) (mk : ByteArray) (rs : List S42) (es : List S47) (hr : es.length ≤ 4000000) (hs : ∀ y ∈ es, y.f1.size ≤ 2000000) : ∀ (f i : Nat), i + f = es.length → Ev (fun k => spec_InodeOk.l2 k (i : Int) kd sz ct mk rs es) (enAll es f i)
  | f, i, hf => by
    refine Ev.step (spec_InodeOk.l2.eq_2 _ _ _ _ _ _ _) ?_
    cases f with
    | zero => exact ev_neg (by omega) (ev_now rfl)
    | succ f =>
      have hz : (rd_T47 es (i : Int)).f1.size ≤ 2000000 := by rw [rdiEntry es i (by omega)]; exact hs _ (List.getElem_mem _)
      refine ev_pos (by omega) (ev_pos (by omega) (Ev.bind (sEnt_ev _ _ hz) ?_))
      unfold enAll
      have ih := sOk_l2 kd sz ct mk rs es hr hs f (i + 1) (by omega)
      rw [w64s i (by omega)]
      by_cases h : (enV (rd_T47 es (i : Int)).f0 (rd_T47 es (i : Int)).f1).toList = ([] : List UInt8)
      · exact ev_to (ev_pos h (ev_now rfl)) (if_pos h).symm
      · refine ev_to (ev_neg h ?_) (if_neg h).symm
        unfold ascE
        by_cases h0 : (i : Int) > 0
        · rw [if_pos h0, w64 (x := (i : Int) - 1) (by omega) (by omega)]
          refine ev_pos h0 (ev_pos (by omega) (ev_pos (by omega) ?_))
          by_cases h2 : Op.bytesLess ((rd_T47 es ((i : Int) - 1)).f1).toList ((rd_T47 es (i : Int)).f1).toList = true
          · exact ev_to (ev_pos h2 ih) (if_pos h2).symm
          · exact ev_to (ev_neg h2 (ev_now rfl)) (if_neg h2).symm
        · rw [if_neg h0]
          exact ev_to (ev_neg h0 ih) (by simp)
theorem sOkI_ev (kd sz ct : Int) (mk : ByteArray) (rs : List S42) (es : List S47) (hr : rs.length ≤ 4000000) (he : es.length ≤ 4000000) (hs : ∀ y ∈ rs, y.f2.size ≤ 4000000) (hz : ∀ y ∈ es, y.f1.size ≤ 2000000) : Ev (fun k => spec_InodeOk.f k kd sz ct mk rs es) (okI kd sz ct mk rs es) := by
  unfold spec_InodeOk.f okI
  rw [l01In_eq]
  refine Ev.bind (Ev.now _) ?_
  by_cases h0 : 0 ≤ ct ∧ ct ≤ 65535
  · rw [decide_eq_true h0, Bool.true_and]
    refine ev_pos rfl ?_
    by_cases k0 : kd = 0
    · refine ev_to (ev_pos k0 ?_) (if_pos k0).symm
      by_cases a1 : sz = 0
      · by_cases a2 : mk.toList = ([] : List UInt8)
        · by_cases a3 : (rs.length : Int) = 0
          · refine ev_pos a1 (ev_pos a2 (ev_pos a3 (ev_now ?_)))
            rw [Bool.eq_iff_iff, beq_iff_eq, decide_eq_true_eq]
            exact ⟨fun h => ⟨a1, a2, by omega, by omega⟩, fun h => by have := h.2.2.2; omega⟩
          · exact ev_pos a1 (ev_pos a2 (ev_neg a3 (ev_now (by rw [decide_eq_false (fun h => a3 (by have := h.2.2.1; omega))]))))
        · exact ev_pos a1 (ev_neg a2 (ev_now (by rw [decide_eq_false (fun h => a2 h.2.1)])))
      · exact ev_neg a1 (ev_now (by rw [decide_eq_false (fun h => a1 h.1)]))
    refine ev_to (ev_neg k0 ?_) (if_neg k0).symm
    by_cases k1 : kd = 1
    · refine ev_to (ev_pos k1 ?_) (if_pos k1).symm
      have bad : ¬ ((0 ≤ sz ∧ sz ≤ 128) ∧ (mk.size : Int) = 8 ∧ (rs.length : Int) = pgF sz ∧ es.length = 0) → ∀ z : Bool, z = true → Ev (fun k => spec_InodeOk.j0 k z kd sz ct mk rs es) (decide ((0 ≤ sz ∧ sz ≤ 128) ∧ (mk.size : Int) = 8 ∧ (rs.length : Int) = pgF sz ∧ es.length = 0) && rcAll rs rs.length 0) := by
        intro hc z hz
        rw [decide_eq_false hc, Bool.false_and]
        refine Ev.step (spec_InodeOk.j0.eq_2 _ _ _ _ _ _ _) ?_
        exact ev_pos hz (ev_now rfl)
      rw [l01In_eq]
      refine Ev.bind (Ev.now _) ?_
      by_cases b1 : 0 ≤ sz ∧ sz ≤ 128
      · refine ev_pos (decide_eq_true b1) ?_
        by_cases b2 : (mk.size : Int) = 8
        · refine ev_pos b2 (Ev.bind (ev_eq (sPagesFor_eq sz b1.1 (by omega))) ?_)
          by_cases b3 : (rs.length : Int) = pgF sz
          · refine ev_pos b3 ?_
            by_cases b4 : (es.length : Int) > 0
            · exact bad (fun h => by have := h.2.2.2; omega) _ (decide_eq_true b4)
            · rw [decide_eq_true (show (0 ≤ sz ∧ sz ≤ 128) ∧ (mk.size : Int) = 8 ∧ (rs.length : Int) = pgF sz ∧ es.length = 0 from ⟨b1, b2, b3, by omega⟩), Bool.true_and]
              refine Ev.step (spec_InodeOk.j0.eq_2 _ _ _ _ _ _ _) ?_
              exact ev_neg (by simpa using b4) (sOk_l0 kd sz ct mk rs es hr hs rs.length 0 (by omega))
          · exact ev_neg b3 (bad (fun h => b3 h.2.2.1) _ rfl)
        · exact ev_neg b2 (bad (fun h => b2 h.2.1) _ rfl)
      · exact ev_neg (by simpa using b1) (bad (fun h => b1 h.1) _ rfl)
    refine ev_to (ev_neg k1 ?_) (if_neg k1).symm
    by_cases k2 : kd = 2
    · refine ev_to (ev_pos k2 ?_) (if_pos k2).symm
      have bad : ¬ (sz = 0 ∧ mk.toList = [] ∧ rs.length = 0 ∧ es.length ≤ 6) → ∀ z : Bool, z = true → Ev (fun k => spec_InodeOk.j3 k z kd sz ct mk rs es) (decide (sz = 0 ∧ mk.toList = [] ∧ rs.length = 0 ∧ es.length ≤ 6) && enAll es es.length 0) := by
        intro hc z hz
        rw [decide_eq_false hc, Bool.false_and]
        refine Ev.step (spec_InodeOk.j3.eq_2 _ _ _ _ _ _ _) ?_
        exact ev_pos hz (ev_now rfl)
      by_cases b1 : sz = 0
      · refine ev_pos b1 ?_
        by_cases b2 : mk.toList = ([] : List UInt8)
        · refine ev_pos b2 ?_
          by_cases b3 : (rs.length : Int) > 0
          · exact ev_pos b3 (bad (fun h => by have := h.2.2.1; omega) _ rfl)
          · refine ev_neg b3 ?_
            by_cases b4 : (es.length : Int) > 6
            · exact bad (fun h => by have := h.2.2.2; omega) _ (decide_eq_true b4)
            · rw [decide_eq_true (show sz = 0 ∧ mk.toList = [] ∧ rs.length = 0 ∧ es.length ≤ 6 from ⟨b1, b2, by omega, by omega⟩), Bool.true_and]
              refine Ev.step (spec_InodeOk.j3.eq_2 _ _ _ _ _ _ _) ?_
              exact ev_neg (by rw [decide_eq_true_eq]; exact b4) (sOk_l2 kd sz ct mk rs es he hz es.length 0 (by omega))
        · exact ev_neg b2 (bad (fun h => b2 h.2.1) _ rfl)
      · exact ev_neg b1 (bad (fun h => b1 h.1) _ rfl)
    · exact ev_to (ev_neg k2 (ev_now rfl)) (if_neg k2).symm
  · exact ev_neg (by simpa using h0) (ev_now (by rw [decide_eq_false h0, Bool.false_and]))
theorem idx_any (rs : List S42) (p : S42 → Bool) : ∀ i : Nat, decide (Lib.idxByFrom (fun _ y => p y) z42 rs i ≥ 0) = rs.any p := by
  induction rs with
  | nil => intro i; simp [Lib.idxByFrom]
  | cons x r ih =>
    intro i
    unfold Lib.idxByFrom
    rw [List.any_cons]
    by_cases h : p x = true
    · rw [if_pos h, h, Bool.true_or]; first | (simp; done) | (simp; omega)
    · rw [if_neg h, ih (i + 1)]; simp at h; rw [h, Bool.false_or]
theorem iCont_eq (rs : List S42) (a b : Int) (t : ByteArray) (hn : rs.length ≤ 4000000) : slices_ContainsFunc_Rec_g78.f rs a b t = some (rs.any (fun y => y.f0 == a)) := by
  unfold slices_ContainsFunc_Rec_g78.f
  rw [if_pos (by omega)]
  congr 1
  exact idx_any rs (fun y => y.f0 == a) 0
theorem iFile_l (kd sz ct : Int) (mk : ByteArray) (rs : List S42) (es : List S47) (hr : rs.length ≤ 4000000) (hs : ∀ y ∈ rs, y.f2.size ≤ 4000000) (N : Bool) (fin : Ev (fun k => (impl_within.f sz 0 128).bind fun t246 => (if t246 = true then (if (mk.size : Int) = 8 then ((impl_PagesFor.f sz).bind fun t247 => (if (rs.length : Int) = t247 then (some ((es.length : Int) == 0)) else (some false))) else (some false)) else (some false))) N) : ∀ (f i : Nat), i + f = rs.length → Ev (fun k => impl_isFile.l0 k rs (rs.length : Int) (i : Int) kd sz ct mk rs es) (rcAll rs f i && N)
  | f, i, hf => by
    refine Ev.step (impl_isFile.l0.eq_2 _ _ _ _ _ _ _ _ _) ?_
    cases f with
    | zero => exact ev_neg (by omega) (ev_to fin (by simp [rcAll]))
    | succ f =>
      have hz : (rd_T42 rs (i : Int)).f2.size ≤ 4000000 := by rw [rdiRec rs i (by omega)]; exact hs _ (List.getElem_mem _)
      refine ev_pos (by omega) (ev_pos (by omega) (ev_pos (by omega) (Ev.bind (iRec_ev _ _ _ hz) ?_)))
      unfold rcAll
      rw [w64s i (by omega), Int.toNat_natCast]
      by_cases h : (recV (rd_T42 rs (i : Int)).f0 (rd_T42 rs (i : Int)).f1 (rd_T42 rs (i : Int)).f2).toList = ([] : List UInt8)
      · exact ev_pos h (ev_now (by rw [if_pos h, Bool.false_and]))
      · refine ev_neg h (ev_pos (by omega) (Ev.bind (ev_eq (iCont_eq (rs.take i) _ _ _ (by rw [List.length_take]; omega))) ?_))
        rw [if_neg h]
        unfold dupR
        by_cases hd : ((rs.take i).any fun y => y.f0 == (rd_T42 rs (i : Int)).f0) = true
        · exact ev_pos hd (ev_now (by rw [if_pos hd, Bool.false_and]))
        · exact ev_neg hd (ev_to (iFile_l kd sz ct mk rs es hr hs N fin f (i + 1) (by omega)) (by rw [if_neg hd]))
theorem iFile_ev (kd sz ct : Int) (mk : ByteArray) (rs : List S42) (es : List S47) (hr : rs.length ≤ 4000000) (hs : ∀ y ∈ rs, y.f2.size ≤ 4000000) : Ev (fun k => impl_isFile.f k kd sz ct mk rs es) (decide ((0 ≤ sz ∧ sz ≤ 128) ∧ (mk.size : Int) = 8 ∧ (rs.length : Int) = pgF sz ∧ es.length = 0) && rcAll rs rs.length 0) := by
  unfold impl_isFile.f
  refine ev_to (iFile_l kd sz ct mk rs es hr hs (decide ((0 ≤ sz ∧ sz ≤ 128) ∧ (mk.size : Int) = 8 ∧ (rs.length : Int) = pgF sz ∧ es.length = 0)) ?_ rs.length 0 (by omega)) (Bool.and_comm _ _)
  rw [within_eq]
  refine Ev.bind (Ev.now _) ?_
  by_cases b1 : 0 ≤ sz ∧ sz ≤ 128
  · refine ev_pos (decide_eq_true b1) ?_
    by_cases b2 : (mk.size : Int) = 8
    · refine ev_pos b2 (Ev.bind (ev_eq (iPagesFor_eq sz b1.1 (by omega))) ?_)
      by_cases b3 : (rs.length : Int) = pgF sz
      · refine ev_pos b3 (ev_now ?_)
        rw [Bool.eq_iff_iff, beq_iff_eq, decide_eq_true_eq]
        exact ⟨fun h => ⟨b1, b2, b3, by omega⟩, fun h => by have := h.2.2.2; omega⟩
      · exact ev_neg b3 (ev_now (by rw [decide_eq_false (fun h => b3 h.2.2.1)]))
    · exact ev_neg b2 (ev_now (by rw [decide_eq_false (fun h => b2 h.2.1)]))
  · exact ev_neg (by simpa using b1) (ev_now (by rw [decide_eq_false (fun h => b1 h.1)]))
theorem iDir_l (kd sz ct : Int) (mk : ByteArray) (rs : List S42) (es : List S47) (hr : es.length ≤ 4000000) (hs : ∀ y ∈ es, y.f1.size ≤ 2000000) : ∀ (f i : Nat), i + f = es.length → Ev (fun k => impl_isDir.l0 k es (es.length : Int) (i : Int) kd sz ct mk rs es) (enAll es f i && decide (sz = 0 ∧ mk.toList = [] ∧ rs.length = 0 ∧ es.length ≤ 6))
  | f, i, hf => by
    refine Ev.step (impl_isDir.l0.eq_2 _ _ _ _ _ _ _ _ _) ?_
    cases f with
    | zero =>
      refine ev_neg (by omega) ?_
      rw [show enAll es 0 i = true from rfl, Bool.true_and]
      by_cases b1 : sz = 0
      · by_cases b2 : mk.toList = ([] : List UInt8)
        · by_cases b3 : (rs.length : Int) = 0
          · refine ev_pos b1 (ev_pos b2 (ev_pos b3 (ev_now ?_)))
            rw [Bool.eq_iff_iff, decide_eq_true_eq, decide_eq_true_eq]
            exact ⟨fun h => ⟨b1, b2, by omega, by omega⟩, fun h => by have := h.2.2.2; omega⟩
          · exact ev_pos b1 (ev_pos b2 (ev_neg b3 (ev_now (by rw [decide_eq_false (fun h => b3 (by have := h.2.2.1; omega))]))))
        · exact ev_pos b1 (ev_neg b2 (ev_now (by rw [decide_eq_false (fun h => b2 h.2.1)])))
      · exact ev_neg b1 (ev_now (by rw [decide_eq_false (fun h => b1 h.1)]))
    | succ f =>
      have hz : (rd_T47 es (i : Int)).f1.size ≤ 2000000 := by rw [rdiEntry es i (by omega)]; exact hs _ (List.getElem_mem _)
      refine ev_pos (by omega) (ev_pos (by omega) (ev_pos (by omega) (Ev.bind (iEnt_ev _ _ hz) ?_)))
      unfold enAll
      have ih := iDir_l kd sz ct mk rs es hr hs f (i + 1) (by omega)
      rw [w64s i (by omega)]
      by_cases h : (enV (rd_T47 es (i : Int)).f0 (rd_T47 es (i : Int)).f1).toList = ([] : List UInt8)
      · exact ev_pos h (ev_now (by rw [if_pos h, Bool.false_and]))
      · refine ev_neg h ?_
        rw [if_neg h]
        unfold ascE
        by_cases h0 : (i : Int) > 0
        · rw [if_pos h0, w64 (x := (i : Int) - 1) (by omega) (by omega)]
          refine ev_pos h0 (ev_pos (by omega) (ev_pos (by omega) ?_))
          by_cases h2 : Op.bytesLess ((rd_T47 es ((i : Int) - 1)).f1).toList ((rd_T47 es (i : Int)).f1).toList = true
          · exact ev_pos h2 (ev_to ih (by rw [if_pos h2]))
          · exact ev_neg h2 (ev_now (by rw [if_neg h2, Bool.false_and]))
        · rw [if_neg h0]
          exact ev_neg h0 (ev_to ih (by rw [if_pos rfl]))
theorem iOkI_ev (kd sz ct : Int) (mk : ByteArray) (rs : List S42) (es : List S47) (hr : rs.length ≤ 4000000) (he : es.length ≤ 4000000) (hs : ∀ y ∈ rs, y.f2.size ≤ 4000000) (hz : ∀ y ∈ es, y.f1.size ≤ 2000000) : Ev (fun k => impl_InodeOk.f k kd sz ct mk rs es) (okI kd sz ct mk rs es) := by
  unfold impl_InodeOk.f okI
  rw [within_eq]
  refine Ev.bind (Ev.now _) ?_
  by_cases h0 : 0 ≤ ct ∧ ct ≤ 65535
  · rw [decide_eq_true h0, Bool.true_and]
    refine ev_pos rfl ?_
    by_cases k0 : kd = 0
    · refine ev_to (ev_pos k0 ?_) (if_pos k0).symm
      by_cases a1 : sz = 0
      · by_cases a2 : mk.toList = ([] : List UInt8)
        · by_cases a3 : (rs.length : Int) = 0
          · refine ev_pos a1 (ev_pos a2 (ev_pos a3 (ev_now ?_)))
            rw [Bool.eq_iff_iff, beq_iff_eq, decide_eq_true_eq]
            exact ⟨fun h => ⟨a1, a2, by omega, by omega⟩, fun h => by have := h.2.2.2; omega⟩
          · exact ev_pos a1 (ev_pos a2 (ev_neg a3 (ev_now (by rw [decide_eq_false (fun h => a3 (by have := h.2.2.1; omega))]))))
        · exact ev_pos a1 (ev_neg a2 (ev_now (by rw [decide_eq_false (fun h => a2 h.2.1)])))
      · exact ev_neg a1 (ev_now (by rw [decide_eq_false (fun h => a1 h.1)]))
    refine ev_to (ev_neg k0 ?_) (if_neg k0).symm
    by_cases k1 : kd = 1
    · exact ev_to (ev_pos k1 (Ev.bind (iFile_ev kd sz ct mk rs es hr hs) (ev_now rfl))) (if_pos k1).symm
    refine ev_to (ev_neg k1 ?_) (if_neg k1).symm
    by_cases k2 : kd = 2
    · refine ev_to (ev_pos k2 (Ev.bind ?_ (ev_now rfl))) (if_pos k2).symm
      unfold impl_isDir.f
      exact ev_to (iDir_l kd sz ct mk rs es he hz es.length 0 (by omega)) (Bool.and_comm _ _)
    · exact ev_to (ev_neg k2 (ev_now rfl)) (if_neg k2).symm
  · exact ev_neg (by simpa using h0) (ev_now (by rw [decide_eq_false h0, Bool.false_and]))

/-! ### inodewords -/
def fil8 : List ByteArray → List ByteArray := fun ws => ws ++ List.replicate (8 - ws.length) (zb 8)
noncomputable def rcW (rs : List S42) : List ByteArray := rs.map (fun y => recV y.f0 y.f1 y.f2)
noncomputable def enW (es : List S47) : List ByteArray := es.map (fun y => enV y.f0 y.f1)
noncomputable def iwV (kd sz ct : Int) (mk : ByteArray) (rs : List S42) (es : List S47) : List ByteArray := if okI kd sz ct mk rs es = true then fil8 ([wdT (nt kd 1 ++ nt sz 2 ++ nt ct 2), wdT mk] ++ rcW rs ++ enW es) else []
theorem fil8_step (ws : List ByteArray) (h : ws.length < 8) : fil8 (ws ++ [zb 8]) = fil8 ws := by
  unfold fil8
  rw [show 8 - ws.length = (8 - (ws ++ [zb 8]).length) + 1 by simp; omega, List.replicate_succ, List.append_assoc, List.singleton_append]
theorem sIW_l2 : ∀ (f : Nat) (ws : List ByteArray), ws.length ≤ 8000008 → 8 ≤ f + ws.length → Ev (fun k => spec_InodeWords.l2 k ws) (fil8 ws)
  | f, ws, hb, hf => by
    refine Ev.step (spec_InodeWords.l2.eq_2 _) ?_
    by_cases h : (ws.length : Int) < 8
    · cases f with
      | zero => omega
      | succ f => exact ev_pos h (Ev.bind (zeroText_ev 8 (by omega)) (ev_pos (by omega) (ev_to (sIW_l2 f (ws ++ [zb 8]) (by simp; omega) (by simp; omega)) (fil8_step ws (by omega)))))
    · refine ev_neg h (ev_now ?_)
      unfold fil8
      rw [show 8 - ws.length = 0 by omega]; simp
theorem sIW_l1 (kd sz ct : Int) (mk : ByteArray) (rs : List S42) (es : List S47) (hr : es.length ≤ 4000000) (hs : ∀ y ∈ es, y.f1.size ≤ 2000000) : ∀ (i : Nat) (ws : List ByteArray), i ≤ es.length → ws.length ≤ 4000002 + i → Ev (fun k => spec_InodeWords.l1 k ws (i : Int) kd sz ct mk rs es) (fil8 (ws ++ enW (es.drop i)))
  | i, ws, hi, hw => by
    refine Ev.step (spec_InodeWords.l1.eq_2 _ _ _ _ _ _ _ _) ?_
    by_cases h : i < es.length
    · refine ev_pos (by omega) (ev_pos (by omega) ?_)
      rw [rdiEntry es i h, w64s i (by omega), drop_at es i h]
      refine Ev.bind (sEnt_ev _ _ (hs _ (List.getElem_mem _))) (ev_pos (by omega) (ev_to (sIW_l1 kd sz ct mk rs es hr hs (i + 1) _ (by omega) (by simp; omega)) ?_))
      unfold enW; rw [List.map_cons, List.append_assoc, List.singleton_append]
    · refine ev_neg (by omega) (ev_to (sIW_l2 8 ws (by omega) (by omega)) ?_)
      rw [List.drop_of_length_le (by omega)]; simp [enW]
  termination_by i => es.length - i
theorem sIW_l0 (kd sz ct : Int) (mk : ByteArray) (rs : List S42) (es : List S47) (hr : rs.length ≤ 4000000) (he : es.length ≤ 4000000) (hs : ∀ y ∈ rs, y.f2.size ≤ 4000000) (hz : ∀ y ∈ es, y.f1.size ≤ 2000000) : ∀ (i : Nat) (ws : List ByteArray), i ≤ rs.length → ws.length ≤ 2 + i → Ev (fun k => spec_InodeWords.l0 k ws (i : Int) kd sz ct mk rs es) (fil8 (ws ++ rcW (rs.drop i) ++ enW es))
  | i, ws, hi, hw => by
    refine Ev.step (spec_InodeWords.l0.eq_2 _ _ _ _ _ _ _ _) ?_
    by_cases h : i < rs.length
    · refine ev_pos (by omega) (ev_pos (by omega) ?_)
      rw [rdiRec rs i h, w64s i (by omega), drop_at rs i h]
      refine Ev.bind (sRec_ev _ _ _ (hs _ (List.getElem_mem _))) (ev_pos (by omega) (ev_to (sIW_l0 kd sz ct mk rs es hr he hs hz (i + 1) _ (by omega) (by simp; omega)) ?_))
      unfold rcW; rw [List.map_cons, List.append_assoc ws, List.singleton_append]
    · refine ev_neg (by omega) (ev_to (sIW_l1 kd sz ct mk rs es he hz 0 ws (Nat.zero_le _) (by omega)) ?_)
      rw [List.drop_zero, List.drop_of_length_le (show rs.length ≤ i by omega)]; simp [rcW]
  termination_by i => rs.length - i
theorem sIW_ev (kd sz ct : Int) (mk : ByteArray) (rs : List S42) (es : List S47) (hm : mk.size ≤ 4000000) (hr : rs.length ≤ 4000000) (he : es.length ≤ 4000000) (hs : ∀ y ∈ rs, y.f2.size ≤ 4000000) (hz : ∀ y ∈ es, y.f1.size ≤ 2000000) : Ev (fun k => spec_InodeWords.f k kd sz ct mk rs es) (iwV kd sz ct mk rs es) := by
  unfold spec_InodeWords.f iwV
  refine Ev.bind (sOkI_ev kd sz ct mk rs es hr he hs hz) ?_
  by_cases h : okI kd sz ct mk rs es = true
  · have z1 := nt_size kd 1
    have z2 := nt_size sz 2
    have z3 := nt_size ct 2
    rw [if_pos h]
    refine ev_pos h (Ev.bind (sNum_ev kd 1 (by omega) (by omega)) (Ev.bind (sNum_ev sz 2 (by omega) (by omega)) (ev_pos (by omega) (Ev.bind (sNum_ev ct 2 (by omega) (by omega)) (ev_pos (by rw [ByteArray.size_append]; omega) (Ev.bind (sWord_ev _ (by rw [ByteArray.size_append, ByteArray.size_append]; omega)) (Ev.bind (sWord_ev mk hm) ?_)))))))
    exact ev_to (sIW_l0 kd sz ct mk rs es hr he hs hz 0 _ (by omega) (by simp)) (by rw [List.drop_zero])
  · rw [if_neg h]; exact ev_neg h (ev_now rfl)
theorem zeroWord_eq : impl_zeroWord.f = some (zb 8) := by
  unfold impl_zeroWord.f
  rw [padded_eq _ 8 (by omega) (by omega) (by decide), Option.bind_some]
  congr 1
theorem iIW_l2 : ∀ (f : Nat) (ws : List ByteArray), ws.length ≤ 8000008 → 8 ≤ f + ws.length → Ev (fun k => impl_inodeText.l2 k ws) (fil8 ws)
  | f, ws, hb, hf => by
    refine Ev.step (impl_inodeText.l2.eq_2 _) ?_
    by_cases h : (ws.length : Int) < 8
    · cases f with
      | zero => omega
      | succ f => exact ev_pos h (Ev.bind (ev_eq zeroWord_eq) (ev_pos (by omega) (ev_to (iIW_l2 f (ws ++ [zb 8]) (by simp; omega) (by simp; omega)) (fil8_step ws (by omega)))))
    · refine ev_neg h (ev_now ?_)
      unfold fil8
      rw [show 8 - ws.length = 0 by omega]; simp
theorem iIW_l1 (es : List S47) (hr : es.length ≤ 4000000) (hs : ∀ y ∈ es, y.f1.size ≤ 2000000) : ∀ (i : Nat) (ws : List ByteArray), i ≤ es.length → ws.length ≤ 4000002 + i → Ev (fun k => impl_inodeText.l1 k ws es (es.length : Int) (i : Int)) (fil8 (ws ++ enW (es.drop i)))
  | i, ws, hi, hw => by
    refine Ev.step (impl_inodeText.l1.eq_2 _ _ _ _) ?_
    by_cases h : i < es.length
    · refine ev_pos (by omega) (ev_pos (by omega) (ev_pos (by omega) ?_))
      rw [rdiEntry es i h, w64s i (by omega), drop_at es i h]
      refine Ev.bind (iEnt_ev _ _ (hs _ (List.getElem_mem _))) (ev_pos (by omega) (ev_to (iIW_l1 es hr hs (i + 1) _ (by omega) (by simp; omega)) ?_))
      unfold enW; rw [List.map_cons, List.append_assoc, List.singleton_append]
    · refine ev_neg (by omega) (ev_to (iIW_l2 8 ws (by omega) (by omega)) ?_)
      rw [List.drop_of_length_le (by omega)]; simp [enW]
  termination_by i => es.length - i
theorem iIW_l0 (kd sz ct : Int) (mk : ByteArray) (rs : List S42) (es : List S47) (hr : rs.length ≤ 4000000) (he : es.length ≤ 4000000) (hs : ∀ y ∈ rs, y.f2.size ≤ 4000000) (hz : ∀ y ∈ es, y.f1.size ≤ 2000000) : ∀ (i : Nat) (ws : List ByteArray), i ≤ rs.length → ws.length ≤ 2 + i → Ev (fun k => impl_inodeText.l0 k ws rs (rs.length : Int) (i : Int) kd sz ct mk rs es) (fil8 (ws ++ rcW (rs.drop i) ++ enW es))
  | i, ws, hi, hw => by
    refine Ev.step (impl_inodeText.l0.eq_2 _ _ _ _ _ _ _ _ _ _) ?_
    by_cases h : i < rs.length
    · refine ev_pos (by omega) (ev_pos (by omega) (ev_pos (by omega) ?_))
      rw [rdiRec rs i h, w64s i (by omega), drop_at rs i h]
      refine Ev.bind (iRec_ev _ _ _ (hs _ (List.getElem_mem _))) (ev_pos (by omega) (ev_to (iIW_l0 kd sz ct mk rs es hr he hs hz (i + 1) _ (by omega) (by simp; omega)) ?_))
      unfold rcW; rw [List.map_cons, List.append_assoc ws, List.singleton_append]
    · refine ev_neg (by omega) (ev_to (iIW_l1 es he hz 0 ws (Nat.zero_le _) (by omega)) ?_)
      rw [List.drop_zero, List.drop_of_length_le (show rs.length ≤ i by omega)]; simp [rcW]
  termination_by i => rs.length - i
theorem iIT_ev (kd sz ct : Int) (mk : ByteArray) (rs : List S42) (es : List S47) (hm : mk.size ≤ 4000000) (hr : rs.length ≤ 4000000) (he : es.length ≤ 4000000) (hs : ∀ y ∈ rs, y.f2.size ≤ 4000000) (hz : ∀ y ∈ es, y.f1.size ≤ 2000000) : Ev (fun k => impl_inodeText.f k kd sz ct mk rs es) (fil8 ([wdT (nt kd 1 ++ nt sz 2 ++ nt ct 2), wdT mk] ++ rcW rs ++ enW es)) := by
  have z1 := nt_size kd 1
  have z2 := nt_size sz 2
  have z3 := nt_size ct 2
  unfold impl_inodeText.f
  refine Ev.bind (iNum_ev kd 1 (by omega) (by omega)) (Ev.bind (iNum_ev sz 2 (by omega) (by omega)) (ev_pos (by omega) (Ev.bind (iNum_ev ct 2 (by omega) (by omega)) (ev_pos (by rw [ByteArray.size_append]; omega) (Ev.bind (ev_eq (iWord_eq _ (by rw [ByteArray.size_append, ByteArray.size_append]; omega))) (Ev.bind (ev_eq (iWord_eq mk hm)) ?_))))))
  exact ev_to (iIW_l0 kd sz ct mk rs es hr he hs hz 0 _ (by omega) (by simp)) (by rw [List.drop_zero])

theorem iwV_len (kd sz ct : Int) (mk : ByteArray) (rs : List S42) (es : List S47) : (iwV kd sz ct mk rs es).length ≤ 10 + rs.length + es.length := by
  unfold iwV
  split
  · unfold fil8 rcW enW; simp; omega
  · simp
theorem iwV_len2 (kd sz ct : Int) (mk : ByteArray) (rs : List S42) (es : List S47) (h : mk.size + rs.length + es.length ≤ 1048576) : (iwV kd sz ct mk rs es).length ≤ 1048576 := by
  unfold iwV
  split
  · rename_i hok
    have hb : rs.length + es.length ≤ 1048570 := by
      unfold okI at hok
      rw [Bool.and_eq_true] at hok
      have h2 := hok.2
      split at h2
      · have := of_decide_eq_true h2; omega
      · split at h2
        · rw [Bool.and_eq_true] at h2; have := of_decide_eq_true h2.1; omega
        · split at h2
          · rw [Bool.and_eq_true] at h2; have := of_decide_eq_true h2.1; omega
          · cases h2
    unfold fil8 rcW enW; simp; omega
  · simp

/-! ### eqwords -/
theorem drop_eq_iff {α : Type} (xs ys : List α) (i : Nat) (h1 : i < xs.length) (h2 : i < ys.length) : xs.drop i = ys.drop i ↔ xs[i] = ys[i] ∧ xs.drop (i + 1) = ys.drop (i + 1) := by
  rw [drop_at xs i h1, drop_at ys i h2, List.cons.injEq]
open Classical in
noncomputable def eqW (xs ys : List ByteArray) : Bool := decide (xs = ys)
open Classical in
theorem sWords_l (xs ys : List ByteArray) (hl : xs.length = ys.length) (hn : xs.length ≤ 4000000) : ∀ i : Nat, i ≤ xs.length → Ev (fun k => spec_l12Words.l0 k xs ys i) (eqW (xs.drop i) (ys.drop i))
  | i, hi => by
    refine Ev.step (spec_l12Words.l0.eq_2 _ _ _) ?_
    by_cases h : i < xs.length
    · refine ev_pos (by omega) (ev_pos (by omega) (ev_pos (by omega) ?_))
      rw [rdOf_at _ xs i h, rdOf_at _ ys i (by omega), w64s i (by omega)]
      by_cases he : xs[i] = ys[i]'(by omega)
      · refine ev_pos (by rw [he]) (ev_to (sWords_l xs ys hl hn (i + 1) (by omega)) ?_)
        unfold eqW
        simp only [drop_eq_iff xs ys i h (by omega), he, true_and]
      · refine ev_neg (fun hc => he (toList_inj hc)) (ev_now ?_)
        unfold eqW
        simp only [drop_eq_iff xs ys i h (by omega), he, false_and, decide_false]
    · refine ev_neg (by omega) (ev_now ?_)
      rw [List.drop_of_length_le (by omega), List.drop_of_length_le (by omega)]
      unfold eqW; simp
  termination_by i => xs.length - i
theorem sWords_ev (xs ys : List ByteArray) (hn : xs.length ≤ 4000000) : Ev (fun k => spec_l12Words.f k xs ys) (eqW xs ys) := by
  unfold spec_l12Words.f
  by_cases h : xs.length = ys.length
  · have := sWords_l xs ys h hn 0 (by omega)
    rw [List.drop_zero, List.drop_zero] at this
    exact ev_pos (by omega) this
  · refine ev_neg (by omega) (ev_now ?_)
    unfold eqW
    rw [decide_eq_false (fun hc => h (by rw [hc]))]

theorem iWords_l (xs ys : List ByteArray) (hl : xs.length = ys.length) (hn : xs.length ≤ 4000000) : ∀ i : Nat, i ≤ xs.length → Ev (fun k => slices_Equal_string.l0 k xs ys xs.length i) (eqW (xs.drop i) (ys.drop i))
  | i, hi => by
    refine Ev.step (slices_Equal_string.l0.eq_2 _ _ _ _) ?_
    by_cases h : i < xs.length
    · refine ev_pos (by omega) (ev_pos (by omega) (ev_pos (by omega) (ev_pos (by omega) ?_)))
      rw [rdOf_at _ xs i h, rdOf_at _ ys i (by omega), w64s i (by omega)]
      by_cases he : xs[i] = ys[i]'(by omega)
      · refine ev_pos (by rw [he]) (ev_to (iWords_l xs ys hl hn (i + 1) (by omega)) ?_)
        unfold eqW
        simp only [drop_eq_iff xs ys i h (by omega), he, true_and]
      · refine ev_neg (fun hc => he (toList_inj hc)) (ev_now ?_)
        unfold eqW
        simp only [drop_eq_iff xs ys i h (by omega), he, false_and, decide_false]
    · refine ev_neg (by omega) (ev_now ?_)
      rw [List.drop_of_length_le (by omega), List.drop_of_length_le (by omega)]
      unfold eqW; simp
  termination_by i => xs.length - i
theorem iWords_ev (xs ys : List ByteArray) (hn : xs.length ≤ 4000000) : Ev (fun k => slices_Equal_string.f k xs ys) (eqW xs ys) := by
  unfold slices_Equal_string.f
  by_cases h : xs.length = ys.length
  · have := iWords_l xs ys h hn 0 (by omega)
    rw [List.drop_zero, List.drop_zero] at this
    exact ev_pos (by omega) this
  · refine ev_neg (by omega) (ev_now ?_)
    unfold eqW
    rw [decide_eq_false (fun hc => h (by rw [hc]))]

/-! ### readinode -/
theorem naG1 (w : ByteArray) : naG w 1 0 0 = bt w 0 := by
  show 256 * 0 + bt w ((0 : Nat) : Int) = bt w 0
  rw [Int.mul_zero, Int.zero_add]; rfl
theorem rrV_size (w : ByteArray) : (rrV w).2.2.1.size ≤ 8 := by
  unfold rrV
  split
  · rename_i h; show (w.extract 4 w.size).size ≤ 8; rw [ByteArray.size_extract]; omega
  · exact Nat.zero_le _
theorem rnV_size (w : ByteArray) : (rnV w).2.1.size ≤ 8 := by
  unfold rnV
  split
  · unfold rnX
    split
    · have := trE_le w 8
      show (w.extract 1 (trE w 8)).size ≤ 8
      rw [ByteArray.size_extract]; omega
    · exact Nat.zero_le _
  · exact Nat.zero_le _
abbrev RI := Int × Int × Int × ByteArray × List S42 × List S47 × Bool
def riF : RI := (0, 0, 0, ⟨#[]⟩, [], [], false)
noncomputable def riT (ws : List ByteArray) (kd sz ct : Int) (mk : ByteArray) (rs : List S42) (es : List S47) : RI := if eqW (iwV kd sz ct mk rs es) ws = true then (kd, sz, ct, mk, rs, es, true) else riF
noncomputable def scV (kd : Int) : List ByteArray → List S42 → List S47 → Option (List S42 × List S47)
  | [], rs, es => some (rs, es)
  | w :: r, rs, es => if w.toList = (zb 8).toList then some (rs, es) else if kd = 1 then (if (rrV w).2.2.2 = true then scV kd r (rs ++ [⟨(rrV w).1, (rrV w).2.1, (rrV w).2.2.1⟩]) es else none) else if kd = 2 then (if (rnV w).2.2 = true then scV kd r rs (es ++ [⟨(rnV w).1, (rnV w).2.1⟩]) else none) else scV kd r rs es
noncomputable def riM (ws : List ByteArray) (kd sz ct : Int) (mk : ByteArray) (o : Option (List S42 × List S47)) : RI := match o with | some p => riT ws kd sz ct mk p.1 p.2 | none => riF
def riA (ws : List ByteArray) : ByteArray := rdOf ByteArray.empty ws 0
noncomputable def riV (ws : List ByteArray) : RI := if ws.length = 8 ∧ ∀ w ∈ ws, w.size = 8 then riM ws (naG (riA ws) 1 0 0) (naG (riA ws) 2 1 0) (naG (riA ws) 2 3 0) (if naG (riA ws) 1 0 0 = 1 then rdOf ByteArray.empty ws 1 else ⟨#[]⟩) (scV (naG (riA ws) 1 0 0) (ws.drop 2) [] []) else riF
theorem scV_other (kd : Int) (h1 : kd ≠ 1) (h2 : kd ≠ 2) : ∀ (ws : List ByteArray) (rs : List S42) (es : List S47), scV kd ws rs es = some (rs, es)
  | [], _, _ => rfl
  | w :: r, rs, es => by
    unfold scV
    split
    · rfl
    · first
      | exact scV_other kd h1 h2 r rs es
      | (rw [if_neg h1, if_neg h2]; exact scV_other kd h1 h2 r rs es)
theorem recG {kd : Int} : ∀ (ws : List ByteArray) (rs : List S42) (es : List S47) (p : List S42 × List S47), scV kd ws rs es = some p → (∀ y ∈ rs, y.f2.size ≤ 8) → (∀ y ∈ es, y.f1.size ≤ 8) → p.1.length ≤ rs.length + ws.length ∧ p.2.length ≤ es.length + ws.length ∧ (∀ y ∈ p.1, y.f2.size ≤ 8) ∧ (∀ y ∈ p.2, y.f1.size ≤ 8)
  | [], rs, es, p, h, hr, he => by
    cases h; exact ⟨Nat.le_refl _, Nat.le_refl _, hr, he⟩
  | w :: r, rs, es, p, h, hr, he => by
    unfold scV at h
    split at h
    · cases h; exact ⟨Nat.le_add_right _ _, Nat.le_add_right _ _, hr, he⟩
    · split at h
      · split at h
        · have := recG r _ _ p h (by
            intro y hy
            rcases List.mem_append.1 hy with hy | hy
            · exact hr y hy
            · rw [List.mem_singleton.1 hy]; exact rrV_size w) he
          simp only [List.length_append, List.length_cons, List.length_nil] at this ⊢
          exact ⟨by omega, by omega, this.2.2⟩
        · cases h
      · split at h
        · split at h
          · have := recG r _ _ p h hr (by
              intro y hy
              rcases List.mem_append.1 hy with hy | hy
              · exact he y hy
              · rw [List.mem_singleton.1 hy]; exact rnV_size w)
            simp only [List.length_append, List.length_cons, List.length_nil] at this ⊢
            exact ⟨by omega, by omega, this.2.2⟩
          · cases h
        · have := recG r _ _ p h hr he
          simp only [List.length_cons]
          exact ⟨by omega, by omega, this.2.2⟩
def RIs (v : RI) : Prop := v.2.2.2.2.1.length ≤ 8 ∧ v.2.2.2.2.2.1.length ≤ 8 ∧ (∀ y ∈ v.2.2.2.2.1, y.f2.size ≤ 8) ∧ (∀ y ∈ v.2.2.2.2.2.1, y.f1.size ≤ 8) ∧ v.2.2.2.1.size ≤ 8
theorem riF_s : RIs riF := by
  unfold RIs riF; exact ⟨Nat.zero_le _, Nat.zero_le _, by simp, by simp, Nat.zero_le _⟩
theorem riT_s (ws : List ByteArray) (kd sz ct : Int) (mk : ByteArray) (rs : List S42) (es : List S47) (hm : mk.size ≤ 8) (hr : rs.length ≤ 8) (he : es.length ≤ 8) (hs : ∀ y ∈ rs, y.f2.size ≤ 8) (hz : ∀ y ∈ es, y.f1.size ≤ 8) : RIs (riT ws kd sz ct mk rs es) := by
  unfold riT
  split
  · exact ⟨hr, he, hs, hz, hm⟩
  · exact riF_s
theorem riV_small (ws : List ByteArray) : RIs (riV ws) := by
  unfold riV
  split
  · rename_i hw
    have hm : (if naG (riA ws) 1 0 0 = 1 then rdOf ByteArray.empty ws 1 else (⟨#[]⟩ : ByteArray)).size ≤ 8 := by
      split
      · rw [show (1 : Int) = ((1 : Nat) : Int) from rfl, rdOf_at _ ws 1 (by omega), hw.2 _ (List.getElem_mem _)]; omega
      · exact Nat.zero_le _
    cases hs : scV (naG (riA ws) 1 0 0) (ws.drop 2) [] [] with
    | none => exact riF_s
    | some p =>
      have hg := recG _ _ _ p hs (by simp) (by simp)
      have hl : (ws.drop 2).length = 6 := by rw [List.length_drop]; omega
      rw [hl] at hg
      have h1 : p.1.length ≤ 8 := by have := hg.1; simp at this; omega
      have h2 : p.2.length ≤ 8 := by have := hg.2.1; simp at this; omega
      exact riT_s ws _ _ _ _ p.1 p.2 hm h1 h2 hg.2.2.1 hg.2.2.2
  · exact riF_s
theorem eq_riT (ws : List ByteArray) (kd sz ct : Int) (mk : ByteArray) (rs : List S42) (es : List S47) {F : Nat → Option RI} (h : eqW (iwV kd sz ct mk rs es) ws = true → Ev F (kd, sz, ct, mk, rs, es, true)) (h' : ¬ eqW (iwV kd sz ct mk rs es) ws = true → Ev F riF) : Ev F (riT ws kd sz ct mk rs es) := by
  unfold riT
  by_cases c : eqW (iwV kd sz ct mk rs es) ws = true
  · rw [if_pos c]; exact h c
  · rw [if_neg c]; exact h' c
theorem sRI_end (ws : List ByteArray) (z : ByteArray) (i : Int) (kd sz ct : Int) (mk : ByteArray) (rs : List S42) (es : List S47) (hm : mk.size ≤ 8) (hr : rs.length ≤ 8) (he : es.length ≤ 8) (hs : ∀ y ∈ rs, y.f2.size ≤ 8) (hz : ∀ y ∈ es, y.f1.size ≤ 8) : Ev (fun k => spec_ReadInode.j3 k ws z i false kd sz ct mk rs es) (riT ws kd sz ct mk rs es) := by
  refine Ev.step (spec_ReadInode.j3.eq_2 _ _ _ _ _ _ _ _ _ _) ?_
  have hl := iwV_len kd sz ct mk rs es
  refine ev_neg (by simp) (Ev.bind (sIW_ev kd sz ct mk rs es (by omega) (by omega) (by omega) (fun y hy => by have := hs y hy; omega) (fun y hy => by have := hz y hy; omega)) (Ev.bind (sWords_ev _ _ (by omega)) ?_))
  exact eq_riT ws kd sz ct mk rs es (fun c => ev_pos c (ev_now rfl)) (fun c => ev_neg c (ev_now rfl))
theorem sRI_l (ws : List ByteArray) (h8 : ws.length = 8) (hw : ∀ w ∈ ws, w.size = 8) (kd sz ct : Int) (mk : ByteArray) (hm : mk.size ≤ 8) : ∀ (f i : Nat) (rs : List S42) (es : List S47), i + f = 8 → rs.length ≤ i → es.length ≤ i → (∀ y ∈ rs, y.f2.size ≤ 8) → (∀ y ∈ es, y.f1.size ≤ 8) → Ev (fun k => spec_ReadInode.l1 k ws (zb 8) (i : Int) kd sz ct mk rs es) (riM ws kd sz ct mk (scV kd (ws.drop i) rs es))
  | 0, i, rs, es, hi, lr, le, hs, hz => by
    refine Ev.step (spec_ReadInode.l1.eq_2 _ _ _ _ _ _ _ _ _) ?_
    refine ev_neg (by omega) (ev_to (sRI_end ws (zb 8) (i : Int) kd sz ct mk rs es hm (by omega) (by omega) hs hz) ?_)
    rw [List.drop_of_length_le (by omega)]; rfl
  | f + 1, i, rs, es, hi, lr, le, hs, hz => by
    refine Ev.step (spec_ReadInode.l1.eq_2 _ _ _ _ _ _ _ _ _) ?_
    refine ev_pos (by omega) (ev_pos (by omega) (ev_pos (by omega) ?_))
    have hsz := hw ws[i] (List.getElem_mem _)
    rw [rdOf_at _ ws i (by omega), drop_at ws i (by omega)]
    unfold scV
    by_cases z : ws[i].toList = (zb 8).toList
    · rw [if_pos z, show (ws[i].toList != (zb 8).toList) = false by simp [z]]
      exact sRI_end ws (zb 8) (i : Int) kd sz ct mk rs es hm (by omega) (by omega) hs hz
    rw [if_neg z, show (ws[i].toList != (zb 8).toList) = true from bne_iff_ne.mpr z]
    refine Ev.step (spec_ReadInode.j3.eq_2 _ _ _ _ _ _ _ _ _ _) ?_
    refine ev_pos rfl ?_
    by_cases k1 : kd = 1
    · rw [if_pos k1, rdOf_at _ ws i (by omega)]
      refine ev_pos k1 (ev_pos (by omega) (ev_pos (by omega) (Ev.bind (sRR_ev ws[i] (by omega)) ?_)))
      by_cases ok : (rrV ws[i]).2.2.2 = true
      · rw [if_pos ok]
        refine ev_pos ok (ev_pos (by omega) ?_)
        refine Ev.step (spec_ReadInode.j4.eq_2 _ _ _ _ _ _ _ _ _) ?_
        refine ev_neg (by omega) ?_
        rw [w64s i (by omega)]
        refine sRI_l ws h8 hw kd sz ct mk hm f (i + 1) _ _ (by omega) (by simp; omega) (by omega) ?_ hz
        intro y hy
        rcases List.mem_append.1 hy with hy | hy
        · exact hs y hy
        · rw [List.mem_singleton.1 hy]; exact rrV_size _
      · rw [if_neg ok]; exact ev_neg ok (ev_now rfl)
    rw [if_neg k1]
    refine ev_neg k1 ?_
    refine Ev.step (spec_ReadInode.j4.eq_2 _ _ _ _ _ _ _ _ _) ?_
    rw [w64s i (by omega)]
    by_cases k2 : kd = 2
    · rw [if_pos k2, rdOf_at _ ws i (by omega)]
      refine ev_pos k2 (ev_pos (by omega) (ev_pos (by omega) (Ev.bind (sRN_ev ws[i]) ?_)))
      by_cases ok : (rnV ws[i]).2.2 = true
      · rw [if_pos ok]
        refine ev_pos ok (ev_pos (by omega) ?_)
        refine sRI_l ws h8 hw kd sz ct mk hm f (i + 1) _ _ (by omega) (by omega) (by simp; omega) hs ?_
        intro y hy
        rcases List.mem_append.1 hy with hy | hy
        · exact hz y hy
        · rw [List.mem_singleton.1 hy]; exact rnV_size _
      · rw [if_neg ok]; exact ev_neg ok (ev_now rfl)
    · rw [if_neg k2]
      exact ev_neg k2 (sRI_l ws h8 hw kd sz ct mk hm f (i + 1) rs es (by omega) (by omega) (by omega) hs hz)
theorem sRI_bad (ws : List ByteArray) (h8 : ws.length = 8) : ∀ (f i : Nat), i + f = 8 → (∃ w ∈ ws.drop i, w.size ≠ 8) → Ev (fun k => spec_ReadInode.l0 k ws (i : Int)) riF
  | 0, i, hi, hx => by
    rw [List.drop_of_length_le (by omega)] at hx
    obtain ⟨w, hw, _⟩ := hx
    cases hw
  | f + 1, i, hi, hx => by
    refine Ev.step (spec_ReadInode.l0.eq_2 _ _) ?_
    refine ev_pos (by omega) (ev_pos (by omega) (ev_pos (by omega) ?_))
    rw [rdOf_at _ ws i (by omega), w64s i (by omega)]
    by_cases c : ws[i].size = 8
    · refine ev_pos (by omega) (sRI_bad ws h8 f (i + 1) (by omega) ?_)
      rw [drop_at ws i (by omega)] at hx
      obtain ⟨w, hw, hn⟩ := hx
      rcases List.mem_cons.1 hw with rfl | hw
      · exact absurd c hn
      · exact ⟨w, hw, hn⟩
    · exact ev_neg (by omega) (ev_now rfl)
theorem sRI_good (ws : List ByteArray) (h8 : ws.length = 8) (hw : ∀ w ∈ ws, w.size = 8) : ∀ (f i : Nat), i + f = 8 → Ev (fun k => spec_ReadInode.l0 k ws (i : Int)) (riV ws)
  | 0, i, hi => by
    refine Ev.step (spec_ReadInode.l0.eq_2 _ _) ?_
    have hA : riA ws = ws[0] := rdOf_at _ ws 0 (by omega)
    have hA8 : (riA ws).size = 8 := by rw [hA]; exact hw _ (List.getElem_mem _)
    have hl := b_len (riA ws)
    have hb := bt_byte (riA ws) 0 (by omega)
    unfold riV
    rw [if_pos ⟨h8, hw⟩]
    show Ev _ (riM ws _ _ _ _ _)
    have hA0 : rdOf ByteArray.empty ws 0 = riA ws := rfl
    rw [hA0]
    refine ev_neg (by omega) (ev_pos (by omega) (ev_pos (by omega) (Ev.bind (sNA_ev (riA ws) (by omega) 1 2 (by omega) (by omega) (by omega)) (Ev.bind (sNA_ev (riA ws) (by omega) 3 2 (by omega) (by omega) (by omega)) (Ev.bind (zeroText_ev 8 (by omega)) ?_)))))
    rw [naG1, w64 (x := bt (riA ws) 0) (by have := hb.1; simpa using (by omega : (-9223372036854775808 : Int) ≤ bt (riA ws) ((0 : Nat) : Int))) (by have := hb.2; simpa using (by omega : bt (riA ws) ((0 : Nat) : Int) < (9223372036854775808 : Int)))]
    by_cases k1 : bt (riA ws) 0 = 1
    · rw [if_pos k1]
      refine ev_pos k1 (ev_pos (by omega) ?_)
      refine Ev.step (spec_ReadInode.j1.eq_2 _ _ _ _ _ _) ?_
      refine sRI_l ws h8 hw _ _ _ _ ?_ 6 2 [] [] (by omega) (by simp) (by simp) (by simp) (by simp)
      rw [show (1 : Int) = ((1 : Nat) : Int) from rfl, rdOf_at _ ws 1 (by omega), hw _ (List.getElem_mem _)]
      exact Nat.le_refl _
    · rw [if_neg k1]
      refine ev_neg k1 ?_
      refine Ev.step (spec_ReadInode.j1.eq_2 _ _ _ _ _ _) ?_
      exact sRI_l ws h8 hw _ _ _ _ (Nat.zero_le _) 6 2 [] [] (by omega) (by simp) (by simp) (by simp) (by simp)
  | f + 1, i, hi => by
    refine Ev.step (spec_ReadInode.l0.eq_2 _ _) ?_
    refine ev_pos (by omega) (ev_pos (by omega) (ev_pos (by omega) ?_))
    rw [rdOf_at _ ws i (by omega), w64s i (by omega)]
    have := hw ws[i] (List.getElem_mem _)
    exact ev_pos (by omega) (sRI_good ws h8 hw f (i + 1) (by omega))
theorem sRI_ev (ws : List ByteArray) : Ev (fun k => spec_ReadInode.f k ws) (riV ws) := by
  unfold spec_ReadInode.f
  by_cases h8 : ws.length = 8
  · refine ev_pos (by omega) ?_
    by_cases hw : ∀ w ∈ ws, w.size = 8
    · exact sRI_good ws h8 hw 8 0 (by omega)
    · refine ev_to (sRI_bad ws h8 8 0 (by omega) ?_) (if_neg (fun h => hw h.2)).symm
      rw [List.drop_zero]
      simpa using hw
  · exact ev_neg (by omega) (ev_now (if_neg (fun h => h8 h.1)).symm)

theorem cf_all (ws : List ByteArray) (hn : ws.length ≤ 4000000) (hw : ∀ w ∈ ws, w.size = 8) : ∀ (f i : Nat), i + f = ws.length → Ev (fun k => slices_IndexFunc_string.l0 k ws (ws.length : Int) (i : Int)) (-1)
  | 0, i, hi => by
    refine Ev.step (slices_IndexFunc_string.l0.eq_2 _ _ _) ?_
    exact ev_neg (by omega) (ev_now rfl)
  | f + 1, i, hi => by
    refine Ev.step (slices_IndexFunc_string.l0.eq_2 _ _ _) ?_
    have := hw ws[i] (List.getElem_mem _)
    rw [rdOf_at _ ws i (by omega), w64s i (by omega)]
    refine ev_pos (by omega) (ev_pos (by omega) (ev_pos (by omega) (Ev.bind (ev_eq rfl) (ev_neg (by simp [this]) (cf_all ws hn hw f (i + 1) (by omega))))))
theorem cf_some (ws : List ByteArray) (hn : ws.length ≤ 4000000) : ∀ (f i : Nat), i + f = ws.length → (∃ w ∈ ws.drop i, w.size ≠ 8) → ∃ m : Nat, Ev (fun k => slices_IndexFunc_string.l0 k ws (ws.length : Int) (i : Int)) (m : Int)
  | 0, i, hi, hx => by
    rw [List.drop_of_length_le (by omega)] at hx
    obtain ⟨w, hw, _⟩ := hx
    cases hw
  | f + 1, i, hi, hx => by
    by_cases c : ws[i].size = 8
    · obtain ⟨m, hm⟩ := cf_some ws hn f (i + 1) (by omega) (by
        rw [drop_at ws i (by omega)] at hx
        obtain ⟨w, hw, hn⟩ := hx
        rcases List.mem_cons.1 hw with rfl | hw
        · exact absurd c hn
        · exact ⟨w, hw, hn⟩)
      refine ⟨m, ?_⟩
      refine Ev.step (slices_IndexFunc_string.l0.eq_2 _ _ _) ?_
      rw [rdOf_at _ ws i (by omega), w64s i (by omega)]
      exact ev_pos (by omega) (ev_pos (by omega) (ev_pos (by omega) (Ev.bind (ev_eq rfl) (ev_neg (by simp [c]) hm))))
    · refine ⟨i, ?_⟩
      refine Ev.step (slices_IndexFunc_string.l0.eq_2 _ _ _) ?_
      rw [rdOf_at _ ws i (by omega)]
      exact ev_pos (by omega) (ev_pos (by omega) (ev_pos (by omega) (Ev.bind (ev_eq rfl) (ev_pos (by simpa using (by omega : ¬ ((ws[i].size : Int) = 8))) (ev_now rfl)))))
theorem iRI_end (ws : List ByteArray) (h8 : ws.length = 8) (kd sz ct : Int) (mk : ByteArray) (rs : List S42) (es : List S47) (hm : mk.size ≤ 8) (hr : rs.length ≤ 8) (he : es.length ≤ 8) (hs : ∀ y ∈ rs, y.f2.size ≤ 8) (hz : ∀ y ∈ es, y.f1.size ≤ 8) : Ev (fun k => impl_ReadInode.j4 k ws kd sz ct mk rs es) (riT ws kd sz ct mk rs es) := by
  refine Ev.step (impl_ReadInode.j4.eq_2 _ _ _ _ _ _ _) ?_
  have hl := iwV_len kd sz ct mk rs es
  refine Ev.bind (iOkI_ev kd sz ct mk rs es (by omega) (by omega) (fun y hy => by have := hs y hy; omega) (fun y hy => by have := hz y hy; omega)) ?_
  have hv : iwV kd sz ct mk rs es = if okI kd sz ct mk rs es = true then fil8 ([wdT (nt kd 1 ++ nt sz 2 ++ nt ct 2), wdT mk] ++ rcW rs ++ enW es) else [] := rfl
  by_cases c : okI kd sz ct mk rs es = true
  · rw [if_pos c] at hv
    refine ev_pos c (Ev.bind (iIT_ev kd sz ct mk rs es (by omega) (by omega) (by omega) (fun y hy => by have := hs y hy; omega) (fun y hy => by have := hz y hy; omega)) ?_)
    rw [← hv]
    refine Ev.bind (iWords_ev _ _ (by omega)) ?_
    exact eq_riT ws kd sz ct mk rs es (fun c => ev_pos c (ev_now rfl)) (fun c => ev_neg c (ev_now rfl))
  · rw [if_neg c] at hv
    refine ev_neg c (ev_now ?_)
    unfold riT
    rw [if_neg]
    · rfl
    · intro hc
      unfold eqW at hc
      have := of_decide_eq_true hc
      rw [← this, hv] at h8
      cases h8
theorem iRI_l (ws : List ByteArray) (h8 : ws.length = 8) (hw : ∀ w ∈ ws, w.size = 8) (kd sz ct : Int) (mk : ByteArray) (hm : mk.size ≤ 8) (hk : kd = 1 ∨ kd = 2) : ∀ (f i : Nat) (rs : List S42) (es : List S47), i + f = 6 → rs.length ≤ i → es.length ≤ i → (∀ y ∈ rs, y.f2.size ≤ 8) → (∀ y ∈ es, y.f1.size ≤ 8) → Ev (fun k => impl_ReadInode.l0 k ws (ws.drop 2) ((ws.drop 2).length : Int) (i : Int) kd sz ct mk rs es) (riM ws kd sz ct mk (scV kd ((ws.drop 2).drop i) rs es))
  | 0, i, rs, es, hi, lr, le, hs, hz => by
    have hd : (ws.drop 2).length = 6 := by rw [List.length_drop]; omega
    refine Ev.step (impl_ReadInode.l0.eq_2 _ _ _ _ _ _ _ _ _ _) ?_
    refine ev_neg (by omega) (ev_to (iRI_end ws h8 kd sz ct mk rs es hm (by omega) (by omega) hs hz) ?_)
    rw [show (ws.drop 2).drop i = [] from List.drop_of_length_le (by omega)]; rfl
  | f + 1, i, rs, es, hi, lr, le, hs, hz => by
    have hd : (ws.drop 2).length = 6 := by rw [List.length_drop]; omega
    refine Ev.step (impl_ReadInode.l0.eq_2 _ _ _ _ _ _ _ _ _ _) ?_
    refine ev_pos (by omega) (ev_pos (by omega) (ev_pos (by omega) (Ev.bind (ev_eq zeroWord_eq) ?_)))
    have hsz : ((ws.drop 2)[i]'(by omega)).size = 8 := hw _ (List.mem_of_mem_drop (List.getElem_mem _))
    rw [rdOf_at _ (ws.drop 2) i (by omega), drop_at (ws.drop 2) i (by omega)]
    generalize (ws.drop 2)[i]'(by omega) = w at hsz
    unfold scV
    by_cases z : w.toList = (zb 8).toList
    · rw [if_pos z]
      exact ev_pos z (iRI_end ws h8 kd sz ct mk rs es hm (by omega) (by omega) hs hz)
    rw [if_neg z]
    refine ev_neg z (Ev.bind (iRR_ev w (by omega)) (Ev.bind (iRN_ev w) ?_))
    rcases hk with k1 | k2
    · rw [if_pos k1]
      refine ev_pos k1 ?_
      refine Ev.step (impl_ReadInode.j3.eq_2 _ _ _ _ _ _ _ _ _ _ _ _ _ _ _ _ _) ?_
      by_cases ok : (rrV w).2.2.2 = true
      · rw [if_pos ok]
        refine ev_pos ok (ev_pos (by omega) ?_)
        rw [w64s i (by omega)]
        refine iRI_l ws h8 hw kd sz ct mk hm (.inl k1) f (i + 1) _ _ (by omega) (by simp; omega) (by omega) ?_ hz
        intro y hy
        rcases List.mem_append.1 hy with hy | hy
        · exact hs y hy
        · rw [List.mem_singleton.1 hy]; exact rrV_size _
      · rw [if_neg ok]; exact ev_neg ok (ev_neg (by omega) (ev_now rfl))
    · rw [if_neg (by omega : ¬ kd = 1), if_pos k2]
      refine ev_neg (by omega) ?_
      refine Ev.step (impl_ReadInode.j3.eq_2 _ _ _ _ _ _ _ _ _ _ _ _ _ _ _ _ _) ?_
      refine ev_neg (by simp) (ev_pos k2 ?_)
      by_cases ok : (rnV w).2.2 = true
      · rw [if_pos ok]
        refine ev_pos ok (ev_pos (by omega) ?_)
        rw [w64s i (by omega)]
        refine iRI_l ws h8 hw kd sz ct mk hm (.inr k2) f (i + 1) _ _ (by omega) (by omega) (by simp; omega) hs ?_
        intro y hy
        rcases List.mem_append.1 hy with hy | hy
        · exact hz y hy
        · rw [List.mem_singleton.1 hy]; exact rnV_size _
      · rw [if_neg ok]; exact ev_neg ok (ev_now rfl)
theorem iwV_none (ws : List ByteArray) (h8 : ws.length = 8) (kd sz ct : Int) (mk : ByteArray) (h : eqW (iwV kd sz ct mk [] []) ws = true) : ws[2].toList = (zb 8).toList := by
  unfold eqW at h
  have h := of_decide_eq_true h
  unfold iwV at h
  split at h
  · unfold fil8 rcW enW at h
    subst h
    simp
  · rw [← h] at h8; cases h8
theorem iRI_o (ws : List ByteArray) (h8 : ws.length = 8) (hw : ∀ w ∈ ws, w.size = 8) (kd sz ct : Int) (mk : ByteArray) (hm : mk.size ≤ 8) (k1 : kd ≠ 1) (k2 : kd ≠ 2) : Ev (fun k => impl_ReadInode.l0 k ws (ws.drop 2) ((ws.drop 2).length : Int) 0 kd sz ct mk [] []) (riT ws kd sz ct mk [] []) := by
  have hd : (ws.drop 2).length = 6 := by rw [List.length_drop]; omega
  refine Ev.step (impl_ReadInode.l0.eq_2 _ _ _ _ _ _ _ _ _ _) ?_
  refine ev_pos (by omega) (ev_pos (by omega) (ev_pos (by omega) (Ev.bind (ev_eq zeroWord_eq) ?_)))
  have hr : rdOf ByteArray.empty (ws.drop 2) 0 = ws[2] := by
    rw [show (0 : Int) = ((0 : Nat) : Int) from rfl, rdOf_at _ (ws.drop 2) 0 (by omega), List.getElem_drop]
  rw [hr]
  have hsz := hw ws[2] (List.getElem_mem _)
  by_cases z : ws[2].toList = (zb 8).toList
  · exact ev_pos z (iRI_end ws h8 kd sz ct mk [] [] hm (by simp) (by simp) (by simp) (by simp))
  · refine ev_neg z (Ev.bind (iRR_ev _ (by omega)) (Ev.bind (iRN_ev _) (ev_neg k1 ?_)))
    refine Ev.step (impl_ReadInode.j3.eq_2 _ _ _ _ _ _ _ _ _ _ _ _ _ _ _ _ _) ?_
    refine ev_neg (by simp) (ev_neg k2 (ev_now ?_))
    unfold riT
    rw [if_neg (fun hc => z (iwV_none ws h8 kd sz ct mk hc))]
    rfl
theorem iRI_main (ws : List ByteArray) (h8 : ws.length = 8) (hw : ∀ w ∈ ws, w.size = 8) : Ev (fun k => impl_ReadInode.j0 k ws false) (riV ws) := by
  refine Ev.step (impl_ReadInode.j0.eq_2 _ _) ?_
  have hA : riA ws = ws[0] := rdOf_at _ ws 0 (by omega)
  have hA8 : (riA ws).size = 8 := by rw [hA]; exact hw _ (List.getElem_mem _)
  have hA0 : rdOf ByteArray.empty ws 0 = riA ws := rfl
  unfold riV
  rw [if_pos ⟨h8, hw⟩, hA0]
  refine ev_neg (by simp) (ev_pos (by omega) (Ev.bind (iNA_ev (riA ws) (by omega) 0 1 (by omega) (by omega) (by omega)) (Ev.bind (iNA_ev (riA ws) (by omega) 1 2 (by omega) (by omega) (by omega)) (Ev.bind (iNA_ev (riA ws) (by omega) 3 2 (by omega) (by omega) (by omega)) ?_))))
  have main : ∀ (kd sz ct : Int) (mk : ByteArray), mk.size ≤ 8 → Ev (fun k => impl_ReadInode.j1 k ws kd sz ct mk) (riM ws kd sz ct mk (scV kd (ws.drop 2) [] [])) := by
    intro kd sz ct mk hm
    refine Ev.step (impl_ReadInode.j1.eq_2 _ _ _ _ _) ?_
    refine ev_pos (by omega) ?_
    by_cases hk : kd = 1 ∨ kd = 2
    · exact iRI_l ws h8 hw kd sz ct mk hm hk 6 0 [] [] (by omega) (by simp) (by simp) (by simp) (by simp)
    · rw [scV_other kd (by omega) (by omega)]
      exact iRI_o ws h8 hw kd sz ct mk hm (by omega) (by omega)
  by_cases k1 : naG (riA ws) 1 0 0 = 1
  · rw [if_pos k1]
    refine ev_pos k1 (ev_pos (by omega) (main _ _ _ _ ?_))
    rw [show (1 : Int) = ((1 : Nat) : Int) from rfl, rdOf_at _ ws 1 (by omega), hw _ (List.getElem_mem _)]
    exact Nat.le_refl _
  · rw [if_neg k1]
    exact ev_neg k1 (main _ _ _ _ (Nat.zero_le _))
theorem iRI_ev (ws : List ByteArray) (hn : ws.length ≤ 4000000) : Ev (fun k => impl_ReadInode.f k ws) (riV ws) := by
  unfold impl_ReadInode.f
  by_cases h8 : ws.length = 8
  · refine ev_pos (by omega) ?_
    unfold slices_ContainsFunc_string.f slices_IndexFunc_string.f
    by_cases hw : ∀ w ∈ ws, w.size = 8
    · exact Ev.bind (Ev.bind (cf_all ws hn hw ws.length 0 (by omega)) (ev_now rfl)) (ev_to (iRI_main ws h8 hw) rfl)
    · obtain ⟨m, hm⟩ := cf_some ws hn ws.length 0 (by omega) (by rw [List.drop_zero]; simpa using hw)
      refine Ev.bind (Ev.bind hm (ev_now rfl)) ?_
      rw [decide_eq_true (show (m : Int) ≥ 0 by omega)]
      refine Ev.step (impl_ReadInode.j0.eq_2 _ _) ?_
      exact ev_pos rfl (ev_now (if_neg (fun h => hw h.2)).symm)
  · refine ev_neg (by omega) ?_
    refine Ev.step (impl_ReadInode.j0.eq_2 _ _) ?_
    exact ev_pos rfl (ev_now (if_neg (fun h => h8 h.1)).symm)

/-! ### FnExactReadInode -/
theorem wiR8 : ∀ (rs : List S42), (∀ y ∈ rs, y.f2.size ≤ 8) → wiRecS rs ≤ 9 * rs.length
  | [], _ => by simp [wiRecS, sumBy]
  | y :: r, h => by
    have ih := wiR8 r (fun z hz => h z (List.mem_cons_of_mem _ hz))
    have hy := h y (List.mem_cons_self ..)
    unfold wiRecS at ih ⊢
    rw [sumBy_cons, List.length_cons]
    unfold wiRec at ih ⊢
    omega
theorem wiE8 : ∀ (rs : List S47), (∀ y ∈ rs, y.f1.size ≤ 8) → wiEntryS rs ≤ 9 * rs.length
  | [], _ => by simp [wiEntryS, sumBy]
  | y :: r, h => by
    have ih := wiE8 r (fun z hz => h z (List.mem_cons_of_mem _ hz))
    have hy := h y (List.mem_cons_self ..)
    unfold wiEntryS at ih ⊢
    rw [sumBy_cons, List.length_cons]
    unfold wiEntry at ih ⊢
    omega
theorem FnExactReadInode : laws_FnExactReadInode.Law := by
  intro xs hx
  apply Ev.rounds
  unfold laws_FnExactReadInode.f
  refine Ev.bind (szStringS_ev xs (by omega) hx.2 _ (by omega) (by omega)) ?_
  by_cases h : left 1048576 (wtSS xs) < 0
  · exact ev_pos h (ev_now rfl)
  have h1 := (left_le (a := 1048576) (t := wtSS xs) (by omega)).1
  have h2 : xs.length + sumBy (fun s : ByteArray => s.size) xs ≤ 1048576 := by
    have : wtSS xs = xs.length + sumBy (fun s : ByteArray => s.size) xs := rfl
    omega
  refine ev_neg h ?_
  refine Ev.step (laws_FnExactReadInode.j0.eq_2 _) ?_
  obtain ⟨lr, le, hr, he, hm⟩ := riV_small xs
  have hS := sRI_ev xs
  have hI := iRI_ev xs (by omega)
  revert lr le hr he hm hS hI
  generalize riV xs = v
  obtain ⟨kd, sz, ct, mk, rs, es, ok⟩ := v
  dsimp only
  intro lr le hr he hm hS hI
  have w1 := wiR8 rs hr
  have w2 := wiE8 es he
  have heq := eqI_ev kd sz ct mk rs es (by omega) (by omega)
  repeat' first
    | (with_reducible exact ev_now rfl)
    | (with_reducible refine Ev.bind (toStringS_ev _ (by omega)) ?_)
    | (with_reducible refine Ev.bind (hS) ?_)
    | (with_reducible refine Ev.bind (hI) ?_)
    | (with_reducible refine Ev.bind (eqStringS_ev _ (by omega)) ?_)
    | (with_reducible refine Ev.bind (markStringS_ev _ 1 (by omega) (by omega)) ?_)
    | (with_reducible refine Ev.bind (heq) ?_)
    | (with_reducible refine Ev.bind (markInode_m kd sz ct mk _ _ (by omega)) ?_)
    | (with_reducible refine Ev.bind (heldInode_m kd sz ct mk _ _ (by omega)) ?_)
    | (with_reducible refine ev_pos rfl ?_)
    | ((with_reducible refine ev_pos ?c_ ?_); (case c_ => first | rfl | omega | (dsimp only; omega) | (simp only [decide_eq_true_eq]; omega) | (simp; done)))
    | ((with_reducible refine ev_neg ?c_ ?_); (case c_ => first | rfl | omega | (dsimp only; omega) | (simp only [decide_eq_true_eq]; omega) | (simp; done)))
    | (refine Ev.step (laws_FnExactReadInode.j0.eq_2 _) ?_)
    | (refine Ev.step (laws_FnExactReadInode.j1.eq_2 _ _ _ _ _ _ _ _ _ _ _ _ _ _ _ _ _) ?_)
    | (refine Ev.step (laws_FnExactReadInode.j2.eq_2 _ _ _ _ _ _ _ _ _ _ _ _ _ _ _ _) ?_)
    | (refine Ev.step (laws_FnExactReadInode.j3.eq_2 _ _ _ _ _ _ _ _ _ _ _ _ _ _ _ _) ?_)
    | (refine Ev.step (laws_FnExactReadInode.j4.eq_2 _ _ _ _ _ _ _ _ _ _ _ _ _ _ _) ?_)
    | (refine Ev.step (laws_FnExactReadInode.j5.eq_2 _ _ _ _ _ _ _ _ _ _ _ _ _ _) ?_)
    | (refine Ev.step (laws_FnExactReadInode.j6.eq_2 _ _ _ _ _ _ _ _ _ _ _ _ _ _ _ _) ?_)
    | (refine Ev.step (laws_FnExactReadInode.j7.eq_2 _ _ _ _ _ _ _ _ _ _ _ _ _ _ _) ?_)
    | (refine Ev.step (laws_FnExactReadInode.j8.eq_2 _ _ _ _ _ _ _ _) ?_)
    | (refine Ev.step (laws_FnExactReadInode.j9.eq_2 _ _ _ _ _ _ _) ?_)
    | ((with_reducible refine ev_now ?c_); (case c_ => first | rfl | (simp; done)))
    | (dsimp only)

end Go.Proofs.YtjfhddenmnjgbaaDoor.Pure
