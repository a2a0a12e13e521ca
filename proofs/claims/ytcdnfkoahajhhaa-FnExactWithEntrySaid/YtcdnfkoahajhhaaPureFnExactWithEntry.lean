/- The pure statement of FnExactWithEntry is proved: for all arguments within the row's own bounds the Lean function that the law's walk comes to answers true. Conditions: none beyond these bounds. -/
import Derived.Test.YtcdnfkoahajhhaaStFnExactWithEntry
import Derived.Test.YtcdnfkoahajhhaaBase
namespace Go.Proofs.Ytcdnfkoahajhhaa.Pure
open Go.RowKit Go.Proofs.Ytcdnfkoahajhhaa.PFnExactWithEntry Go.Proofs.YtcdnfkoahajhhaaW.PrintWords Go.Proofs.YtcdnfkoahajhhaaW.PrintLast Go.Proofs.Ytcdnfkoahajhhaa.Base
set_option linter.unusedVariables false
set_option linter.unusedSimpArgs false
/-! ### markstrings -/
theorem mt_l (n : Nat) : ∀ o : ByteArray, o.size + 40 * (n + 1) ≤ 4000000000000000 → ∃ r : ByteArray, Ev (fun k => laws_markText.l0 k n o) r := by
  induction n using Nat.strongRecOn with
  | _ n ih =>
    intro o ho
    by_cases h : (n : Int) > 0
    · have hd : wrap64 (Int.tdiv (n : Int) 10) = ((n / 10 : Nat) : Int) := by
        rw [Int.tdiv_eq_ediv_of_nonneg (by omega), w64 (by omega) (by omega)]; omega
      obtain ⟨r, hr⟩ := ih (n / 10) (by omega) (strOfNums [wrap64 (48 + Int.tmod (n : Int) 10) % 256] ++ o) (by rw [ByteArray.size_append, strOfNums_size]; simp only [List.length_singleton]; omega)
      refine ⟨r, ?_⟩
      refine Ev.step (laws_markText.l0.eq_2 _ _) ?_
      refine ev_pos h (Ev.bind (Ev.now _) (ev_pos (by rw [strOfNums_size]; simp only [List.length_singleton]; omega) ?_))
      rw [hd]
      exact hr
    · refine ⟨(⟨#[109]⟩ : ByteArray) ++ o, ?_⟩
      refine Ev.step (laws_markText.l0.eq_2 _ _) ?_
      exact ev_neg h (ev_pos (by omega) (ev_now rfl))
noncomputable def mtx (n : Nat) : ByteArray := evv ⟨#[]⟩ (fun k => laws_markText.f k (n : Int))
theorem mtx_ev (n : Nat) (hn : n ≤ 4000000) : Ev (fun k => laws_markText.f k (n : Int)) (mtx n) := by
  unfold mtx
  apply evv_ev
  by_cases h : (n : Int) ≤ 0
  · exact ⟨_, by unfold laws_markText.f; exact ev_pos h (Ev.now _)⟩
  · have e0 : (⟨#[]⟩ : ByteArray).size = 0 := rfl
    obtain ⟨r, hr⟩ := mt_l n ⟨#[]⟩ (by omega)
    exact ⟨r, by unfold laws_markText.f; exact ev_neg h hr⟩
noncomputable def smarks (a n : Nat) : List ByteArray := (List.range' a n).map mtx
theorem smarks_len (a n : Nat) : (smarks a n).length = n := by simp [smarks]



/-! ### t_Rec -/
def wtRec (x : S181) : Nat := x.f2.size + (0)

def wiRec (x : S170) : Nat := x.f2.size + (0)
def wtRecS (xs : List S181) : Nat := xs.length + sumBy wtRec xs

def wiRecS (xs : List S170) : Nat := xs.length + sumBy wiRec xs
def cvRec (x : S181) : S170 := ⟨x.f0, x.f1, x.f2⟩

theorem wiRec_cv (x : S181) : wiRec (cvRec x) = wtRec x := by simp only [wiRec, wtRec, cvRec]

theorem wiRecS_cv (xs : List S181) : wiRecS (xs.map cvRec) = wtRecS xs := by
  unfold wiRecS wtRecS sumBy
  rw [List.length_map, List.map_map, List.map_congr_left (f := wiRec ∘ cvRec) (g := wtRec) (fun x _ => wiRec_cv x)]

theorem rdlRec (xs : List S181) (i : Nat) (h : i < xs.length) : rd_T181 xs (i : Int) = xs[i] := getD_at _ xs i h

theorem rdiRec (xs : List S170) (i : Nat) (h : i < xs.length) : rd_T170 xs (i : Int) = xs[i] := getD_at _ xs i h
theorem szRec_ev (x : S181) (hx : Wf181 x) (a : Int) (g0 : 0 ≤ a) (g1 : a ≤ 1048576) : Ev (fun k => laws_szRec.f x.f0 x.f1 x.f2 a) (left a (wtRec x)) := by
  unfold laws_szRec.f wtRec
  have b2 := (hx.2.2)
  rw [w64 (x := a - (x.f2.size : Int)) (by omega) (by omega)]
  refine ev_sub a (by omega) (fun q2 => ?_)
  exact ev_now (left_zero (by omega)).symm
theorem szRecS_l (xs : List S181) (hn : xs.length ≤ 1048576) (hw : ∀ y ∈ xs, Wf181 y) : ∀ (i : Nat) (a : Int), i ≤ xs.length → 0 ≤ a → a ≤ 1048576 → Ev (fun k => laws_szRecS.l0 k xs a i) (left a (sumBy wtRec (xs.drop i)))
  | i, a, hi, h0, h1 => by
    refine Ev.step (laws_szRecS.l0.eq_2 _ _ _) ?_
    by_cases h : i < xs.length
    · refine ev_pos (by omega) (ev_pos (by omega) ?_)
      rw [rdlRec xs i h, w64s i (by omega), drop_at xs i h, sumBy_cons]
      refine Ev.bind (szRec_ev _ (hw _ (List.getElem_mem h)) a h0 h1) (ev_call (fun q => ?_))
      have := left_le q
      exact szRecS_l xs hn hw (i + 1) _ (by omega) (by omega) (by omega)
    · refine ev_neg (by omega) (ev_now ?_)
      rw [List.drop_of_length_le (by omega), sumBy_nil, left_zero h0]
  termination_by i => xs.length - i
theorem szRecS_ev (xs : List S181) (hb : xs.length ≤ 140737488351232) (hw : ∀ y ∈ xs, Wf181 y) (a : Int) (h0 : 0 ≤ a) (h1 : a ≤ 1048576) : Ev (fun k => laws_szRecS.f k xs a) (left a (wtRecS xs)) := by
  unfold laws_szRecS.f wtRecS
  rw [w64 (x := a - (xs.length : Int)) (by omega) (by omega)]
  refine ev_sub a h0 (fun q => ?_)
  have := szRecS_l xs (by omega) hw 0 (a - xs.length) (by omega) (by omega) (by omega)
  rw [List.drop_zero] at this
  exact this

theorem toRecS_l (xs : List S181) (hn : wtRecS xs ≤ 1048576) : ∀ (i : Nat) (ys : List S170), i ≤ xs.length → ys.length = xs.length → ys.take i = (xs.map cvRec).take i → Ev (fun k => laws_toRecS.l0 k xs ys i) (xs.map cvRec)
  | i, ys, hi, hl, ht => by
    have hn2 : xs.length ≤ 1048576 := by unfold wtRecS at hn; omega
    refine Ev.step (laws_toRecS.l0.eq_2 _ _ _) ?_
    by_cases h : i < xs.length
    · refine ev_pos (by omega) (ev_pos (by omega) ?_)
      have hx : wtRec xs[i] ≤ 1048576 := by have := sumBy_mem (f := wtRec) (List.getElem_mem h); unfold wtRecS at hn; omega
      rw [rdlRec xs i h, w64s i (by omega)]
      refine Ev.bind (ev_eq rfl) (ev_pos (by omega) ?_)
      rw [Int.toNat_natCast]
      exact toRecS_l xs hn (i + 1) _ (by omega) (by simp [hl]) (take_set (by simp [hl]) ht (by simpa using h) (by simp [cvRec]))
    · have : i = xs.length := by omega
      subst this
      exact ev_neg (by omega) (ev_now (take_all (by simp [hl]) (by simpa using ht)))
  termination_by i => xs.length - i
theorem toRecS_ev (xs : List S181) (hn : wtRecS xs ≤ 1048576) : Ev (fun k => laws_toRecS.f k xs) (xs.map cvRec) := by
  have hn2 : xs.length ≤ 1048576 := by unfold wtRecS at hn; omega
  unfold laws_toRecS.f
  exact ev_pos (by omega) (ev_pos (by omega) (toRecS_l xs hn 0 _ (by omega) (by simp) (by simp)))

theorem eqRec_ev (x : S170) : Ev (fun _ => laws_eqRec.f x.f0 x.f1 x.f2 x.f0 x.f1 x.f2) true := ev_eq (by simp [laws_eqRec.f])
theorem eqRecS_l (xs : List S170) (hn : wiRecS xs ≤ 4000000) : ∀ (i : Nat), i ≤ xs.length → Ev (fun k => laws_eqRecS.l0 k xs xs i) true
  | i, hi => by
    have hn2 : xs.length ≤ 4000000 := by unfold wiRecS at hn; omega
    refine Ev.step (laws_eqRecS.l0.eq_2 _ _ _) ?_
    by_cases h : i < xs.length
    · refine ev_pos (by omega) (ev_pos (by omega) (ev_pos (by omega) ?_))
      rw [w64s i (by omega), rdiRec xs i h]
      exact Ev.bind (eqRec_ev _) (ev_pos rfl (eqRecS_l xs hn (i + 1) (by omega)))
    · exact ev_neg (by omega) (ev_now rfl)
  termination_by i => xs.length - i
theorem eqRecS_ev (xs : List S170) (hn : wiRecS xs ≤ 4000000) : Ev (fun k => laws_eqRecS.f k xs xs) true := by
  unfold laws_eqRecS.f
  exact ev_pos rfl (eqRecS_l xs hn 0 (by omega))


/-! ### t_Entry -/
def wtEntry (x : S56) : Nat := x.f1.size + (0)

def wiEntry (x : S59) : Nat := x.f1.size + (0)
def wtEntryS (xs : List S56) : Nat := xs.length + sumBy wtEntry xs

def wiEntryS (xs : List S59) : Nat := xs.length + sumBy wiEntry xs
def cvEntry (x : S56) : S59 := ⟨x.f0, x.f1⟩

theorem wiEntry_cv (x : S56) : wiEntry (cvEntry x) = wtEntry x := by simp only [wiEntry, wtEntry, cvEntry]

theorem wiEntryS_cv (xs : List S56) : wiEntryS (xs.map cvEntry) = wtEntryS xs := by
  unfold wiEntryS wtEntryS sumBy
  rw [List.length_map, List.map_map, List.map_congr_left (f := wiEntry ∘ cvEntry) (g := wtEntry) (fun x _ => wiEntry_cv x)]

theorem rdlEntry (xs : List S56) (i : Nat) (h : i < xs.length) : rd_T56 xs (i : Int) = xs[i] := getD_at _ xs i h

theorem rdiEntry (xs : List S59) (i : Nat) (h : i < xs.length) : rd_T59 xs (i : Int) = xs[i] := getD_at _ xs i h
theorem szEntry_ev (x : S56) (hx : Wf56 x) (a : Int) (g0 : 0 ≤ a) (g1 : a ≤ 1048576) : Ev (fun k => laws_szEntry.f x.f0 x.f1 a) (left a (wtEntry x)) := by
  unfold laws_szEntry.f wtEntry
  have b1 := (hx.2)
  rw [w64 (x := a - (x.f1.size : Int)) (by omega) (by omega)]
  refine ev_sub a (by omega) (fun q1 => ?_)
  exact ev_now (left_zero (by omega)).symm
theorem szEntryS_l (xs : List S56) (hn : xs.length ≤ 1048576) (hw : ∀ y ∈ xs, Wf56 y) : ∀ (i : Nat) (a : Int), i ≤ xs.length → 0 ≤ a → a ≤ 1048576 → Ev (fun k => laws_szEntryS.l0 k xs a i) (left a (sumBy wtEntry (xs.drop i)))
  | i, a, hi, h0, h1 => by
    refine Ev.step (laws_szEntryS.l0.eq_2 _ _ _) ?_
    by_cases h : i < xs.length
    · refine ev_pos (by omega) (ev_pos (by omega) ?_)
      rw [rdlEntry xs i h, w64s i (by omega), drop_at xs i h, sumBy_cons]
      refine Ev.bind (szEntry_ev _ (hw _ (List.getElem_mem h)) a h0 h1) (ev_call (fun q => ?_))
      have := left_le q
      exact szEntryS_l xs hn hw (i + 1) _ (by omega) (by omega) (by omega)
    · refine ev_neg (by omega) (ev_now ?_)
      rw [List.drop_of_length_le (by omega), sumBy_nil, left_zero h0]
  termination_by i => xs.length - i
theorem szEntryS_ev (xs : List S56) (hb : xs.length ≤ 140737488351232) (hw : ∀ y ∈ xs, Wf56 y) (a : Int) (h0 : 0 ≤ a) (h1 : a ≤ 1048576) : Ev (fun k => laws_szEntryS.f k xs a) (left a (wtEntryS xs)) := by
  unfold laws_szEntryS.f wtEntryS
  rw [w64 (x := a - (xs.length : Int)) (by omega) (by omega)]
  refine ev_sub a h0 (fun q => ?_)
  have := szEntryS_l xs (by omega) hw 0 (a - xs.length) (by omega) (by omega) (by omega)
  rw [List.drop_zero] at this
  exact this

theorem toEntryS_l (xs : List S56) (hn : wtEntryS xs ≤ 1048576) : ∀ (i : Nat) (ys : List S59), i ≤ xs.length → ys.length = xs.length → ys.take i = (xs.map cvEntry).take i → Ev (fun k => laws_toEntryS.l0 k xs ys i) (xs.map cvEntry)
  | i, ys, hi, hl, ht => by
    have hn2 : xs.length ≤ 1048576 := by unfold wtEntryS at hn; omega
    refine Ev.step (laws_toEntryS.l0.eq_2 _ _ _) ?_
    by_cases h : i < xs.length
    · refine ev_pos (by omega) (ev_pos (by omega) ?_)
      have hx : wtEntry xs[i] ≤ 1048576 := by have := sumBy_mem (f := wtEntry) (List.getElem_mem h); unfold wtEntryS at hn; omega
      rw [rdlEntry xs i h, w64s i (by omega)]
      refine Ev.bind (ev_eq rfl) (ev_pos (by omega) ?_)
      rw [Int.toNat_natCast]
      exact toEntryS_l xs hn (i + 1) _ (by omega) (by simp [hl]) (take_set (by simp [hl]) ht (by simpa using h) (by simp [cvEntry]))
    · have : i = xs.length := by omega
      subst this
      exact ev_neg (by omega) (ev_now (take_all (by simp [hl]) (by simpa using ht)))
  termination_by i => xs.length - i
theorem toEntryS_ev (xs : List S56) (hn : wtEntryS xs ≤ 1048576) : Ev (fun k => laws_toEntryS.f k xs) (xs.map cvEntry) := by
  have hn2 : xs.length ≤ 1048576 := by unfold wtEntryS at hn; omega
  unfold laws_toEntryS.f
  exact ev_pos (by omega) (ev_pos (by omega) (toEntryS_l xs hn 0 _ (by omega) (by simp) (by simp)))

theorem eqEntry_ev (x : S59) : Ev (fun _ => laws_eqEntry.f x.f0 x.f1 x.f0 x.f1) true := ev_eq (by simp [laws_eqEntry.f])
theorem eqEntryS_l (xs : List S59) (hn : wiEntryS xs ≤ 4000000) : ∀ (i : Nat), i ≤ xs.length → Ev (fun k => laws_eqEntryS.l0 k xs xs i) true
  | i, hi => by
    have hn2 : xs.length ≤ 4000000 := by unfold wiEntryS at hn; omega
    refine Ev.step (laws_eqEntryS.l0.eq_2 _ _ _) ?_
    by_cases h : i < xs.length
    · refine ev_pos (by omega) (ev_pos (by omega) (ev_pos (by omega) ?_))
      rw [w64s i (by omega), rdiEntry xs i h]
      exact Ev.bind (eqEntry_ev _) (ev_pos rfl (eqEntryS_l xs hn (i + 1) (by omega)))
    · exact ev_neg (by omega) (ev_now rfl)
  termination_by i => xs.length - i
theorem eqEntryS_ev (xs : List S59) (hn : wiEntryS xs ≤ 4000000) : Ev (fun k => laws_eqEntryS.f k xs xs) true := by
  unfold laws_eqEntryS.f
  exact ev_pos rfl (eqEntryS_l xs hn 0 (by omega))


/-! ### marksinode -/
noncomputable def rmk (a i : Nat) : S170 := ⟨((a + 3 * i : Nat) : Int), ((a + 3 * i + 1 : Nat) : Int), mtx (a + 3 * i + 2)⟩
noncomputable def rmarks (a n : Nat) : List S170 := (List.range' 0 n).map (rmk a)
theorem rmarks_len (a n : Nat) : (rmarks a n).length = n := by simp [rmarks]
noncomputable def emk (a i : Nat) : S59 := ⟨((a + 2 * i : Nat) : Int), mtx (a + 2 * i + 1)⟩
noncomputable def emarks (a n : Nat) : List S59 := (List.range' 0 n).map (emk a)
theorem emarks_len (a n : Nat) : (emarks a n).length = n := by simp [emarks]
theorem rd_setR (ys : List S170) (x : S170) (i : Nat) (h : i < ys.length) : rd_T170 (ys.set i x) (i : Int) = x := by rw [rdiRec _ i (by simpa using h), List.getElem_set_self]
theorem rd_setE (ys : List S59) (x : S59) (i : Nat) (h : i < ys.length) : rd_T59 (ys.set i x) (i : Int) = x := by rw [rdiEntry _ i (by simpa using h), List.getElem_set_self]
theorem markRecS_m (n a : Nat) (hn : a + 3 * n ≤ 4000000) : ∀ (i : Nat) (ys : List S170), i ≤ n → ys.length = n →
    Ev (fun k => laws_markRecS.l0 k ys ((a + 3 * i : Nat) : Int) (i : Int)) (((a + 3 * n : Nat) : Int), ys.take i ++ (List.range' i (n - i)).map (rmk a))
  | i, ys, hi, hl => by
    refine Ev.step (laws_markRecS.l0.eq_2 _ _ _) ?_
    by_cases h : i < n
    · have e1 : wrap64 (((a + 3 * i : Nat) : Int) + 1) = ((a + 3 * i + 1 : Nat) : Int) := w64s _ (by omega)
      have e2 : wrap64 (((a + 3 * i + 1 : Nat) : Int) + 1) = ((a + 3 * i + 2 : Nat) : Int) := w64s _ (by omega)
      have e3 : wrap64 (((a + 3 * i + 2 : Nat) : Int) + 1) = ((a + 3 * (i + 1) : Nat) : Int) := by rw [show a + 3 * (i + 1) = a + 3 * i + 2 + 1 by omega]; exact w64s _ (by omega)
      refine ev_pos (by omega) (ev_pos (by omega) (Ev.bind (Ev.now _) (Ev.bind (Ev.now _) ?_)))
      rw [e1, e2, e3, Int.toNat_natCast, w64s i (by omega)]
      refine Ev.bind (mtx_ev _ (by omega)) ?_
      refine ev_to (markRecS_m n a hn (i + 1) _ (by omega) (by rw [List.length_set, List.length_set, List.length_set]; exact hl)) ?_
      rw [rd_setR ys _ i (by omega), rd_setR (ys.set i _) _ i (by rw [List.length_set]; omega)]
      simp only [List.set_set]
      congr 1
      rw [List.take_succ_eq_append_getElem (by simp; omega)]
      simp only [List.getElem_set_self, List.append_assoc, List.take_set_of_le (Nat.le_refl i)]
      congr 1
      rw [show n - i = (n - (i + 1)) + 1 by omega, List.range'_succ]
      rfl
    · have : i = n := by omega
      subst this
      refine ev_neg (by omega) (ev_now ?_)
      simp [← hl]
  termination_by i => n - i
theorem markEntryS_m (n a : Nat) (hn : a + 2 * n ≤ 4000000) : ∀ (i : Nat) (ys : List S59), i ≤ n → ys.length = n →
    Ev (fun k => laws_markEntryS.l0 k ys ((a + 2 * i : Nat) : Int) (i : Int)) (((a + 2 * n : Nat) : Int), ys.take i ++ (List.range' i (n - i)).map (emk a))
  | i, ys, hi, hl => by
    refine Ev.step (laws_markEntryS.l0.eq_2 _ _ _) ?_
    by_cases h : i < n
    · have e1 : wrap64 (((a + 2 * i : Nat) : Int) + 1) = ((a + 2 * i + 1 : Nat) : Int) := w64s _ (by omega)
      have e2 : wrap64 (((a + 2 * i + 1 : Nat) : Int) + 1) = ((a + 2 * (i + 1) : Nat) : Int) := by rw [show a + 2 * (i + 1) = a + 2 * i + 1 + 1 by omega]; exact w64s _ (by omega)
      refine ev_pos (by omega) (ev_pos (by omega) (Ev.bind (Ev.now _) ?_))
      rw [e1, e2, Int.toNat_natCast, w64s i (by omega)]
      refine Ev.bind (mtx_ev _ (by omega)) ?_
      refine ev_to (markEntryS_m n a hn (i + 1) _ (by omega) (by rw [List.length_set, List.length_set]; exact hl)) ?_
      rw [rd_setE ys _ i (by omega)]
      simp only [List.set_set]
      congr 1
      rw [List.take_succ_eq_append_getElem (by simp; omega)]
      simp only [List.getElem_set_self, List.append_assoc, List.take_set_of_le (Nat.le_refl i)]
      congr 1
      rw [show n - i = (n - (i + 1)) + 1 by omega, List.range'_succ]
      rfl
    · have : i = n := by omega
      subst this
      refine ev_neg (by omega) (ev_now ?_)
      simp [← hl]
  termination_by i => n - i
theorem markInode_m (kd sz ct : Int) (mk : ByteArray) (rs : List S170) (es : List S59) (hre : 1 + 3 * rs.length + 2 * es.length ≤ 4000000) : Ev (fun k => laws_markInode.f k kd sz ct mk rs es 1) (((1 + 3 * rs.length + 2 * es.length : Nat) : Int), rmarks 1 rs.length, emarks (1 + 3 * rs.length) es.length) := by
  have h1 := markRecS_m rs.length 1 (by omega) 0 rs (by omega) rfl
  have h2 := markEntryS_m es.length (1 + 3 * rs.length) (by omega) 0 es (by omega) rfl
  rw [List.take_zero, List.nil_append, Nat.sub_zero] at h1 h2
  unfold laws_markInode.f laws_markRecS.f laws_markEntryS.f
  exact Ev.bind h1 (Ev.bind h2 (ev_now rfl))
theorem heldRecS_l (n a : Nat) (hn : a + 3 * n ≤ 4000000) : ∀ (i : Nat), i ≤ n → Ev (fun k => laws_heldRecS.l0 k (rmarks a n) ((a + 3 * i : Nat) : Int) (i : Int)) ((a + 3 * n : Nat) : Int)
  | i, hi => by
    refine Ev.step (laws_heldRecS.l0.eq_2 _ _ _) ?_
    have hl := rmarks_len a n
    by_cases h : i < n
    · have e1 : wrap64 (((a + 3 * i : Nat) : Int) + 1) = ((a + 3 * i + 1 : Nat) : Int) := w64s _ (by omega)
      have e2 : wrap64 (((a + 3 * i + 1 : Nat) : Int) + 1) = ((a + 3 * i + 2 : Nat) : Int) := w64s _ (by omega)
      have e3 : wrap64 (((a + 3 * i + 2 : Nat) : Int) + 1) = ((a + 3 * (i + 1) : Nat) : Int) := by rw [show a + 3 * (i + 1) = a + 3 * i + 2 + 1 by omega]; exact w64s _ (by omega)
      have he : rd_T170 (rmarks a n) (i : Int) = rmk a i := by
        rw [rdiRec _ i (by omega)]; simp [rmarks]
      rw [he, e1, e2, e3, w64s i (by omega)]
      exact ev_pos (by omega) (ev_pos (by omega) (ev_pos rfl (ev_pos rfl (Ev.bind (mtx_ev _ (by omega)) (ev_pos rfl (heldRecS_l n a hn (i + 1) (by omega)))))))
    · have : i = n := by omega
      subst this
      exact ev_neg (by omega) (ev_now rfl)
  termination_by i => n - i
theorem heldEntryS_l (n a : Nat) (hn : a + 2 * n ≤ 4000000) : ∀ (i : Nat), i ≤ n → Ev (fun k => laws_heldEntryS.l0 k (emarks a n) ((a + 2 * i : Nat) : Int) (i : Int)) ((a + 2 * n : Nat) : Int)
  | i, hi => by
    refine Ev.step (laws_heldEntryS.l0.eq_2 _ _ _) ?_
    have hl := emarks_len a n
    by_cases h : i < n
    · have e1 : wrap64 (((a + 2 * i : Nat) : Int) + 1) = ((a + 2 * i + 1 : Nat) : Int) := w64s _ (by omega)
      have e2 : wrap64 (((a + 2 * i + 1 : Nat) : Int) + 1) = ((a + 2 * (i + 1) : Nat) : Int) := by rw [show a + 2 * (i + 1) = a + 2 * i + 1 + 1 by omega]; exact w64s _ (by omega)
      have he : rd_T59 (emarks a n) (i : Int) = emk a i := by
        rw [rdiEntry _ i (by omega)]; simp [emarks]
      rw [he, e1, e2, w64s i (by omega)]
      exact ev_pos (by omega) (ev_pos (by omega) (ev_pos rfl (Ev.bind (mtx_ev _ (by omega)) (ev_pos rfl (heldEntryS_l n a hn (i + 1) (by omega))))))
    · have : i = n := by omega
      subst this
      exact ev_neg (by omega) (ev_now rfl)
  termination_by i => n - i
theorem heldInode_m (kd sz ct : Int) (mk : ByteArray) (n m : Nat) (h : 1 + 3 * n + 2 * m ≤ 4000000) : Ev (fun k => laws_heldInode.f k kd sz ct mk (rmarks 1 n) (emarks (1 + 3 * n) m) 1) ((1 + 3 * n + 2 * m : Nat) : Int) := by
  unfold laws_heldInode.f laws_heldRecS.f laws_heldEntryS.f
  exact Ev.bind (heldRecS_l n 1 (by omega) 0 (by omega)) (ev_neg (by omega) (Ev.bind (heldEntryS_l m (1 + 3 * n) (by omega) 0 (by omega)) (ev_neg (by omega) (ev_now rfl))))


/-! ### ent -/
theorem szEnt_ev (e : Int) (p : ByteArray) (we : (Lit.int .i64 e).wf = true) (hp : p.size ≤ 140737488351232) (a : Int) (h0 : 0 ≤ a) (h1 : a ≤ 1048576) : Ev (fun k => laws_szEntry.f e p a) (left a (wtEntry (⟨e, p⟩ : S56))) := szEntry_ev ⟨e, p⟩ ⟨we, hp⟩ a h0 h1
theorem toEnt_eq (e : Int) (p : ByteArray) : laws_toEntry.f e p = some (e, p) := rfl

/-! ### f_inode -/
theorem szI_ev (kd sz ct : Int) (mk : ByteArray) (rs : List S181) (es : List S56) (b3 : mk.size ≤ 140737488351232) (hr : rs.length * 32 ≤ 140737488351232 ∧ ∀ y ∈ rs, Wf181 y) (he : es.length * 24 ≤ 140737488351232 ∧ ∀ y ∈ es, Wf56 y) (a : Int) (g0 : 0 ≤ a) (g1 : a ≤ 1048576) : Ev (fun k => laws_szInode.f k kd sz ct mk rs es a) (left a (mk.size + (wtRecS rs + (wtEntryS es + 0)))) := by
  unfold laws_szInode.f
  rw [w64 (x := a - (mk.size : Int)) (by omega) (by omega)]
  refine ev_sub a (by omega) (fun q3 => ?_)
  refine Ev.bind (szRecS_ev rs (by omega) hr.2 (a - (mk.size : Int)) (by omega) (by omega)) (ev_call (fun q4 => ?_))
  have r4 := left_le q4
  refine Ev.bind (szEntryS_ev es (by omega) he.2 (left (a - (mk.size : Int)) (wtRecS rs)) (by omega) (by omega)) (ev_call (fun q5 => ?_))
  have r5 := left_le q5
  exact ev_now (left_zero (by omega)).symm
theorem toI_ev (kd sz ct : Int) (mk : ByteArray) (rs : List S181) (es : List S56) (hw : mk.size + (wtRecS rs + (wtEntryS es + 0)) ≤ 1048576) : Ev (fun k => laws_toInode.f k kd sz ct mk rs es) (kd, sz, ct, mk, (rs.map cvRec), (es.map cvEntry)) := by
  unfold laws_toInode.f
  refine Ev.bind (toRecS_ev rs (by omega)) ?_
  refine Ev.bind (toEntryS_ev es (by omega)) ?_
  exact ev_now rfl
theorem eqI_ev (kd sz ct : Int) (mk : ByteArray) (rs : List S170) (es : List S59) (hr : wiRecS rs ≤ 4000000) (he : wiEntryS es ≤ 4000000) : Ev (fun k => laws_eqInode.f k kd sz ct mk rs es kd sz ct mk rs es) true := by
  unfold laws_eqInode.f
  refine ev_pos rfl ?_
  refine ev_pos rfl ?_
  refine ev_pos rfl ?_
  refine ev_pos rfl ?_
  refine Ev.bind (eqRecS_ev rs (by omega)) (ev_pos rfl ?_)
  refine Ev.bind (eqEntryS_ev es (by omega)) (ev_pos rfl ?_)
  exact ev_now rfl


/-! ### withoutentry -/
theorem sumBy_filter_le {α : Type} (f : α → Nat) (p : α → Bool) : ∀ xs : List α, sumBy f (xs.filter p) ≤ sumBy f xs
  | [] => Nat.le_refl _
  | x :: r => by
    have ih := sumBy_filter_le f p r
    rw [List.filter_cons]
    split
    · rw [sumBy_cons, sumBy_cons]; omega
    · rw [sumBy_cons]; omega
def dropE (p : ByteArray) (es : List S59) : List S59 := es.filter (fun y => !(y.f1.toList == p.toList))
theorem dropE_len (p : ByteArray) (es : List S59) : (dropE p es).length ≤ es.length := List.length_filter_le _ _
theorem sCopyI_eq (kd sz ct : Int) (mk : ByteArray) (rs : List S170) (es : List S59) (hr : rs.length ≤ 4000000) (he : es.length ≤ 4000000) : spec_l12Copy.f kd sz ct mk rs es = some (kd, sz, ct, mk, rs, es) := by
  unfold spec_l12Copy.f
  simp only [Option.bind_some, List.length_nil, Nat.zero_add, List.nil_append]
  rw [if_pos (by omega), if_pos (by omega)]

theorem iCopyI_eq (kd sz ct : Int) (mk : ByteArray) (rs : List S170) (es : List S59) (hr : rs.length ≤ 4000000) (he : es.length ≤ 4000000) : impl_copyInode.f kd sz ct mk rs es = some (kd, sz, ct, mk, rs, es) := by
  unfold impl_copyInode.f slices_Clone_Rec.f slices_Clone_Entry.f
  rw [if_pos (by omega), if_pos (by omega)]; rfl

theorem iWoE_eq (p : ByteArray) (kd sz ct : Int) (mk : ByteArray) (rs : List S170) (es : List S59) (hr : rs.length ≤ 4000000) (hn : es.length ≤ 1048577) : impl_WithoutEntry.f kd sz ct mk rs es p = some (kd, sz, ct, mk, rs, dropE p es) := by
  unfold impl_WithoutEntry.f
  rw [iCopyI_eq kd sz ct mk rs es hr (by omega), Option.bind_some]
  unfold slices_DeleteFunc_Entry_g98.f
  rw [if_pos (by dsimp only; omega), Option.bind_some]
  rfl

/-! ### blput -/
theorem bl_irr (x : List UInt8) : Op.bytesLess x x = false := by
  have h := bl_leq x x
  cases hb : Op.bytesLess x x with
  | false => rfl
  | true => rw [hb] at h; simp at h
theorem bl_tot {x y : List UInt8} (h : ¬ y = x) : Op.bytesLess y x = !Op.bytesLess x y := by
  have e := bl_leq y x
  rw [beq_false_of_ne h, Bool.or_false] at e
  exact e
theorem ix_put {α : Type} (p : α → Bool) (z : α) : ∀ (l : List α) (i : Nat), (Lib.idxByFrom (fun _ y => p y) z l i = -1 ∧ l.takeWhile (fun y => !p y) = l ∧ l.dropWhile (fun y => !p y) = []) ∨ (Lib.idxByFrom (fun _ y => p y) z l i = ((i + (l.takeWhile (fun y => !p y)).length : Nat) : Int))
  | [], i => .inl ⟨rfl, rfl, rfl⟩
  | y :: r, i => by
    cases h : p y with
    | true => exact .inr (by simp [Lib.idxByFrom, h])
    | false =>
      have e0 : Lib.idxByFrom (fun _ y => p y) z (y :: r) i = Lib.idxByFrom (fun _ y => p y) z r (i + 1) := by simp [Lib.idxByFrom, h]
      rcases ix_put p z r (i + 1) with ⟨e, h1, h2⟩ | e
      · exact .inl ⟨by rw [e0, e], by rw [List.takeWhile_cons]; simp [h, h1], by rw [List.dropWhile_cons]; simp [h, h2]⟩
      · refine .inr ?_
        rw [e0, e, List.takeWhile_cons]
        simp [h]
        omega
theorem take_tw {α : Type} (q : α → Bool) : ∀ l : List α, l.take (l.takeWhile q).length = l.takeWhile q ∧ l.drop (l.takeWhile q).length = l.dropWhile q
  | [] => ⟨rfl, rfl⟩
  | y :: r => by
    rw [List.takeWhile_cons, List.dropWhile_cons]
    cases h : q y with
    | true => simp [take_tw q r]
    | false => simp

/-! ### withentry -/
def insE (x : S59) (d : List S59) : List S59 := d.takeWhile (fun y => Op.bytesLess y.f1.toList x.f1.toList) ++ [x] ++ d.dropWhile (fun y => Op.bytesLess y.f1.toList x.f1.toList)
def putE (x : S59) (xs : List S59) : List S59 := insE x (dropE x.f1 xs)
theorem putE_len (x : S59) (xs : List S59) : (putE x xs).length = (dropE x.f1 xs).length + 1 := by
  have e := congrArg List.length (List.takeWhile_append_dropWhile (p := fun y : S59 => Op.bytesLess y.f1.toList x.f1.toList) (l := dropE x.f1 xs))
  rw [List.length_append] at e
  unfold putE insE
  simp only [List.length_append, List.length_singleton]
  omega
theorem putE_eq (x y : S59) (r : List S59) (h : y.f1.toList = x.f1.toList) : putE x (y :: r) = putE x r := by
  unfold putE dropE
  rw [List.filter_cons, h]; simp
theorem putE_gt (x y : S59) (r : List S59) (h : ¬ y.f1.toList = x.f1.toList) (hl : Op.bytesLess x.f1.toList y.f1.toList = true) : putE x (y :: r) = x :: y :: dropE x.f1 r := by
  have h2 := bl_tot h
  rw [hl] at h2
  unfold putE insE dropE
  rw [List.filter_cons, beq_false_of_ne h]
  simp [h2]
theorem putE_lt (x y : S59) (r : List S59) (h : ¬ y.f1.toList = x.f1.toList) (hl : Op.bytesLess x.f1.toList y.f1.toList = false) : putE x (y :: r) = y :: putE x r := by
  have h2 := bl_tot h
  rw [hl] at h2
  unfold putE insE dropE
  rw [List.filter_cons, beq_false_of_ne h]
  simp [h2]
theorem sWiE_t (e : Int) (p : ByteArray) (kd sz ct : Int) (mk : ByteArray) (rs : List S170) (es : List S59) (hn : es.length ≤ 1048577) : ∀ (i : Nat) (out : List S59), i ≤ es.length → out.length ≤ i + 1 → Ev (fun k => spec_WithEntry.l0 k true i kd sz ct mk rs es e p kd sz ct mk rs out) (kd, sz, ct, mk, rs, out ++ dropE p (es.drop i))
  | i, out, hi, ho => by
    refine Ev.step (spec_WithEntry.l0.eq_2 _ _ _ _ _ _ _ _ _ _ _ _ _ _ _ _) ?_
    by_cases h : i < es.length
    · refine ev_pos (by omega) (ev_pos rfl ?_)
      refine Ev.step (spec_WithEntry.j1.eq_2 _ _ _ _ _ _ _ _ _ _ _ _ _ _ _ _ _) ?_
      refine ev_neg (by simp) (ev_pos (by omega) (ev_pos (by omega) ?_))
      rw [rdiEntry es i h, w64s i (by omega), drop_at es i h]
      unfold dropE
      by_cases he : es[i].f1.toList = p.toList
      · refine ev_pos he (ev_to (sWiE_t e p kd sz ct mk rs es hn (i + 1) out (by omega) (by omega)) ?_)
        rw [List.filter_cons, he]; simp [dropE]
      · refine ev_neg he (ev_pos (by omega) (ev_to (sWiE_t e p kd sz ct mk rs es hn (i + 1) (out ++ [es[i]]) (by omega) (by simp; omega)) ?_))
        rw [List.filter_cons, beq_false_of_ne he]; simp [dropE]
    · refine ev_neg (by omega) (ev_pos rfl (ev_now ?_))
      rw [List.drop_of_length_le (by omega)]; simp [dropE]
  termination_by i => es.length - i
theorem sWiE_f (e : Int) (p : ByteArray) (kd sz ct : Int) (mk : ByteArray) (rs : List S170) (es : List S59) (hn : es.length ≤ 1048577) : ∀ (i : Nat) (out : List S59), i ≤ es.length → out.length ≤ i → Ev (fun k => spec_WithEntry.l0 k false i kd sz ct mk rs es e p kd sz ct mk rs out) (kd, sz, ct, mk, rs, out ++ putE ⟨e, p⟩ (es.drop i))
  | i, out, hi, ho => by
    refine Ev.step (spec_WithEntry.l0.eq_2 _ _ _ _ _ _ _ _ _ _ _ _ _ _ _ _) ?_
    by_cases h : i < es.length
    · refine ev_pos (by omega) (ev_neg (by simp) (ev_pos (by omega) ?_))
      refine Ev.step (spec_WithEntry.j1.eq_2 _ _ _ _ _ _ _ _ _ _ _ _ _ _ _ _ _) ?_
      rw [rdiEntry es i h, w64s i (by omega), drop_at es i h]
      cases hl : Op.bytesLess p.toList es[i].f1.toList with
      | true =>
        refine ev_pos rfl (ev_pos (by omega) (Ev.bind (Ev.now _) (ev_pos (by omega) (ev_pos (by omega) ?_))))
        by_cases he : es[i].f1.toList = p.toList
        · rw [he, bl_irr] at hl; cases hl
        · refine ev_neg he (ev_pos (by simp; omega) (ev_to (sWiE_t e p kd sz ct mk rs es hn (i + 1) _ (by omega) (by simp; omega)) ?_))
          rw [putE_gt ⟨e, p⟩ es[i] _ he hl]
          simp
      | false =>
        refine ev_neg (by simp) (ev_pos (by omega) (ev_pos (by omega) ?_))
        by_cases he : es[i].f1.toList = p.toList
        · refine ev_pos he (ev_to (sWiE_f e p kd sz ct mk rs es hn (i + 1) out (by omega) (by omega)) ?_)
          rw [putE_eq ⟨e, p⟩ es[i] _ he]
        · refine ev_neg he (ev_pos (by omega) (ev_to (sWiE_f e p kd sz ct mk rs es hn (i + 1) (out ++ [es[i]]) (by omega) (by simp; omega)) ?_))
          rw [putE_lt ⟨e, p⟩ es[i] _ he hl]
          simp
    · refine ev_neg (by omega) (ev_neg (by simp) (ev_pos (by omega) (ev_now ?_)))
      rw [List.drop_of_length_le (by omega)]; rfl
  termination_by i => es.length - i
theorem sWiE_ev (e : Int) (p : ByteArray) (kd sz ct : Int) (mk : ByteArray) (rs : List S170) (es : List S59) (hr : rs.length ≤ 4000000) (hn : es.length ≤ 1048577) : Ev (fun k => spec_WithEntry.f k kd sz ct mk rs es e p) (kd, sz, ct, mk, rs, putE ⟨e, p⟩ es) := by
  unfold spec_WithEntry.f
  refine Ev.bind (ev_eq (sCopyI_eq kd sz ct mk rs es hr (by omega))) ?_
  exact ev_to (sWiE_f e p kd sz ct mk rs es hn 0 [] (by omega) (by simp)) (by rw [List.drop_zero, List.nil_append])
theorem iWiE_eq (e : Int) (p : ByteArray) (kd sz ct : Int) (mk : ByteArray) (rs : List S170) (es : List S59) (hr : rs.length ≤ 4000000) (hn : es.length ≤ 1048577) : impl_WithEntry.f kd sz ct mk rs es e p = some (kd, sz, ct, mk, rs, putE ⟨e, p⟩ es) := by
  have hd := dropE_len p es
  unfold impl_WithEntry.f
  rw [iWoE_eq p kd sz ct mk rs es hr hn, Option.bind_some]
  dsimp only
  unfold slices_IndexFunc_Entry_g106.f
  rw [if_pos (by omega), Option.bind_some]
  have hi : ∀ a : Int, 0 ≤ a ∧ a ≤ ((dropE p es).length : Int) → slices_Insert_Entry.f (dropE p es) a [⟨e, p⟩] = some ((dropE p es).take a.toNat ++ [⟨e, p⟩] ++ (dropE p es).drop a.toNat) := fun a ha => by
    unfold slices_Insert_Entry.f
    exact if_pos ⟨ha, rfl, by omega⟩
  have hq : (fun y : S59 => !(!Op.bytesLess y.f1.toList p.toList)) = fun y => Op.bytesLess y.f1.toList p.toList := by funext y; rw [Bool.not_not]
  have hx := ix_put (fun y : S59 => !Op.bytesLess y.f1.toList p.toList) z59 (dropE p es) 0
  rw [hq] at hx
  have ht := take_tw (fun y : S59 => Op.bytesLess y.f1.toList p.toList) (dropE p es)
  have hle : ((dropE p es).takeWhile (fun y : S59 => Op.bytesLess y.f1.toList p.toList)).length ≤ (dropE p es).length := List.Sublist.length_le (List.takeWhile_sublist _)
  rcases hx with ⟨e1, h1, h2⟩ | e1
  · rw [if_pos (by show Lib.idxByFrom _ _ _ 0 < 0; rw [show Lib.idxByFrom (fun _ y => clo106.p e p y) z59 (dropE p es) 0 = -1 from e1]; omega), hi _ (by omega), Option.bind_some]
    unfold putE insE
    show some (kd, sz, ct, mk, rs, (dropE p es).take ((dropE p es).length : Int).toNat ++ [⟨e, p⟩] ++ (dropE p es).drop ((dropE p es).length : Int).toNat) = some (kd, sz, ct, mk, rs, (dropE p es).takeWhile (fun y : S59 => Op.bytesLess y.f1.toList p.toList) ++ [⟨e, p⟩] ++ (dropE p es).dropWhile (fun y : S59 => Op.bytesLess y.f1.toList p.toList))
    rw [h1, h2, Int.toNat_natCast, List.take_length, List.drop_length]
  · have e2 : Lib.idxBy (fun _ y => clo106.p e p y) (dropE p es) z59 = (((dropE p es).takeWhile (fun y : S59 => Op.bytesLess y.f1.toList p.toList)).length : Int) := e1.trans (by rw [Nat.zero_add])
    rw [e2, if_neg (by omega), hi _ (by omega), Option.bind_some, Int.toNat_natCast, ht.1, ht.2]
    rfl
theorem putE_wi (x : S59) (es : List S59) : sumBy wiEntry (putE x es) ≤ wiEntry x + sumBy wiEntry es := by
  have h1 := sumBy_filter_le wiEntry (fun y => !(y.f1.toList == x.f1.toList)) es
  have e := congrArg (sumBy wiEntry) (List.takeWhile_append_dropWhile (p := fun y : S59 => Op.bytesLess y.f1.toList x.f1.toList) (l := dropE x.f1 es))
  have ha : ∀ a b : List S59, sumBy wiEntry (a ++ b) = sumBy wiEntry a + sumBy wiEntry b := fun a b => by simp [sumBy]
  rw [ha] at e
  unfold putE insE
  rw [ha, ha, sumBy_cons, sumBy_nil]
  unfold dropE at e ⊢
  omega

/-! ### FnExactWithEntry -/
theorem FnExactWithEntry : laws_FnExactWithEntry.Law := by
  intro kd sz ct mk rs es e p w0 w1 w2 w3 hr he we hp
  apply Ev.rounds
  unfold laws_FnExactWithEntry.f
  refine Ev.bind (szI_ev kd sz ct mk rs es w3 hr he 1048576 (by omega) (by omega)) ?_
  by_cases h : left 1048576 (mk.size + (wtRecS rs + (wtEntryS es + 0))) < 0
  · exact ev_pos h (ev_now rfl)
  have hw := (left_le (a := 1048576) (t := mk.size + (wtRecS rs + (wtEntryS es + 0))) (by omega)).1
  have h3 := (left_le (a := 1048576) (t := mk.size + (wtRecS rs + (wtEntryS es + 0))) (by omega)).2
  refine ev_neg h ?_
  refine Ev.step (laws_FnExactWithEntry.j0.eq_2 _ _ _ _ _ _ _ _ _) ?_
  refine Ev.bind (szEnt_ev e p we hp (left 1048576 (mk.size + (wtRecS rs + (wtEntryS es + 0)))) (by omega) (by omega)) ?_
  by_cases h2 : left (left 1048576 (mk.size + (wtRecS rs + (wtEntryS es + 0)))) (wtEntry (⟨e, p⟩ : S56)) < 0
  · exact ev_pos h2 (ev_now rfl)
  have hw2 := (left_le (a := left 1048576 (mk.size + (wtRecS rs + (wtEntryS es + 0)))) (t := wtEntry (⟨e, p⟩ : S56)) (by omega)).1
  refine ev_neg h2 ?_
  have hto := toI_ev kd sz ct mk rs es (by omega)
  have hre := wiRecS_cv rs
  have hee := wiEntryS_cv es
  have lr : (rs.map cvRec).length ≤ 1048576 := by rw [List.length_map]; unfold wtRecS at hw; omega
  have le : (es.map cvEntry).length ≤ 1048576 := by rw [List.length_map]; unfold wtEntryS at hw; omega
  have lre : (rs.map cvRec).length + (es.map cvEntry).length ≤ 1048576 := by rw [List.length_map, List.length_map]; unfold wtRecS wtEntryS at hw; omega
  have hd := dropE_len p (es.map cvEntry)
  have hl := putE_len ⟨e, p⟩ (es.map cvEntry)
  have hd2 : (dropE (⟨e, p⟩ : S59).f1 (es.map cvEntry)).length ≤ (es.map cvEntry).length := hd
  have hdw : wiEntryS (putE ⟨e, p⟩ (es.map cvEntry)) ≤ 4000000 := by
    have := putE_wi ⟨e, p⟩ (es.map cvEntry)
    unfold wiEntryS at hee ⊢
    simp only [wiEntry] at this
    simp only [wtEntry] at hw2
    omega
  have heq := eqI_ev kd sz ct mk (rs.map cvRec) (es.map cvEntry) (by omega) (by omega)
  have heq2 := eqI_ev kd sz ct mk (rs.map cvRec) (putE ⟨e, p⟩ (es.map cvEntry)) (by omega) hdw
  repeat' first
    | (with_reducible exact ev_now rfl)
    | (with_reducible refine Ev.bind (hto) ?_)
    | (with_reducible refine Ev.bind (ev_eq (toEnt_eq e p)) ?_)
    | (with_reducible refine Ev.bind (sWiE_ev e p kd sz ct mk _ _ (by omega) (by omega)) ?_)
    | (with_reducible refine Ev.bind (ev_eq (iWiE_eq e p kd sz ct mk _ _ (by omega) (by omega))) ?_)
    | (with_reducible refine Ev.bind (heq) ?_)
    | (with_reducible refine Ev.bind (heq2) ?_)
    | (with_reducible refine Ev.bind (markInode_m kd sz ct mk _ _ (by omega)) ?_)
    | (with_reducible refine Ev.bind (heldInode_m kd sz ct mk _ _ (by omega)) ?_)
    | (with_reducible refine ev_pos rfl ?_)
    | ((with_reducible refine ev_pos ?c_ ?_); (case c_ => first | rfl | omega | (dsimp only; omega) | (simp only [decide_eq_true_eq]; omega) | (simp; done)))
    | ((with_reducible refine ev_neg ?c_ ?_); (case c_ => first | rfl | omega | (dsimp only; omega) | (simp only [decide_eq_true_eq]; omega) | (simp; done)))
    | (refine Ev.step (laws_FnExactWithEntry.j0.eq_2 _ _ _ _ _ _ _ _ _) ?_)
    | (refine Ev.step (laws_FnExactWithEntry.j1.eq_2 _ _ _ _ _ _ _ _) ?_)
    | (refine Ev.step (laws_FnExactWithEntry.j2.eq_2 _ _ _ _ _ _ _ _ _ _ _ _ _ _ _ _ _ _ _ _ _ _ _ _ _ _) ?_)
    | (refine Ev.step (laws_FnExactWithEntry.j3.eq_2 _ _ _ _ _ _ _ _ _ _ _ _ _ _ _ _ _ _ _ _ _ _ _ _ _ _) ?_)
    | (refine Ev.step (laws_FnExactWithEntry.j4.eq_2 _ _ _ _ _ _ _ _ _ _ _ _ _ _ _ _ _ _ _ _ _) ?_)
    | (refine Ev.step (laws_FnExactWithEntry.j5.eq_2 _ _ _ _ _ _ _ _ _ _ _ _ _ _ _ _ _ _ _ _) ?_)
    | (refine Ev.step (laws_FnExactWithEntry.j6.eq_2 _ _ _ _ _ _ _ _ _ _ _ _ _ _ _ _ _ _ _ _ _ _) ?_)
    | (refine Ev.step (laws_FnExactWithEntry.j7.eq_2 _ _ _ _ _ _ _ _ _ _ _ _ _ _ _ _ _ _ _ _ _) ?_)
    | (refine Ev.step (laws_FnExactWithEntry.j8.eq_2 _ _ _ _ _ _ _) ?_)
    | ((with_reducible refine ev_now ?c_); (case c_ => first | rfl | (simp; done)))
    | (dsimp only)

end Go.Proofs.Ytcdnfkoahajhhaa.Pure
