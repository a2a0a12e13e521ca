/- The pure statement of FnExactPartNew is proved: for all arguments within the row's own bounds the Lean function that the law's walk comes to answers true. Conditions: none beyond these bounds. -/
import Derived.Test.YtljnnmpfeningaaStFnExactPartNew
import Derived.Test.YtljnnmpfeningaaBase
namespace Go.Proofs.Ytljnnmpfeningaa.Pure
open Go.RowKit Go.Proofs.Ytljnnmpfeningaa.PFnExactPartNew Go.Proofs.YtljnnmpfeningaaW.PrintWords Go.Proofs.YtljnnmpfeningaaW.PrintLast Go.Proofs.Ytljnnmpfeningaa.Base
set_option linter.unusedVariables false
set_option linter.unusedSimpArgs false
/-! ### markstrings -/
theorem mt_l (n : Nat) : ∀ o : ByteArray, o.size + 40 * (n + 1) ≤ 4000000000000000 → ∃ r : ByteArray, Ev (fun k => laws_markText.l0 k n o) r := by
  induction n using Nat.strongRecOn with
  | _ n ih =>
    intro o ho
    by_cases h : (n : Int) > 0
    · have hd : wrap64 (Int.tdiv (n : Int) 10) = ((n / 10 : Nat) : Int) := by
        rw [Int.tdiv_eq_ediv_of_nonneg (by omega), w64 (by omega) (by omega)]; omega
      obtain ⟨r, hr⟩ := ih (n / 10) (by omega) (strOfNums [wrap64 (48 + Int.tmod (n : Int) 10) % 256] ++ o) (by rw [ByteArray.size_append, strOfNums_size]; simp only [List.length_singleton]; omega)
      refine ⟨r, ?_⟩
      refine Ev.step (laws_markText.l0.eq_2 _ _) ?_
      refine ev_pos h (Ev.bind (Ev.now _) (ev_pos (by rw [strOfNums_size]; simp only [List.length_singleton]; omega) ?_))
      rw [hd]
      exact hr
    · refine ⟨(⟨#[109]⟩ : ByteArray) ++ o, ?_⟩
      refine Ev.step (laws_markText.l0.eq_2 _ _) ?_
      exact ev_neg h (ev_pos (by omega) (ev_now rfl))
noncomputable def mtx (n : Nat) : ByteArray := evv ⟨#[]⟩ (fun k => laws_markText.f k (n : Int))
theorem mtx_ev (n : Nat) (hn : n ≤ 4000000) : Ev (fun k => laws_markText.f k (n : Int)) (mtx n) := by
  unfold mtx
  apply evv_ev
  by_cases h : (n : Int) ≤ 0
  · exact ⟨_, by unfold laws_markText.f; exact ev_pos h (Ev.now _)⟩
  · have e0 : (⟨#[]⟩ : ByteArray).size = 0 := rfl
    obtain ⟨r, hr⟩ := mt_l n ⟨#[]⟩ (by omega)
    exact ⟨r, by unfold laws_markText.f; exact ev_neg h hr⟩
noncomputable def smarks (a n : Nat) : List ByteArray := (List.range' a n).map mtx
theorem smarks_len (a n : Nat) : (smarks a n).length = n := by simp [smarks]



/-! ### t_Rec -/

def wiRec (x : S96) : Nat := x.f2.size + (0)

def wiRecS (xs : List S96) : Nat := xs.length + sumBy wiRec xs




theorem rdiRec (xs : List S96) (i : Nat) (h : i < xs.length) : rd_T96 xs (i : Int) = xs[i] := getD_at _ xs i h


theorem eqRec_ev (x : S96) : Ev (fun _ => laws_eqRec.f x.f0 x.f1 x.f2 x.f0 x.f1 x.f2) true := ev_eq (by simp [laws_eqRec.f])
theorem eqRecS_l (xs : List S96) (hn : wiRecS xs ≤ 4000000) : ∀ (i : Nat), i ≤ xs.length → Ev (fun k => laws_eqRecS.l0 k xs xs i) true
  | i, hi => by
    have hn2 : xs.length ≤ 4000000 := by unfold wiRecS at hn; omega
    refine Ev.step (laws_eqRecS.l0.eq_2 _ _ _) ?_
    by_cases h : i < xs.length
    · refine ev_pos (by omega) (ev_pos (by omega) (ev_pos (by omega) ?_))
      rw [w64s i (by omega), rdiRec xs i h]
      exact Ev.bind (eqRec_ev _) (ev_pos rfl (eqRecS_l xs hn (i + 1) (by omega)))
    · exact ev_neg (by omega) (ev_now rfl)
  termination_by i => xs.length - i
theorem eqRecS_ev (xs : List S96) (hn : wiRecS xs ≤ 4000000) : Ev (fun k => laws_eqRecS.f k xs xs) true := by
  unfold laws_eqRecS.f
  exact ev_pos rfl (eqRecS_l xs hn 0 (by omega))


/-! ### t_Entry -/

def wiEntry (x : S67) : Nat := x.f1.size + (0)

def wiEntryS (xs : List S67) : Nat := xs.length + sumBy wiEntry xs




theorem rdiEntry (xs : List S67) (i : Nat) (h : i < xs.length) : rd_T67 xs (i : Int) = xs[i] := getD_at _ xs i h


theorem eqEntry_ev (x : S67) : Ev (fun _ => laws_eqEntry.f x.f0 x.f1 x.f0 x.f1) true := ev_eq (by simp [laws_eqEntry.f])
theorem eqEntryS_l (xs : List S67) (hn : wiEntryS xs ≤ 4000000) : ∀ (i : Nat), i ≤ xs.length → Ev (fun k => laws_eqEntryS.l0 k xs xs i) true
  | i, hi => by
    have hn2 : xs.length ≤ 4000000 := by unfold wiEntryS at hn; omega
    refine Ev.step (laws_eqEntryS.l0.eq_2 _ _ _) ?_
    by_cases h : i < xs.length
    · refine ev_pos (by omega) (ev_pos (by omega) (ev_pos (by omega) ?_))
      rw [w64s i (by omega), rdiEntry xs i h]
      exact Ev.bind (eqEntry_ev _) (ev_pos rfl (eqEntryS_l xs hn (i + 1) (by omega)))
    · exact ev_neg (by omega) (ev_now rfl)
  termination_by i => xs.length - i
theorem eqEntryS_ev (xs : List S67) (hn : wiEntryS xs ≤ 4000000) : Ev (fun k => laws_eqEntryS.f k xs xs) true := by
  unfold laws_eqEntryS.f
  exact ev_pos rfl (eqEntryS_l xs hn 0 (by omega))


/-! ### marksinode -/
noncomputable def rmk (a i : Nat) : S96 := ⟨((a + 3 * i : Nat) : Int), ((a + 3 * i + 1 : Nat) : Int), mtx (a + 3 * i + 2)⟩
noncomputable def rmarks (a n : Nat) : List S96 := (List.range' 0 n).map (rmk a)
theorem rmarks_len (a n : Nat) : (rmarks a n).length = n := by simp [rmarks]
noncomputable def emk (a i : Nat) : S67 := ⟨((a + 2 * i : Nat) : Int), mtx (a + 2 * i + 1)⟩
noncomputable def emarks (a n : Nat) : List S67 := (List.range' 0 n).map (emk a)
theorem emarks_len (a n : Nat) : (emarks a n).length = n := by simp [emarks]
theorem rd_setR (ys : List S96) (x : S96) (i : Nat) (h : i < ys.length) : rd_T96 (ys.set i x) (i : Int) = x := by rw [rdiRec _ i (by simpa using h), List.getElem_set_self]
theorem rd_setE (ys : List S67) (x : S67) (i : Nat) (h : i < ys.length) : rd_T67 (ys.set i x) (i : Int) = x := by rw [rdiEntry _ i (by simpa using h), List.getElem_set_self]
theorem markRecS_m (n a : Nat) (hn : a + 3 * n ≤ 4000000) : ∀ (i : Nat) (ys : List S96), i ≤ n → ys.length = n →
    Ev (fun k => laws_markRecS.l0 k ys ((a + 3 * i : Nat) : Int) (i : Int)) (((a + 3 * n : Nat) : Int), ys.take i ++ (List.range' i (n - i)).map (rmk a))
  | i, ys, hi, hl => by
    refine Ev.step (laws_markRecS.l0.eq_2 _ _ _) ?_
    by_cases h : i < n
    · have e1 : wrap64 (((a + 3 * i : Nat) : Int) + 1) = ((a + 3 * i + 1 : Nat) : Int) := w64s _ (by omega)
      have e2 : wrap64 (((a + 3 * i + 1 : Nat) : Int) + 1) = ((a + 3 * i + 2 : Nat) : Int) := w64s _ (by omega)
      have e3 : wrap64 (((a + 3 * i + 2 : Nat) : Int) + 1) = ((a + 3 * (i + 1) : Nat) : Int) := by rw [show a + 3 * (i + 1) = a + 3 * i + 2 + 1 by omega]; exact w64s _ (by omega)
      refine ev_pos (by omega) (ev_pos (by omega) (Ev.bind (Ev.now _) (Ev.bind (Ev.now _) ?_)))
      rw [e1, e2, e3, Int.toNat_natCast, w64s i (by omega)]
      refine Ev.bind (mtx_ev _ (by omega)) ?_
      refine ev_to (markRecS_m n a hn (i + 1) _ (by omega) (by rw [List.length_set, List.length_set, List.length_set]; exact hl)) ?_
      rw [rd_setR ys _ i (by omega), rd_setR (ys.set i _) _ i (by rw [List.length_set]; omega)]
      simp only [List.set_set]
      congr 1
      rw [List.take_succ_eq_append_getElem (by simp; omega)]
      simp only [List.getElem_set_self, List.append_assoc, List.take_set_of_le (Nat.le_refl i)]
      congr 1
      rw [show n - i = (n - (i + 1)) + 1 by omega, List.range'_succ]
      rfl
    · have : i = n := by omega
      subst this
      refine ev_neg (by omega) (ev_now ?_)
      simp [← hl]
  termination_by i => n - i
theorem markEntryS_m (n a : Nat) (hn : a + 2 * n ≤ 4000000) : ∀ (i : Nat) (ys : List S67), i ≤ n → ys.length = n →
    Ev (fun k => laws_markEntryS.l0 k ys ((a + 2 * i : Nat) : Int) (i : Int)) (((a + 2 * n : Nat) : Int), ys.take i ++ (List.range' i (n - i)).map (emk a))
  | i, ys, hi, hl => by
    refine Ev.step (laws_markEntryS.l0.eq_2 _ _ _) ?_
    by_cases h : i < n
    · have e1 : wrap64 (((a + 2 * i : Nat) : Int) + 1) = ((a + 2 * i + 1 : Nat) : Int) := w64s _ (by omega)
      have e2 : wrap64 (((a + 2 * i + 1 : Nat) : Int) + 1) = ((a + 2 * (i + 1) : Nat) : Int) := by rw [show a + 2 * (i + 1) = a + 2 * i + 1 + 1 by omega]; exact w64s _ (by omega)
      refine ev_pos (by omega) (ev_pos (by omega) (Ev.bind (Ev.now _) ?_))
      rw [e1, e2, Int.toNat_natCast, w64s i (by omega)]
      refine Ev.bind (mtx_ev _ (by omega)) ?_
      refine ev_to (markEntryS_m n a hn (i + 1) _ (by omega) (by rw [List.length_set, List.length_set]; exact hl)) ?_
      rw [rd_setE ys _ i (by omega)]
      simp only [List.set_set]
      congr 1
      rw [List.take_succ_eq_append_getElem (by simp; omega)]
      simp only [List.getElem_set_self, List.append_assoc, List.take_set_of_le (Nat.le_refl i)]
      congr 1
      rw [show n - i = (n - (i + 1)) + 1 by omega, List.range'_succ]
      rfl
    · have : i = n := by omega
      subst this
      refine ev_neg (by omega) (ev_now ?_)
      simp [← hl]
  termination_by i => n - i
theorem heldRecS_l (n a : Nat) (hn : a + 3 * n ≤ 4000000) : ∀ (i : Nat), i ≤ n → Ev (fun k => laws_heldRecS.l0 k (rmarks a n) ((a + 3 * i : Nat) : Int) (i : Int)) ((a + 3 * n : Nat) : Int)
  | i, hi => by
    refine Ev.step (laws_heldRecS.l0.eq_2 _ _ _) ?_
    have hl := rmarks_len a n
    by_cases h : i < n
    · have e1 : wrap64 (((a + 3 * i : Nat) : Int) + 1) = ((a + 3 * i + 1 : Nat) : Int) := w64s _ (by omega)
      have e2 : wrap64 (((a + 3 * i + 1 : Nat) : Int) + 1) = ((a + 3 * i + 2 : Nat) : Int) := w64s _ (by omega)
      have e3 : wrap64 (((a + 3 * i + 2 : Nat) : Int) + 1) = ((a + 3 * (i + 1) : Nat) : Int) := by rw [show a + 3 * (i + 1) = a + 3 * i + 2 + 1 by omega]; exact w64s _ (by omega)
      have he : rd_T96 (rmarks a n) (i : Int) = rmk a i := by
        rw [rdiRec _ i (by omega)]; simp [rmarks]
      rw [he, e1, e2, e3, w64s i (by omega)]
      exact ev_pos (by omega) (ev_pos (by omega) (ev_pos rfl (ev_pos rfl (Ev.bind (mtx_ev _ (by omega)) (ev_pos rfl (heldRecS_l n a hn (i + 1) (by omega)))))))
    · have : i = n := by omega
      subst this
      exact ev_neg (by omega) (ev_now rfl)
  termination_by i => n - i
theorem heldEntryS_l (n a : Nat) (hn : a + 2 * n ≤ 4000000) : ∀ (i : Nat), i ≤ n → Ev (fun k => laws_heldEntryS.l0 k (emarks a n) ((a + 2 * i : Nat) : Int) (i : Int)) ((a + 2 * n : Nat) : Int)
  | i, hi => by
    refine Ev.step (laws_heldEntryS.l0.eq_2 _ _ _) ?_
    have hl := emarks_len a n
    by_cases h : i < n
    · have e1 : wrap64 (((a + 2 * i : Nat) : Int) + 1) = ((a + 2 * i + 1 : Nat) : Int) := w64s _ (by omega)
      have e2 : wrap64 (((a + 2 * i + 1 : Nat) : Int) + 1) = ((a + 2 * (i + 1) : Nat) : Int) := by rw [show a + 2 * (i + 1) = a + 2 * i + 1 + 1 by omega]; exact w64s _ (by omega)
      have he : rd_T67 (emarks a n) (i : Int) = emk a i := by
        rw [rdiEntry _ i (by omega)]; simp [emarks]
      rw [he, e1, e2, w64s i (by omega)]
      exact ev_pos (by omega) (ev_pos (by omega) (ev_pos rfl (Ev.bind (mtx_ev _ (by omega)) (ev_pos rfl (heldEntryS_l n a hn (i + 1) (by omega))))))
    · have : i = n := by omega
      subst this
      exact ev_neg (by omega) (ev_now rfl)
  termination_by i => n - i
/-! ### t_Inode -/

def wiInode (x : S64) : Nat := x.f3.size + (wiRecS x.f4 + (wiEntryS x.f5 + (0)))

def wiInodeS (xs : List S64) : Nat := xs.length + sumBy wiInode xs




theorem rdiInode (xs : List S64) (i : Nat) (h : i < xs.length) : rd_T64 xs (i : Int) = xs[i] := getD_at _ xs i h




theorem eqInode_ev (x : S64) (hw : wiInode x ≤ 4000000) : Ev (fun k => laws_eqInode.f k x.f0 x.f1 x.f2 x.f3 x.f4 x.f5 x.f0 x.f1 x.f2 x.f3 x.f4 x.f5) true := by
  unfold wiInode at hw
  unfold laws_eqInode.f
  refine ev_pos rfl ?_
  refine ev_pos rfl ?_
  refine ev_pos rfl ?_
  refine ev_pos rfl ?_
  refine Ev.bind (eqRecS_ev x.f4 (by omega)) (ev_pos rfl ?_)
  refine Ev.bind (eqEntryS_ev x.f5 (by omega)) (ev_pos rfl ?_)
  exact ev_now rfl

theorem eqInodeS_l (xs : List S64) (hn : wiInodeS xs ≤ 4000000) : ∀ (i : Nat), i ≤ xs.length → Ev (fun k => laws_eqInodeS.l0 k xs xs i) true
  | i, hi => by
    have hn2 : xs.length ≤ 4000000 := by unfold wiInodeS at hn; omega
    refine Ev.step (laws_eqInodeS.l0.eq_2 _ _ _) ?_
    by_cases h : i < xs.length
    · refine ev_pos (by omega) (ev_pos (by omega) (ev_pos (by omega) ?_))
      rw [w64s i (by omega), rdiInode xs i h]
      exact Ev.bind (eqInode_ev _ (by have := sumBy_mem (f := wiInode) (List.getElem_mem h); unfold wiInodeS at hn; omega)) (ev_pos rfl (eqInodeS_l xs hn (i + 1) (by omega)))
    · exact ev_neg (by omega) (ev_now rfl)
  termination_by i => xs.length - i
theorem eqInodeS_ev (xs : List S64) (hn : wiInodeS xs ≤ 4000000) : Ev (fun k => laws_eqInodeS.f k xs xs) true := by
  unfold laws_eqInodeS.f
  exact ev_pos rfl (eqInodeS_l xs hn 0 (by omega))


/-! ### markints -/
def marks (a n : Nat) : List Int := (List.range' a n).map (fun j : Nat => (j : Int))
theorem marks_len (a n : Nat) : (marks a n).length = n := by simp [marks]
theorem markIntS_l (n a : Nat) (hn : n ≤ 1048576) (ha : a ≤ 4000000000000) : ∀ (i : Nat) (ys : List Int), i ≤ n → ys.length = n →
    Ev (fun k => laws_markIntS.l0 k ys ((a + i : Nat) : Int) i) (((a + n : Nat) : Int), ys.take i ++ marks (a + i) (n - i))
  | i, ys, hi, hl => by
    refine Ev.step (laws_markIntS.l0.eq_2 _ _ _) ?_
    by_cases h : i < n
    · refine ev_pos (by omega) (ev_pos (by omega) ?_)
      rw [w64s i (by omega), w64s (a + i) (by omega), Int.toNat_natCast]
      refine ev_to (markIntS_l n a hn ha (i + 1) (ys.set i _) (by omega) (by simp [hl])) ?_
      congr 1
      rw [List.take_succ_eq_append_getElem (by simp; omega)]
      simp only [List.getElem_set_self, List.append_assoc, List.take_set_of_le (Nat.le_refl i)]
      congr 1
      unfold marks
      rw [show n - i = (n - (i + 1)) + 1 by omega, List.range'_succ]
      simp [Nat.add_assoc]
    · have : i = n := by omega
      subst this
      refine ev_neg (by omega) (ev_now ?_)
      simp [marks, ← hl]
  termination_by i => n - i
theorem markIntS_ev (xs : List Int) (a : Nat) (hn : xs.length ≤ 1048576) (ha : a ≤ 4000000000000) : Ev (fun k => laws_markIntS.f k xs (a : Int)) (((a + xs.length : Nat) : Int), marks a xs.length) := by
  unfold laws_markIntS.f
  have := markIntS_l xs.length a hn ha 0 xs (by omega) rfl
  simpa using this
theorem heldIntS_l (n a : Nat) (hn : n ≤ 1048576) (ha : a ≤ 4000000000000) : ∀ (i : Nat), i ≤ n → Ev (fun k => laws_heldIntS.l0 k (marks a n) ((a + i : Nat) : Int) i) ((a + n : Nat) : Int)
  | i, hi => by
    refine Ev.step (laws_heldIntS.l0.eq_2 _ _ _) ?_
    have hl := marks_len a n
    by_cases h : i < n
    · refine ev_pos (by omega) (ev_pos (by omega) (ev_pos ?_ ?_))
      · rw [rd_at _ i (by omega)]
        simp [marks]
      · rw [w64s i (by omega), w64s (a + i) (by omega)]
        exact heldIntS_l n a hn ha (i + 1) (by omega)
    · have : i = n := by omega
      subst this
      exact ev_neg (by omega) (ev_now rfl)
  termination_by i => n - i
theorem heldIntS_ev (n a : Nat) (hn : n ≤ 1048576) (ha : a ≤ 4000000000000) : Ev (fun k => laws_heldIntS.f k (marks a n) (a : Int)) ((a + n : Nat) : Int) := by
  unfold laws_heldIntS.f
  have := heldIntS_l n a hn ha 0 (by omega)
  simpa using this


/-! ### szints -/


/-! ### toints -/


/-! ### ints -/
theorem eqIntS_l (xs : List Int) (hn : xs.length ≤ 4000000) : ∀ (i : Nat), i ≤ xs.length → Ev (fun k => laws_eqIntS.l0 k xs xs i) true
  | i, hi => by
    refine Ev.step (laws_eqIntS.l0.eq_2 _ _ _) ?_
    by_cases h : i < xs.length
    · refine ev_pos (by omega) (ev_pos (by omega) (ev_pos (by omega) (ev_pos rfl ?_)))
      rw [w64s i (by omega)]
      exact eqIntS_l xs hn (i + 1) (by omega)
    · exact ev_neg (by omega) (ev_now rfl)
  termination_by i => xs.length - i
theorem eqIntS_ev (xs : List Int) (hn : xs.length ≤ 4000000) : Ev (fun k => laws_eqIntS.f k xs xs) true := by
  unfold laws_eqIntS.f
  exact ev_pos rfl (eqIntS_l xs hn 0 (by omega))


/-! ### t_Part -/
def wiPart (a0 : Int) (a1 : List Int) (a2 : List S64) : Nat := a1.length + (wiInodeS a2 + (0))


theorem eqPart_ev (a0 : Int) (a1 : List Int) (a2 : List S64) (hw : wiPart a0 a1 a2 ≤ 4000000) : Ev (fun k => laws_eqPart.f k a0 a1 a2 a0 a1 a2) true := by
  unfold wiPart at hw
  unfold laws_eqPart.f
  refine ev_pos rfl ?_
  refine Ev.bind (eqIntS_ev a1 (by omega)) (ev_pos rfl ?_)
  refine Ev.bind (eqInodeS_ev a2 (by omega)) (ev_pos rfl ?_)
  exact ev_now rfl


/-! ### marksinodes -/
/-- How many numbers the marks of inodes take. -/
def ncI (x : S64) : Nat := 4 + 3 * x.f4.length + 2 * x.f5.length
def ncS (xs : List S64) : Nat := sumBy ncI xs
noncomputable def inmk (a : Nat) (x : S64) : S64 := ⟨((a : Nat) : Int), ((a + 1 : Nat) : Int), ((a + 2 : Nat) : Int), mtx (a + 3), rmarks (a + 4) x.f4.length, emarks (a + 4 + 3 * x.f4.length) x.f5.length⟩
noncomputable def inmarks : Nat → List S64 → List S64
  | _, [] => []
  | a, x :: r => inmk a x :: inmarks (a + ncI x) r
theorem w64s4 (a : Nat) (h : a + 4 < 4611686018427387904) : wrap64 (((a : Nat) : Int) + 1) = ((a + 1 : Nat) : Int) ∧ wrap64 (((a + 1 : Nat) : Int) + 1) = ((a + 2 : Nat) : Int) ∧ wrap64 (((a + 2 : Nat) : Int) + 1) = ((a + 3 : Nat) : Int) ∧ wrap64 (((a + 3 : Nat) : Int) + 1) = ((a + 4 : Nat) : Int) :=
  ⟨w64s _ (by omega), w64s _ (by omega), w64s _ (by omega), w64s _ (by omega)⟩
theorem rd_mid (p : List S64) (x : S64) (r : List S64) : rd_T64 (p ++ x :: r) (p.length : Int) = x := by
  rw [rdiInode _ _ (by simp)]
  simp
theorem set_mid (p : List S64) (x y : S64) (r : List S64) : (p ++ x :: r).set p.length y = p ++ y :: r := by
  rw [List.set_append_right _ _ (Nat.le_refl _), Nat.sub_self]
  rfl
theorem recsS_ev (rs : List S96) (a : Nat) (h : a + 3 * rs.length ≤ 4000000) : Ev (fun k => laws_markRecS.f k rs ((a : Nat) : Int)) (((a + 3 * rs.length : Nat) : Int), rmarks a rs.length) := by
  have h1 := markRecS_m rs.length a h 0 rs (by omega) rfl
  rw [List.take_zero, List.nil_append, Nat.sub_zero] at h1
  unfold laws_markRecS.f
  exact h1
theorem entsS_ev (es : List S67) (a : Nat) (h : a + 2 * es.length ≤ 4000000) : Ev (fun k => laws_markEntryS.f k es ((a : Nat) : Int)) (((a + 2 * es.length : Nat) : Int), emarks a es.length) := by
  have h1 := markEntryS_m es.length a h 0 es (by omega) rfl
  rw [List.take_zero, List.nil_append, Nat.sub_zero] at h1
  unfold laws_markEntryS.f
  exact h1
theorem markInodeS_l (r : List S64) : ∀ (p : List S64) (a : Nat), a + ncS r ≤ 3999999 → p.length + r.length ≤ 4000000 →
    Ev (fun k => laws_markInodeS.l0 k (p ++ r) ((a : Nat) : Int) ((p.length : Nat) : Int)) (((a + ncS r : Nat) : Int), p ++ inmarks a r) := by
  induction r with
  | nil =>
    intro p a ha hp
    refine Ev.step (laws_markInodeS.l0.eq_2 _ _ _) ?_
    refine ev_neg (by simp) (ev_now ?_)
    simp [ncS, sumBy, inmarks]
  | cons x r ih =>
    intro p a ha hp
    have hn : ncS (x :: r) = ncI x + ncS r := by simp [ncS, sumBy_cons]
    have hx : ncI x = 4 + 3 * x.f4.length + 2 * x.f5.length := rfl
    rw [hn] at ha ⊢
    simp only [List.length_cons] at hp
    obtain ⟨e1, e2, e3, e4⟩ := w64s4 a (by omega)
    refine Ev.step (laws_markInodeS.l0.eq_2 _ _ _) ?_
    refine ev_pos (by rw [List.length_append, List.length_cons]; omega) (ev_pos (Int.natCast_nonneg _) ?_)
    rw [Int.toNat_natCast, e1, e2, e3, e4]
    clear e1 e2 e3 e4
    rw [w64s _ (by omega)]
    refine Ev.bind (Ev.now _) ?_
    simp only [rd_mid, set_mid]
    refine Ev.bind (Ev.now _) ?_
    simp only [rd_mid, set_mid]
    refine Ev.bind (Ev.now _) ?_
    simp only [rd_mid, set_mid]
    refine Ev.bind (mtx_ev _ (by omega)) ?_
    refine Ev.bind (Ev.now _) ?_
    simp only [rd_mid, set_mid]
    refine Ev.bind (recsS_ev _ _ (by omega)) ?_
    refine Ev.bind (Ev.now _) ?_
    simp only [rd_mid, set_mid]
    refine Ev.bind (entsS_ev _ _ (by omega)) ?_
    refine Ev.bind (Ev.now _) ?_
    simp only [rd_mid, set_mid]
    have ih := ih (p ++ [inmk a x]) (a + ncI x) (by omega) (by simp; omega)
    rw [List.append_assoc, List.append_assoc, List.length_append, List.length_singleton] at ih
    have e5 : a + 4 + 3 * x.f4.length + 2 * x.f5.length = a + ncI x := by omega
    rw [e5]
    refine ev_to ih ?_
    rw [show a + (ncI x + ncS r) = a + ncI x + ncS r by omega]
    rfl
theorem markInodeS_ev (xs : List S64) (a : Nat) (h : a + ncS xs ≤ 3999999) (h2 : xs.length ≤ 4000000) : Ev (fun k => laws_markInodeS.f k xs ((a : Nat) : Int)) (((a + ncS xs : Nat) : Int), inmarks a xs) := by
  unfold laws_markInodeS.f
  exact markInodeS_l xs [] a h (by simpa using h2)
theorem markPart_m (s : Int) (b : List Int) (xs : List S64) (a : Nat) (h : a + b.length + ncS xs ≤ 3999999) (hb : b.length ≤ 1048576) (h2 : xs.length ≤ 4000000) : Ev (fun k => laws_markPart.f k s b xs ((a : Nat) : Int)) (((a + b.length + ncS xs : Nat) : Int), marks a b.length, inmarks (a + b.length) xs) := by
  unfold laws_markPart.f
  exact Ev.bind (markIntS_ev b a hb (by omega)) (Ev.bind (markInodeS_ev xs _ h h2) (ev_now rfl))
theorem heldRS_ev (n a : Nat) (h : a + 3 * n ≤ 4000000) : Ev (fun k => laws_heldRecS.f k (rmarks a n) ((a : Nat) : Int)) ((a + 3 * n : Nat) : Int) := by
  unfold laws_heldRecS.f
  exact heldRecS_l n a h 0 (by omega)
theorem heldES_ev (n a : Nat) (h : a + 2 * n ≤ 4000000) : Ev (fun k => laws_heldEntryS.f k (emarks a n) ((a : Nat) : Int)) ((a + 2 * n : Nat) : Int) := by
  unfold laws_heldEntryS.f
  exact heldEntryS_l n a h 0 (by omega)
theorem heldInodeS_l (r : List S64) : ∀ (p : List S64) (a : Nat), a + ncS r ≤ 3999999 → p.length + r.length ≤ 4000000 →
    Ev (fun k => laws_heldInodeS.l0 k (p ++ inmarks a r) ((a : Nat) : Int) ((p.length : Nat) : Int)) ((a + ncS r : Nat) : Int) := by
  induction r with
  | nil =>
    intro p a ha hp
    refine Ev.step (laws_heldInodeS.l0.eq_2 _ _ _) ?_
    refine ev_neg (by simp [inmarks]) (ev_now ?_)
    simp [ncS, sumBy]
  | cons x r ih =>
    intro p a ha hp
    have hn : ncS (x :: r) = ncI x + ncS r := by simp [ncS, sumBy_cons]
    have hx : ncI x = 4 + 3 * x.f4.length + 2 * x.f5.length := rfl
    rw [hn] at ha ⊢
    simp only [List.length_cons] at hp
    obtain ⟨e1, e2, e3, e4⟩ := w64s4 a (by omega)
    rw [show inmarks a (x :: r) = inmk a x :: inmarks (a + ncI x) r from rfl]
    refine Ev.step (laws_heldInodeS.l0.eq_2 _ _ _) ?_
    refine ev_pos (by rw [List.length_append, List.length_cons]; omega) (ev_pos (Int.natCast_nonneg _) ?_)
    simp only [rd_mid]
    rw [e1, e2, e3, e4]
    clear e1 e2 e3 e4
    rw [w64s _ (by omega)]
    refine ev_pos rfl (ev_pos rfl (ev_pos rfl (Ev.bind (mtx_ev _ (by omega)) (ev_pos rfl ?_))))
    refine Ev.bind (heldRS_ev x.f4.length (a + 4) (by omega)) (ev_neg (by omega) ?_)
    refine Ev.bind (heldES_ev x.f5.length (a + 4 + 3 * x.f4.length) (by omega)) (ev_neg (by omega) ?_)
    have ih := ih (p ++ [inmk a x]) (a + ncI x) (by omega) (by simp; omega)
    rw [List.append_assoc, List.length_append, List.length_singleton] at ih
    have e5 : a + 4 + 3 * x.f4.length + 2 * x.f5.length = a + ncI x := by omega
    rw [e5]
    refine ev_to ih ?_
    rw [show a + (ncI x + ncS r) = a + ncI x + ncS r by omega]
theorem heldInodeS_ev (xs : List S64) (a : Nat) (h : a + ncS xs ≤ 3999999) (h2 : xs.length ≤ 4000000) : Ev (fun k => laws_heldInodeS.f k (inmarks a xs) ((a : Nat) : Int)) ((a + ncS xs : Nat) : Int) := by
  unfold laws_heldInodeS.f
  exact heldInodeS_l xs [] a h (by simpa using h2)
theorem heldPart_m (s : Int) (n : Nat) (xs : List S64) (a : Nat) (h : a + n + ncS xs ≤ 3999999) (hb : n ≤ 1048576) (h2 : xs.length ≤ 4000000) : Ev (fun k => laws_heldPart.f k s (marks a n) (inmarks (a + n) xs) ((a : Nat) : Int)) ((a + n + ncS xs : Nat) : Int) := by
  unfold laws_heldPart.f
  exact Ev.bind (heldIntS_ev n a hb (by omega)) (ev_neg (by omega) (Ev.bind (heldInodeS_ev xs _ h h2) (ev_neg (by omega) (ev_now rfl))))

/-! ### lin -/
theorem l01In_eq (a b c : Int) : spec_l01In.f a b c = some (decide (b ≤ a ∧ a ≤ c)) := by
  unfold spec_l01In.f
  by_cases h : a ≥ b
  · rw [if_pos h]; congr 1; simp; omega
  · rw [if_neg h]; congr 1; simp; omega

/-! ### within -/
theorem within_eq (a b c : Int) : impl_within.f a b c = some (decide (b ≤ a ∧ a ≤ c)) := by
  unfold impl_within.f
  by_cases h : a ≥ b
  · rw [if_pos h]; congr 1; simp; omega
  · rw [if_neg h]; congr 1; simp; omega

/-! ### geook -/
def gOk (t p i q : Int) : Bool := decide ((1 ≤ t ∧ t ≤ 3) ∧ (5 ≤ p ∧ p ≤ 12) ∧ (2 ≤ i ∧ i ≤ 6) ∧ (1 ≤ q ∧ q ≤ p - 4))
theorem gOk_parts {t p i q : Int} (h : gOk t p i q = true) : (1 ≤ t ∧ t ≤ 3) ∧ (5 ≤ p ∧ p ≤ 12) ∧ (2 ≤ i ∧ i ≤ 6) ∧ (1 ≤ q ∧ q ≤ p - 4) := by simpa [gOk] using h
theorem sGeo_eq (t p i q : Int) : spec_GeoOk.f t p i q = some (gOk t p i q) := by
  unfold spec_GeoOk.f gOk
  rw [l01In_eq, Option.bind_some]
  by_cases h1 : 1 ≤ t ∧ t ≤ 3
  · rw [if_pos (by simpa using h1), l01In_eq, Option.bind_some]
    by_cases h2 : 5 ≤ p ∧ p ≤ 12
    · rw [if_pos (by simpa using h2), l01In_eq, Option.bind_some]
      by_cases h3 : 2 ≤ i ∧ i ≤ 6
      · rw [if_pos (by simpa using h3), w64 (x := p - 4) (by omega) (by omega), l01In_eq, Option.bind_some]
        congr 1
        simp [h1, h2, h3]
      · rw [if_neg (by simpa using h3)]; congr 1; symm; rw [decide_eq_false_iff_not]; exact fun h => h3 h.2.2.1
    · rw [if_neg (by simpa using h2)]; congr 1; symm; rw [decide_eq_false_iff_not]; exact fun h => h2 h.2.1
  · rw [if_neg (by simpa using h1)]; congr 1; symm; rw [decide_eq_false_iff_not]; exact fun h => h1 h.1
theorem iGeo_eq (t p i q : Int) : impl_GeoOk.f t p i q = some (gOk t p i q) := by
  unfold impl_GeoOk.f gOk
  rw [within_eq, Option.bind_some]
  by_cases h1 : 1 ≤ t ∧ t ≤ 3
  · rw [if_pos (by simpa using h1), within_eq, Option.bind_some]
    by_cases h2 : 5 ≤ p ∧ p ≤ 12
    · rw [if_pos (by simpa using h2), within_eq, Option.bind_some]
      by_cases h3 : 2 ≤ i ∧ i ≤ 6
      · rw [if_pos (by simpa using h3), w64 (x := p - 4) (by omega) (by omega), within_eq, Option.bind_some]
        congr 1
        simp [h1, h2, h3]
      · rw [if_neg (by simpa using h3)]; congr 1; symm; rw [decide_eq_false_iff_not]; exact fun h => h3 h.2.2.1
    · rw [if_neg (by simpa using h2)]; congr 1; symm; rw [decide_eq_false_iff_not]; exact fun h => h2 h.2.1
  · rw [if_neg (by simpa using h1)]; congr 1; symm; rw [decide_eq_false_iff_not]; exact fun h => h1 h.1
/-- The words of a part. -/
def pW (p i : Int) : Int := 38 + 8 * i + 4 * p

/-! ### FnExactPartNew -/
def pnI (i : Int) : List S64 := ((List.replicate i.toNat z64).set 0 (⟨2, 0, 1, (⟨#[]⟩ : ByteArray), ([] : List S96), ([] : List S67)⟩ : S64))
/-- A new part. -/
def pnV (t p i q : Int) : Int × List Int × List S64 := if gOk t p i q = true then (0, List.replicate p.toNat 0, pnI i) else (0, [], [])
theorem sPN_eq (t p i q : Int) : spec_PartNew.f t p i q = some (pnV t p i q) := by
  unfold spec_PartNew.f pnV
  rw [sGeo_eq, Option.bind_some]
  by_cases h : gOk t p i q = true
  · obtain ⟨h1, h2, h3, h4⟩ := gOk_parts h
    rw [if_pos h, if_pos h, if_pos (by omega), if_pos (by omega), if_pos (by omega), if_pos (by omega), Option.bind_some, if_pos (by rw [List.length_replicate]; omega)]
    rfl
  · rw [if_neg h, if_neg h]
theorem iPN_eq (t p i q : Int) : impl_PartNew.f t p i q = some (pnV t p i q) := by
  unfold impl_PartNew.f pnV
  rw [iGeo_eq, Option.bind_some]
  by_cases h : gOk t p i q = true
  · obtain ⟨h1, h2, h3, h4⟩ := gOk_parts h
    rw [if_pos h, if_pos h, if_pos (by omega), if_pos (by omega), if_pos (by omega), if_pos (by omega), Option.bind_some, if_pos (by rw [List.length_replicate]; omega)]
    rfl
  · rw [if_neg h, if_neg h]
theorem pnI_mem {i : Int} {x : S64} (h : x ∈ pnI i) : ncI x = 4 ∧ wiInode x = 0 := by
  unfold pnI at h
  rcases List.mem_or_eq_of_mem_set h with h | h
  · have := List.eq_of_mem_replicate h
    subst this
    exact ⟨rfl, rfl⟩
  · subst h
    exact ⟨rfl, rfl⟩
theorem sumBy_const {α : Type} {f : α → Nat} {c : Nat} : ∀ {xs : List α}, (∀ x ∈ xs, f x = c) → sumBy f xs = c * xs.length
  | [], _ => by simp [sumBy]
  | x :: r, h => by
    rw [sumBy_cons, sumBy_const (fun y hy => h y (List.mem_cons_of_mem _ hy)), h x (List.mem_cons_self ..), List.length_cons, Nat.mul_succ]
    omega
theorem pnV_b (t p i q : Int) : (pnV t p i q).2.1.length ≤ 12 ∧ (pnV t p i q).2.2.length ≤ 6 ∧ ncS (pnV t p i q).2.2 ≤ 24 ∧ wiInodeS (pnV t p i q).2.2 ≤ 6 := by
  unfold pnV
  by_cases h : gOk t p i q = true
  · obtain ⟨h1, h2, h3, h4⟩ := gOk_parts h
    rw [if_pos h]
    have hl : (pnI i).length ≤ 6 := by unfold pnI; rw [List.length_set, List.length_replicate]; omega
    refine ⟨by rw [List.length_replicate]; omega, hl, ?_, ?_⟩
    · unfold ncS
      rw [sumBy_const (fun x hx => (pnI_mem hx).1)]
      show 4 * (pnI i).length ≤ 24
      omega
    · unfold wiInodeS
      rw [sumBy_const (fun x hx => (pnI_mem hx).2)]
      show (pnI i).length + 0 * (pnI i).length ≤ 6
      omega
  · rw [if_neg h]
    refine ⟨by simp, by simp, by simp [ncS, sumBy], by simp [wiInodeS, sumBy]⟩
theorem FnExactPartNew : laws_FnExactPartNew.Law := by
  intro t p i q _ _ _ _
  apply Ev.rounds
  unfold laws_FnExactPartNew.f
  obtain ⟨b1, b2, b3, b4⟩ := pnV_b t p i q
  have he : Ev (fun k => laws_eqPart.f k (pnV t p i q).1 (pnV t p i q).2.1 (pnV t p i q).2.2 (pnV t p i q).1 (pnV t p i q).2.1 (pnV t p i q).2.2) true := eqPart_ev _ _ _ (by unfold wiPart; omega)
  have hm := markPart_m (pnV t p i q).1 (pnV t p i q).2.1 (pnV t p i q).2.2 1 (by omega) (by omega) (by omega)
  have hh := heldPart_m (pnV t p i q).1 (pnV t p i q).2.1.length (pnV t p i q).2.2 1 (by omega) (by omega) (by omega)
  have hg : laws_toGeo.f t p i q = some (t, p, i, q) := rfl
  refine Ev.bind (ev_eq hg) (Ev.bind (ev_eq (sPN_eq t p i q)) (Ev.bind (ev_eq hg) (Ev.bind (ev_eq (iPN_eq t p i q)) (Ev.bind he (ev_pos rfl ?_)))))
  refine Ev.bind hm (Ev.bind hh (ev_neg (by omega) (ev_pos rfl ?_)))
  refine Ev.bind (ev_eq hg) (Ev.bind (ev_eq (iPN_eq t p i q)) (Ev.bind he (ev_pos rfl ?_)))
  exact Ev.bind hh (ev_neg (by omega) (ev_pos rfl (ev_now rfl)))

end Go.Proofs.Ytljnnmpfeningaa.Pure
