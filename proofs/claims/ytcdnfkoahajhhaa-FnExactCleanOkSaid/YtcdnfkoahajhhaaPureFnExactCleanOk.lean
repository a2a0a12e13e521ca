/- The pure statement of FnExactCleanOk is proved: for all arguments within the row's own bounds the Lean function that the law's walk comes to answers true. Conditions: none beyond these bounds. -/
import Derived.Test.YtcdnfkoahajhhaaStFnExactCleanOk
import Derived.Test.YtcdnfkoahajhhaaBase
namespace Go.Proofs.Ytcdnfkoahajhhaa.Pure
open Go.RowKit Go.Proofs.Ytcdnfkoahajhhaa.PFnExactCleanOk Go.Proofs.YtcdnfkoahajhhaaW.PrintWords Go.Proofs.YtcdnfkoahajhhaaW.PrintLast Go.Proofs.Ytcdnfkoahajhhaa.Base
set_option linter.unusedVariables false
set_option linter.unusedSimpArgs false
/-! ### t_Cell -/
def wtCell (x : S204) : Nat := x.f1.size + (0)
def wiCell (x : S206) : Nat := x.f1.size + (0)
def wtCellS (xs : List S204) : Nat := xs.length + sumBy wtCell xs
def wiCellS (xs : List S206) : Nat := xs.length + sumBy wiCell xs
def cvCell (x : S204) : S206 := ⟨x.f0, x.f1, x.f2⟩
theorem wiCell_cv (x : S204) : wiCell (cvCell x) = wtCell x := by simp only [wiCell, wtCell, cvCell]
theorem wiCellS_cv (xs : List S204) : wiCellS (xs.map cvCell) = wtCellS xs := by
  unfold wiCellS wtCellS sumBy
  rw [List.length_map, List.map_map, List.map_congr_left (f := wiCell ∘ cvCell) (g := wtCell) (fun x _ => wiCell_cv x)]
theorem rdlCell (xs : List S204) (i : Nat) (h : i < xs.length) : rd_T204 xs (i : Int) = xs[i] := getD_at _ xs i h
theorem rdiCell (xs : List S206) (i : Nat) (h : i < xs.length) : rd_T206 xs (i : Int) = xs[i] := getD_at _ xs i h
theorem szCell_ev (x : S204) (hx : Wf204 x) (a : Int) (g0 : 0 ≤ a) (g1 : a ≤ 1048576) : Ev (fun k => laws_szCell.f x.f0 x.f1 x.f2 a) (left a (wtCell x)) := by
  unfold laws_szCell.f wtCell
  have b1 := (hx.2.1)
  rw [w64 (x := a - (x.f1.size : Int)) (by omega) (by omega)]
  refine ev_sub a (by omega) (fun q1 => ?_)
  exact ev_now (left_zero (by omega)).symm
theorem szCellS_l (xs : List S204) (hn : xs.length ≤ 1048576) (hw : ∀ y ∈ xs, Wf204 y) : ∀ (i : Nat) (a : Int), i ≤ xs.length → 0 ≤ a → a ≤ 1048576 → Ev (fun k => laws_szCellS.l0 k xs a i) (left a (sumBy wtCell (xs.drop i)))
  | i, a, hi, h0, h1 => by
    refine Ev.step (laws_szCellS.l0.eq_2 _ _ _) ?_
    by_cases h : i < xs.length
    · refine ev_pos (by omega) (ev_pos (by omega) ?_)
      rw [rdlCell xs i h, w64s i (by omega), drop_at xs i h, sumBy_cons]
      refine Ev.bind (szCell_ev _ (hw _ (List.getElem_mem h)) a h0 h1) (ev_call (fun q => ?_))
      have := left_le q
      exact szCellS_l xs hn hw (i + 1) _ (by omega) (by omega) (by omega)
    · refine ev_neg (by omega) (ev_now ?_)
      rw [List.drop_of_length_le (by omega), sumBy_nil, left_zero h0]
  termination_by i => xs.length - i
theorem szCellS_ev (xs : List S204) (hb : xs.length ≤ 140737488351232) (hw : ∀ y ∈ xs, Wf204 y) (a : Int) (h0 : 0 ≤ a) (h1 : a ≤ 1048576) : Ev (fun k => laws_szCellS.f k xs a) (left a (wtCellS xs)) := by
  unfold laws_szCellS.f wtCellS
  rw [w64 (x := a - (xs.length : Int)) (by omega) (by omega)]
  refine ev_sub a h0 (fun q => ?_)
  have := szCellS_l xs (by omega) hw 0 (a - xs.length) (by omega) (by omega) (by omega)
  rw [List.drop_zero] at this
  exact this

theorem toCellS_l (xs : List S204) (hn : wtCellS xs ≤ 1048576) : ∀ (i : Nat) (ys : List S206), i ≤ xs.length → ys.length = xs.length → ys.take i = (xs.map cvCell).take i → Ev (fun k => laws_toCellS.l0 k xs ys i) (xs.map cvCell)
  | i, ys, hi, hl, ht => by
    have hn2 : xs.length ≤ 1048576 := by unfold wtCellS at hn; omega
    refine Ev.step (laws_toCellS.l0.eq_2 _ _ _) ?_
    by_cases h : i < xs.length
    · refine ev_pos (by omega) (ev_pos (by omega) ?_)
      have hx : wtCell xs[i] ≤ 1048576 := by have := sumBy_mem (f := wtCell) (List.getElem_mem h); unfold wtCellS at hn; omega
      rw [rdlCell xs i h, w64s i (by omega)]
      refine Ev.bind (ev_eq rfl) (ev_pos (by omega) ?_)
      rw [Int.toNat_natCast]
      exact toCellS_l xs hn (i + 1) _ (by omega) (by simp [hl]) (take_set (by simp [hl]) ht (by simpa using h) (by simp [cvCell]))
    · have : i = xs.length := by omega
      subst this
      exact ev_neg (by omega) (ev_now (take_all (by simp [hl]) (by simpa using ht)))
  termination_by i => xs.length - i
theorem toCellS_ev (xs : List S204) (hn : wtCellS xs ≤ 1048576) : Ev (fun k => laws_toCellS.f k xs) (xs.map cvCell) := by
  have hn2 : xs.length ≤ 1048576 := by unfold wtCellS at hn; omega
  unfold laws_toCellS.f
  exact ev_pos (by omega) (ev_pos (by omega) (toCellS_l xs hn 0 _ (by omega) (by simp) (by simp)))

theorem eqCell_ev (x : S206) : Ev (fun _ => laws_eqCell.f x.f0 x.f1 x.f2 x.f0 x.f1 x.f2) true := ev_eq (by simp [laws_eqCell.f])
theorem eqCellS_l (xs : List S206) (hn : wiCellS xs ≤ 4000000) : ∀ (i : Nat), i ≤ xs.length → Ev (fun k => laws_eqCellS.l0 k xs xs i) true
  | i, hi => by
    have hn2 : xs.length ≤ 4000000 := by unfold wiCellS at hn; omega
    refine Ev.step (laws_eqCellS.l0.eq_2 _ _ _) ?_
    by_cases h : i < xs.length
    · refine ev_pos (by omega) (ev_pos (by omega) (ev_pos (by omega) ?_))
      rw [w64s i (by omega), rdiCell xs i h]
      exact Ev.bind (eqCell_ev _) (ev_pos rfl (eqCellS_l xs hn (i + 1) (by omega)))
    · exact ev_neg (by omega) (ev_now rfl)
  termination_by i => xs.length - i
theorem eqCellS_ev (xs : List S206) (hn : wiCellS xs ≤ 4000000) : Ev (fun k => laws_eqCellS.f k xs xs) true := by
  unfold laws_eqCellS.f
  exact ev_pos rfl (eqCellS_l xs hn 0 (by omega))


/-! ### t_Memory -/
def wtMemory (a0 : ByteArray) (a1 : List S204) : Nat := a0.size + (wtCellS a1 + (0))
def wiMemory (a0 : ByteArray) (a1 : List S206) : Nat := a0.size + (wiCellS a1 + (0))
theorem szMemory_ev (a0 : ByteArray) (a1 : List S204) (h0 : a0.size ≤ 140737488351232) (h1 : a1.length ≤ 140737488351232 ∧ ∀ y ∈ a1, Wf204 y) (a : Int) (g0 : 0 ≤ a) (g1 : a ≤ 1048576) : Ev (fun k => laws_szMemory.f k a0 a1 a) (left a (wtMemory a0 a1)) := by
  unfold laws_szMemory.f wtMemory
  have b0 := h0
  rw [w64 (x := a - (a0.size : Int)) (by omega) (by omega)]
  refine ev_sub a (by omega) (fun q0 => ?_)
  refine Ev.bind (szCellS_ev a1 (by have := (h1).1; omega) (h1).2 (a - (a0.size : Int)) (by omega) (by omega)) (ev_call (fun q1 => ?_))
  have r1 := left_le q1
  exact ev_now (left_zero (by omega)).symm

theorem toMemory_ev (a0 : ByteArray) (a1 : List S204) (hw : wtMemory a0 a1 ≤ 1048576) : Ev (fun k => laws_toMemory.f k a0 a1) (a0, (a1.map cvCell)) := by
  unfold wtMemory at hw
  unfold laws_toMemory.f
  refine Ev.bind (toCellS_ev a1 (by omega)) ?_
  exact ev_now rfl

theorem eqMemory_ev (a0 : ByteArray) (a1 : List S206) (hw : wiMemory a0 a1 ≤ 4000000) : Ev (fun k => laws_eqMemory.f k a0 a1 a0 a1) true := by
  unfold wiMemory at hw
  unfold laws_eqMemory.f
  refine ev_pos rfl ?_
  refine Ev.bind (eqCellS_ev a1 (by omega)) (ev_pos rfl ?_)
  exact ev_now rfl


/-! ### t_Geo -/
def wtGeo (a0 : Int) (a1 : Int) (a2 : Int) (a3 : Int) : Nat := 0
def wiGeo (a0 : Int) (a1 : Int) (a2 : Int) (a3 : Int) : Nat := 0




/-! ### t_Entry -/
def wtEntry (x : S56) : Nat := x.f1.size + (0)

def wiEntry (x : S59) : Nat := x.f1.size + (0)
def wtEntryS (xs : List S56) : Nat := xs.length + sumBy wtEntry xs

def wiEntryS (xs : List S59) : Nat := xs.length + sumBy wiEntry xs
def cvEntry (x : S56) : S59 := ⟨x.f0, x.f1⟩

theorem wiEntry_cv (x : S56) : wiEntry (cvEntry x) = wtEntry x := by simp only [wiEntry, wtEntry, cvEntry]

theorem wiEntryS_cv (xs : List S56) : wiEntryS (xs.map cvEntry) = wtEntryS xs := by
  unfold wiEntryS wtEntryS sumBy
  rw [List.length_map, List.map_map, List.map_congr_left (f := wiEntry ∘ cvEntry) (g := wtEntry) (fun x _ => wiEntry_cv x)]

theorem rdlEntry (xs : List S56) (i : Nat) (h : i < xs.length) : rd_T56 xs (i : Int) = xs[i] := getD_at _ xs i h

theorem rdiEntry (xs : List S59) (i : Nat) (h : i < xs.length) : rd_T59 xs (i : Int) = xs[i] := getD_at _ xs i h
theorem szEntry_ev (x : S56) (hx : Wf56 x) (a : Int) (g0 : 0 ≤ a) (g1 : a ≤ 1048576) : Ev (fun k => laws_szEntry.f x.f0 x.f1 a) (left a (wtEntry x)) := by
  unfold laws_szEntry.f wtEntry
  have b1 := (hx.2)
  rw [w64 (x := a - (x.f1.size : Int)) (by omega) (by omega)]
  refine ev_sub a (by omega) (fun q1 => ?_)
  exact ev_now (left_zero (by omega)).symm
theorem szEntryS_l (xs : List S56) (hn : xs.length ≤ 1048576) (hw : ∀ y ∈ xs, Wf56 y) : ∀ (i : Nat) (a : Int), i ≤ xs.length → 0 ≤ a → a ≤ 1048576 → Ev (fun k => laws_szEntryS.l0 k xs a i) (left a (sumBy wtEntry (xs.drop i)))
  | i, a, hi, h0, h1 => by
    refine Ev.step (laws_szEntryS.l0.eq_2 _ _ _) ?_
    by_cases h : i < xs.length
    · refine ev_pos (by omega) (ev_pos (by omega) ?_)
      rw [rdlEntry xs i h, w64s i (by omega), drop_at xs i h, sumBy_cons]
      refine Ev.bind (szEntry_ev _ (hw _ (List.getElem_mem h)) a h0 h1) (ev_call (fun q => ?_))
      have := left_le q
      exact szEntryS_l xs hn hw (i + 1) _ (by omega) (by omega) (by omega)
    · refine ev_neg (by omega) (ev_now ?_)
      rw [List.drop_of_length_le (by omega), sumBy_nil, left_zero h0]
  termination_by i => xs.length - i
theorem szEntryS_ev (xs : List S56) (hb : xs.length ≤ 140737488351232) (hw : ∀ y ∈ xs, Wf56 y) (a : Int) (h0 : 0 ≤ a) (h1 : a ≤ 1048576) : Ev (fun k => laws_szEntryS.f k xs a) (left a (wtEntryS xs)) := by
  unfold laws_szEntryS.f wtEntryS
  rw [w64 (x := a - (xs.length : Int)) (by omega) (by omega)]
  refine ev_sub a h0 (fun q => ?_)
  have := szEntryS_l xs (by omega) hw 0 (a - xs.length) (by omega) (by omega) (by omega)
  rw [List.drop_zero] at this
  exact this

theorem toEntryS_l (xs : List S56) (hn : wtEntryS xs ≤ 1048576) : ∀ (i : Nat) (ys : List S59), i ≤ xs.length → ys.length = xs.length → ys.take i = (xs.map cvEntry).take i → Ev (fun k => laws_toEntryS.l0 k xs ys i) (xs.map cvEntry)
  | i, ys, hi, hl, ht => by
    have hn2 : xs.length ≤ 1048576 := by unfold wtEntryS at hn; omega
    refine Ev.step (laws_toEntryS.l0.eq_2 _ _ _) ?_
    by_cases h : i < xs.length
    · refine ev_pos (by omega) (ev_pos (by omega) ?_)
      have hx : wtEntry xs[i] ≤ 1048576 := by have := sumBy_mem (f := wtEntry) (List.getElem_mem h); unfold wtEntryS at hn; omega
      rw [rdlEntry xs i h, w64s i (by omega)]
      refine Ev.bind (ev_eq rfl) (ev_pos (by omega) ?_)
      rw [Int.toNat_natCast]
      exact toEntryS_l xs hn (i + 1) _ (by omega) (by simp [hl]) (take_set (by simp [hl]) ht (by simpa using h) (by simp [cvEntry]))
    · have : i = xs.length := by omega
      subst this
      exact ev_neg (by omega) (ev_now (take_all (by simp [hl]) (by simpa using ht)))
  termination_by i => xs.length - i
theorem toEntryS_ev (xs : List S56) (hn : wtEntryS xs ≤ 1048576) : Ev (fun k => laws_toEntryS.f k xs) (xs.map cvEntry) := by
  have hn2 : xs.length ≤ 1048576 := by unfold wtEntryS at hn; omega
  unfold laws_toEntryS.f
  exact ev_pos (by omega) (ev_pos (by omega) (toEntryS_l xs hn 0 _ (by omega) (by simp) (by simp)))

theorem eqEntry_ev (x : S59) : Ev (fun _ => laws_eqEntry.f x.f0 x.f1 x.f0 x.f1) true := ev_eq (by simp [laws_eqEntry.f])
theorem eqEntryS_l (xs : List S59) (hn : wiEntryS xs ≤ 4000000) : ∀ (i : Nat), i ≤ xs.length → Ev (fun k => laws_eqEntryS.l0 k xs xs i) true
  | i, hi => by
    have hn2 : xs.length ≤ 4000000 := by unfold wiEntryS at hn; omega
    refine Ev.step (laws_eqEntryS.l0.eq_2 _ _ _) ?_
    by_cases h : i < xs.length
    · refine ev_pos (by omega) (ev_pos (by omega) (ev_pos (by omega) ?_))
      rw [w64s i (by omega), rdiEntry xs i h]
      exact Ev.bind (eqEntry_ev _) (ev_pos rfl (eqEntryS_l xs hn (i + 1) (by omega)))
    · exact ev_neg (by omega) (ev_now rfl)
  termination_by i => xs.length - i
theorem eqEntryS_ev (xs : List S59) (hn : wiEntryS xs ≤ 4000000) : Ev (fun k => laws_eqEntryS.f k xs xs) true := by
  unfold laws_eqEntryS.f
  exact ev_pos rfl (eqEntryS_l xs hn 0 (by omega))


/-! ### t_Rec -/
def wtRec (x : S181) : Nat := x.f2.size + (0)

def wiRec (x : S170) : Nat := x.f2.size + (0)
def wtRecS (xs : List S181) : Nat := xs.length + sumBy wtRec xs

def wiRecS (xs : List S170) : Nat := xs.length + sumBy wiRec xs
def cvRec (x : S181) : S170 := ⟨x.f0, x.f1, x.f2⟩

theorem wiRec_cv (x : S181) : wiRec (cvRec x) = wtRec x := by simp only [wiRec, wtRec, cvRec]

theorem wiRecS_cv (xs : List S181) : wiRecS (xs.map cvRec) = wtRecS xs := by
  unfold wiRecS wtRecS sumBy
  rw [List.length_map, List.map_map, List.map_congr_left (f := wiRec ∘ cvRec) (g := wtRec) (fun x _ => wiRec_cv x)]

theorem rdlRec (xs : List S181) (i : Nat) (h : i < xs.length) : rd_T181 xs (i : Int) = xs[i] := getD_at _ xs i h

theorem rdiRec (xs : List S170) (i : Nat) (h : i < xs.length) : rd_T170 xs (i : Int) = xs[i] := getD_at _ xs i h
theorem szRec_ev (x : S181) (hx : Wf181 x) (a : Int) (g0 : 0 ≤ a) (g1 : a ≤ 1048576) : Ev (fun k => laws_szRec.f x.f0 x.f1 x.f2 a) (left a (wtRec x)) := by
  unfold laws_szRec.f wtRec
  have b2 := (hx.2.2)
  rw [w64 (x := a - (x.f2.size : Int)) (by omega) (by omega)]
  refine ev_sub a (by omega) (fun q2 => ?_)
  exact ev_now (left_zero (by omega)).symm
theorem szRecS_l (xs : List S181) (hn : xs.length ≤ 1048576) (hw : ∀ y ∈ xs, Wf181 y) : ∀ (i : Nat) (a : Int), i ≤ xs.length → 0 ≤ a → a ≤ 1048576 → Ev (fun k => laws_szRecS.l0 k xs a i) (left a (sumBy wtRec (xs.drop i)))
  | i, a, hi, h0, h1 => by
    refine Ev.step (laws_szRecS.l0.eq_2 _ _ _) ?_
    by_cases h : i < xs.length
    · refine ev_pos (by omega) (ev_pos (by omega) ?_)
      rw [rdlRec xs i h, w64s i (by omega), drop_at xs i h, sumBy_cons]
      refine Ev.bind (szRec_ev _ (hw _ (List.getElem_mem h)) a h0 h1) (ev_call (fun q => ?_))
      have := left_le q
      exact szRecS_l xs hn hw (i + 1) _ (by omega) (by omega) (by omega)
    · refine ev_neg (by omega) (ev_now ?_)
      rw [List.drop_of_length_le (by omega), sumBy_nil, left_zero h0]
  termination_by i => xs.length - i
theorem szRecS_ev (xs : List S181) (hb : xs.length ≤ 140737488351232) (hw : ∀ y ∈ xs, Wf181 y) (a : Int) (h0 : 0 ≤ a) (h1 : a ≤ 1048576) : Ev (fun k => laws_szRecS.f k xs a) (left a (wtRecS xs)) := by
  unfold laws_szRecS.f wtRecS
  rw [w64 (x := a - (xs.length : Int)) (by omega) (by omega)]
  refine ev_sub a h0 (fun q => ?_)
  have := szRecS_l xs (by omega) hw 0 (a - xs.length) (by omega) (by omega) (by omega)
  rw [List.drop_zero] at this
  exact this

theorem toRecS_l (xs : List S181) (hn : wtRecS xs ≤ 1048576) : ∀ (i : Nat) (ys : List S170), i ≤ xs.length → ys.length = xs.length → ys.take i = (xs.map cvRec).take i → Ev (fun k => laws_toRecS.l0 k xs ys i) (xs.map cvRec)
  | i, ys, hi, hl, ht => by
    have hn2 : xs.length ≤ 1048576 := by unfold wtRecS at hn; omega
    refine Ev.step (laws_toRecS.l0.eq_2 _ _ _) ?_
    by_cases h : i < xs.length
    · refine ev_pos (by omega) (ev_pos (by omega) ?_)
      have hx : wtRec xs[i] ≤ 1048576 := by have := sumBy_mem (f := wtRec) (List.getElem_mem h); unfold wtRecS at hn; omega
      rw [rdlRec xs i h, w64s i (by omega)]
      refine Ev.bind (ev_eq rfl) (ev_pos (by omega) ?_)
      rw [Int.toNat_natCast]
      exact toRecS_l xs hn (i + 1) _ (by omega) (by simp [hl]) (take_set (by simp [hl]) ht (by simpa using h) (by simp [cvRec]))
    · have : i = xs.length := by omega
      subst this
      exact ev_neg (by omega) (ev_now (take_all (by simp [hl]) (by simpa using ht)))
  termination_by i => xs.length - i
theorem toRecS_ev (xs : List S181) (hn : wtRecS xs ≤ 1048576) : Ev (fun k => laws_toRecS.f k xs) (xs.map cvRec) := by
  have hn2 : xs.length ≤ 1048576 := by unfold wtRecS at hn; omega
  unfold laws_toRecS.f
  exact ev_pos (by omega) (ev_pos (by omega) (toRecS_l xs hn 0 _ (by omega) (by simp) (by simp)))

theorem eqRec_ev (x : S170) : Ev (fun _ => laws_eqRec.f x.f0 x.f1 x.f2 x.f0 x.f1 x.f2) true := ev_eq (by simp [laws_eqRec.f])
theorem eqRecS_l (xs : List S170) (hn : wiRecS xs ≤ 4000000) : ∀ (i : Nat), i ≤ xs.length → Ev (fun k => laws_eqRecS.l0 k xs xs i) true
  | i, hi => by
    have hn2 : xs.length ≤ 4000000 := by unfold wiRecS at hn; omega
    refine Ev.step (laws_eqRecS.l0.eq_2 _ _ _) ?_
    by_cases h : i < xs.length
    · refine ev_pos (by omega) (ev_pos (by omega) (ev_pos (by omega) ?_))
      rw [w64s i (by omega), rdiRec xs i h]
      exact Ev.bind (eqRec_ev _) (ev_pos rfl (eqRecS_l xs hn (i + 1) (by omega)))
    · exact ev_neg (by omega) (ev_now rfl)
  termination_by i => xs.length - i
theorem eqRecS_ev (xs : List S170) (hn : wiRecS xs ≤ 4000000) : Ev (fun k => laws_eqRecS.f k xs xs) true := by
  unfold laws_eqRecS.f
  exact ev_pos rfl (eqRecS_l xs hn 0 (by omega))


/-! ### t_Inode -/
def wtInode (x : S44) : Nat := x.f3.size + (wtRecS x.f4 + (wtEntryS x.f5 + (0)))

def wiInode (x : S49) : Nat := x.f3.size + (wiRecS x.f4 + (wiEntryS x.f5 + (0)))
def wtInodeS (xs : List S44) : Nat := xs.length + sumBy wtInode xs

def wiInodeS (xs : List S49) : Nat := xs.length + sumBy wiInode xs
def cvInode (x : S44) : S49 := ⟨x.f0, x.f1, x.f2, x.f3, (x.f4.map cvRec), (x.f5.map cvEntry)⟩

theorem wiInode_cv (x : S44) : wiInode (cvInode x) = wtInode x := by simp only [wiInode, wtInode, cvInode, wiRecS_cv, wiEntryS_cv]

theorem wiInodeS_cv (xs : List S44) : wiInodeS (xs.map cvInode) = wtInodeS xs := by
  unfold wiInodeS wtInodeS sumBy
  rw [List.length_map, List.map_map, List.map_congr_left (f := wiInode ∘ cvInode) (g := wtInode) (fun x _ => wiInode_cv x)]

theorem rdlInode (xs : List S44) (i : Nat) (h : i < xs.length) : rd_T44 xs (i : Int) = xs[i] := getD_at _ xs i h

theorem rdiInode (xs : List S49) (i : Nat) (h : i < xs.length) : rd_T49 xs (i : Int) = xs[i] := getD_at _ xs i h
theorem szInode_ev (x : S44) (hx : Wf44 x) (a : Int) (g0 : 0 ≤ a) (g1 : a ≤ 1048576) : Ev (fun k => laws_szInode.f k x.f0 x.f1 x.f2 x.f3 x.f4 x.f5 a) (left a (wtInode x)) := by
  unfold laws_szInode.f wtInode
  have b3 := (hx.2.2.2.1)
  rw [w64 (x := a - (x.f3.size : Int)) (by omega) (by omega)]
  refine ev_sub a (by omega) (fun q3 => ?_)
  refine Ev.bind (szRecS_ev x.f4 (by have := ((hx.2.2.2.2.1)).1; omega) ((hx.2.2.2.2.1)).2 (a - (x.f3.size : Int)) (by omega) (by omega)) (ev_call (fun q4 => ?_))
  have r4 := left_le q4
  refine Ev.bind (szEntryS_ev x.f5 (by have := ((hx.2.2.2.2.2)).1; omega) ((hx.2.2.2.2.2)).2 (left (a - (x.f3.size : Int)) (wtRecS x.f4)) (by omega) (by omega)) (ev_call (fun q5 => ?_))
  have r5 := left_le q5
  exact ev_now (left_zero (by omega)).symm

theorem szInodeS_l (xs : List S44) (hn : xs.length ≤ 1048576) (hw : ∀ y ∈ xs, Wf44 y) : ∀ (i : Nat) (a : Int), i ≤ xs.length → 0 ≤ a → a ≤ 1048576 → Ev (fun k => laws_szInodeS.l0 k xs a i) (left a (sumBy wtInode (xs.drop i)))
  | i, a, hi, h0, h1 => by
    refine Ev.step (laws_szInodeS.l0.eq_2 _ _ _) ?_
    by_cases h : i < xs.length
    · refine ev_pos (by omega) (ev_pos (by omega) ?_)
      rw [rdlInode xs i h, w64s i (by omega), drop_at xs i h, sumBy_cons]
      refine Ev.bind (szInode_ev _ (hw _ (List.getElem_mem h)) a h0 h1) (ev_call (fun q => ?_))
      have := left_le q
      exact szInodeS_l xs hn hw (i + 1) _ (by omega) (by omega) (by omega)
    · refine ev_neg (by omega) (ev_now ?_)
      rw [List.drop_of_length_le (by omega), sumBy_nil, left_zero h0]
  termination_by i => xs.length - i
theorem szInodeS_ev (xs : List S44) (hb : xs.length ≤ 140737488351232) (hw : ∀ y ∈ xs, Wf44 y) (a : Int) (h0 : 0 ≤ a) (h1 : a ≤ 1048576) : Ev (fun k => laws_szInodeS.f k xs a) (left a (wtInodeS xs)) := by
  unfold laws_szInodeS.f wtInodeS
  rw [w64 (x := a - (xs.length : Int)) (by omega) (by omega)]
  refine ev_sub a h0 (fun q => ?_)
  have := szInodeS_l xs (by omega) hw 0 (a - xs.length) (by omega) (by omega) (by omega)
  rw [List.drop_zero] at this
  exact this

theorem toInode_ev (x : S44) (hw : wtInode x ≤ 1048576) : Ev (fun k => laws_toInode.f k x.f0 x.f1 x.f2 x.f3 x.f4 x.f5) (x.f0, x.f1, x.f2, x.f3, (x.f4.map cvRec), (x.f5.map cvEntry)) := by
  unfold wtInode at hw
  unfold laws_toInode.f
  refine Ev.bind (toRecS_ev x.f4 (by omega)) ?_
  refine Ev.bind (toEntryS_ev x.f5 (by omega)) ?_
  exact ev_now rfl

theorem toInodeS_l (xs : List S44) (hn : wtInodeS xs ≤ 1048576) : ∀ (i : Nat) (ys : List S49), i ≤ xs.length → ys.length = xs.length → ys.take i = (xs.map cvInode).take i → Ev (fun k => laws_toInodeS.l0 k xs ys i) (xs.map cvInode)
  | i, ys, hi, hl, ht => by
    have hn2 : xs.length ≤ 1048576 := by unfold wtInodeS at hn; omega
    refine Ev.step (laws_toInodeS.l0.eq_2 _ _ _) ?_
    by_cases h : i < xs.length
    · refine ev_pos (by omega) (ev_pos (by omega) ?_)
      have hx : wtInode xs[i] ≤ 1048576 := by have := sumBy_mem (f := wtInode) (List.getElem_mem h); unfold wtInodeS at hn; omega
      rw [rdlInode xs i h, w64s i (by omega)]
      refine Ev.bind (toInode_ev _ (by omega)) (ev_pos (by omega) ?_)
      rw [Int.toNat_natCast]
      exact toInodeS_l xs hn (i + 1) _ (by omega) (by simp [hl]) (take_set (by simp [hl]) ht (by simpa using h) (by simp [cvInode]))
    · have : i = xs.length := by omega
      subst this
      exact ev_neg (by omega) (ev_now (take_all (by simp [hl]) (by simpa using ht)))
  termination_by i => xs.length - i
theorem toInodeS_ev (xs : List S44) (hn : wtInodeS xs ≤ 1048576) : Ev (fun k => laws_toInodeS.f k xs) (xs.map cvInode) := by
  have hn2 : xs.length ≤ 1048576 := by unfold wtInodeS at hn; omega
  unfold laws_toInodeS.f
  exact ev_pos (by omega) (ev_pos (by omega) (toInodeS_l xs hn 0 _ (by omega) (by simp) (by simp)))

theorem eqInode_ev (x : S49) (hw : wiInode x ≤ 4000000) : Ev (fun k => laws_eqInode.f k x.f0 x.f1 x.f2 x.f3 x.f4 x.f5 x.f0 x.f1 x.f2 x.f3 x.f4 x.f5) true := by
  unfold wiInode at hw
  unfold laws_eqInode.f
  refine ev_pos rfl ?_
  refine ev_pos rfl ?_
  refine ev_pos rfl ?_
  refine ev_pos rfl ?_
  refine Ev.bind (eqRecS_ev x.f4 (by omega)) (ev_pos rfl ?_)
  refine Ev.bind (eqEntryS_ev x.f5 (by omega)) (ev_pos rfl ?_)
  exact ev_now rfl

theorem eqInodeS_l (xs : List S49) (hn : wiInodeS xs ≤ 4000000) : ∀ (i : Nat), i ≤ xs.length → Ev (fun k => laws_eqInodeS.l0 k xs xs i) true
  | i, hi => by
    have hn2 : xs.length ≤ 4000000 := by unfold wiInodeS at hn; omega
    refine Ev.step (laws_eqInodeS.l0.eq_2 _ _ _) ?_
    by_cases h : i < xs.length
    · refine ev_pos (by omega) (ev_pos (by omega) (ev_pos (by omega) ?_))
      rw [w64s i (by omega), rdiInode xs i h]
      exact Ev.bind (eqInode_ev _ (by have := sumBy_mem (f := wiInode) (List.getElem_mem h); unfold wiInodeS at hn; omega)) (ev_pos rfl (eqInodeS_l xs hn (i + 1) (by omega)))
    · exact ev_neg (by omega) (ev_now rfl)
  termination_by i => xs.length - i
theorem eqInodeS_ev (xs : List S49) (hn : wiInodeS xs ≤ 4000000) : Ev (fun k => laws_eqInodeS.f k xs xs) true := by
  unfold laws_eqInodeS.f
  exact ev_pos rfl (eqInodeS_l xs hn 0 (by omega))


/-! ### szints -/
theorem szIntS_ev (xs : List Int) (a : Int) (hb : xs.length ≤ 140737488351232) (h0 : 0 ≤ a) (h1 : a ≤ 1048576) : Ev (fun _ => laws_szIntS.f xs a) (left a xs.length) := by
  unfold laws_szIntS.f
  rw [w64 (x := a - (xs.length : Int)) (by omega) (by omega)]
  exact ev_to (ev_sub a h0 (fun q => ev_now (left_zero q).symm)) rfl


/-! ### toints -/
theorem toIntS_l (xs : List Int) (hn : xs.length ≤ 4000000) : ∀ (i : Nat) (ys : List Int), i ≤ xs.length → ys.length = xs.length → ys.take i = xs.take i →
    Ev (fun k => laws_toIntS.l0 k xs ys i) xs
  | i, ys, hi, hl, ht => by
    refine Ev.step (laws_toIntS.l0.eq_2 _ _ _) ?_
    by_cases h : i < xs.length
    · refine ev_pos (by omega) (ev_pos (by omega) (ev_pos (by omega) ?_))
      rw [rd_at xs i h, w64s i (by omega), Int.toNat_natCast]
      exact toIntS_l xs hn (i + 1) _ (by omega) (by simp [hl]) (take_set hl ht h rfl)
    · have : i = xs.length := by omega
      subst this
      exact ev_neg (by omega) (ev_now (take_all hl ht))
  termination_by i => xs.length - i
theorem toIntS_ev (xs : List Int) (hn : xs.length ≤ 4000000) : Ev (fun k => laws_toIntS.f k xs) xs := by
  unfold laws_toIntS.f
  exact ev_pos (by omega) (ev_pos (by omega) (toIntS_l xs hn 0 _ (by omega) (by simp) (by simp)))


/-! ### ints -/
theorem eqIntS_l (xs : List Int) (hn : xs.length ≤ 4000000) : ∀ (i : Nat), i ≤ xs.length → Ev (fun k => laws_eqIntS.l0 k xs xs i) true
  | i, hi => by
    refine Ev.step (laws_eqIntS.l0.eq_2 _ _ _) ?_
    by_cases h : i < xs.length
    · refine ev_pos (by omega) (ev_pos (by omega) (ev_pos (by omega) (ev_pos rfl ?_)))
      rw [w64s i (by omega)]
      exact eqIntS_l xs hn (i + 1) (by omega)
    · exact ev_neg (by omega) (ev_now rfl)
  termination_by i => xs.length - i
theorem eqIntS_ev (xs : List Int) (hn : xs.length ≤ 4000000) : Ev (fun k => laws_eqIntS.f k xs xs) true := by
  unfold laws_eqIntS.f
  exact ev_pos rfl (eqIntS_l xs hn 0 (by omega))


/-! ### t_Part -/
def wtPart (a0 : Int) (a1 : List Int) (a2 : List S44) : Nat := a1.length + (wtInodeS a2 + (0))
def wiPart (a0 : Int) (a1 : List Int) (a2 : List S49) : Nat := a1.length + (wiInodeS a2 + (0))
theorem szPart_ev (a0 : Int) (a1 : List Int) (a2 : List S44) (h1 : a1.length ≤ 140737488351232) (h2 : a2.length ≤ 140737488351232 ∧ ∀ y ∈ a2, Wf44 y) (a : Int) (g0 : 0 ≤ a) (g1 : a ≤ 1048576) : Ev (fun k => laws_szPart.f k a0 a1 a2 a) (left a (wtPart a0 a1 a2)) := by
  unfold laws_szPart.f wtPart
  have b1 := h1
  refine Ev.bind (szIntS_ev a1 a (by omega) (by omega) (by omega)) (ev_call (fun q1 => ?_))
  have r1 := left_le q1
  refine Ev.bind (szInodeS_ev a2 (by have := (h2).1; omega) (h2).2 (left a a1.length) (by omega) (by omega)) (ev_call (fun q2 => ?_))
  have r2 := left_le q2
  exact ev_now (left_zero (by omega)).symm

theorem toPart_ev (a0 : Int) (a1 : List Int) (a2 : List S44) (hw : wtPart a0 a1 a2 ≤ 1048576) : Ev (fun k => laws_toPart.f k a0 a1 a2) (a0, a1, (a2.map cvInode)) := by
  unfold wtPart at hw
  unfold laws_toPart.f
  refine Ev.bind (toIntS_ev a1 (by omega)) ?_
  refine Ev.bind (toInodeS_ev a2 (by omega)) ?_
  exact ev_now rfl

theorem eqPart_ev (a0 : Int) (a1 : List Int) (a2 : List S49) (hw : wiPart a0 a1 a2 ≤ 4000000) : Ev (fun k => laws_eqPart.f k a0 a1 a2 a0 a1 a2) true := by
  unfold wiPart at hw
  unfold laws_eqPart.f
  refine ev_pos rfl ?_
  refine Ev.bind (eqIntS_ev a1 (by omega)) (ev_pos rfl ?_)
  refine Ev.bind (eqInodeS_ev a2 (by omega)) (ev_pos rfl ?_)
  exact ev_now rfl


/-! ### lin -/
theorem l01In_eq (a b c : Int) : spec_l01In.f a b c = some (decide (b ≤ a ∧ a ≤ c)) := by
  unfold spec_l01In.f
  by_cases h : a ≥ b
  · rw [if_pos h]; congr 1; simp; omega
  · rw [if_neg h]; congr 1; simp; omega

/-! ### within -/
theorem within_eq (a b c : Int) : impl_within.f a b c = some (decide (b ≤ a ∧ a ≤ c)) := by
  unfold impl_within.f
  by_cases h : a ≥ b
  · rw [if_pos h]; congr 1; simp; omega
  · rw [if_neg h]; congr 1; simp; omega

/-! ### geook -/
def gOk (t p i q : Int) : Bool := decide ((1 ≤ t ∧ t ≤ 3) ∧ (5 ≤ p ∧ p ≤ 12) ∧ (2 ≤ i ∧ i ≤ 6) ∧ (1 ≤ q ∧ q ≤ p - 4))
theorem gOk_parts {t p i q : Int} (h : gOk t p i q = true) : (1 ≤ t ∧ t ≤ 3) ∧ (5 ≤ p ∧ p ≤ 12) ∧ (2 ≤ i ∧ i ≤ 6) ∧ (1 ≤ q ∧ q ≤ p - 4) := by simpa [gOk] using h
theorem sGeo_eq (t p i q : Int) : spec_GeoOk.f t p i q = some (gOk t p i q) := by
  unfold spec_GeoOk.f gOk
  rw [l01In_eq, Option.bind_some]
  by_cases h1 : 1 ≤ t ∧ t ≤ 3
  · rw [if_pos (by simpa using h1), l01In_eq, Option.bind_some]
    by_cases h2 : 5 ≤ p ∧ p ≤ 12
    · rw [if_pos (by simpa using h2), l01In_eq, Option.bind_some]
      by_cases h3 : 2 ≤ i ∧ i ≤ 6
      · rw [if_pos (by simpa using h3), w64 (x := p - 4) (by omega) (by omega), l01In_eq, Option.bind_some]
        congr 1
        simp [h1, h2, h3]
      · rw [if_neg (by simpa using h3)]; congr 1; symm; rw [decide_eq_false_iff_not]; exact fun h => h3 h.2.2.1
    · rw [if_neg (by simpa using h2)]; congr 1; symm; rw [decide_eq_false_iff_not]; exact fun h => h2 h.2.1
  · rw [if_neg (by simpa using h1)]; congr 1; symm; rw [decide_eq_false_iff_not]; exact fun h => h1 h.1
theorem iGeo_eq (t p i q : Int) : impl_GeoOk.f t p i q = some (gOk t p i q) := by
  unfold impl_GeoOk.f gOk
  rw [within_eq, Option.bind_some]
  by_cases h1 : 1 ≤ t ∧ t ≤ 3
  · rw [if_pos (by simpa using h1), within_eq, Option.bind_some]
    by_cases h2 : 5 ≤ p ∧ p ≤ 12
    · rw [if_pos (by simpa using h2), within_eq, Option.bind_some]
      by_cases h3 : 2 ≤ i ∧ i ≤ 6
      · rw [if_pos (by simpa using h3), w64 (x := p - 4) (by omega) (by omega), within_eq, Option.bind_some]
        congr 1
        simp [h1, h2, h3]
      · rw [if_neg (by simpa using h3)]; congr 1; symm; rw [decide_eq_false_iff_not]; exact fun h => h3 h.2.2.1
    · rw [if_neg (by simpa using h2)]; congr 1; symm; rw [decide_eq_false_iff_not]; exact fun h => h2 h.2.1
  · rw [if_neg (by simpa using h1)]; congr 1; symm; rw [decide_eq_false_iff_not]; exact fun h => h1 h.1
/-- The words of a part. -/
def pW (p i : Int) : Int := 38 + 8 * i + 4 * p

/-! ### geo -/
theorem sPW_eq {t p i q : Int} (h : gOk t p i q = true) : spec_PartWords.f t p i q = some (pW p i) := by
  obtain ⟨h1, h2, h3, h4⟩ := gOk_parts h
  unfold spec_PartWords.f pW
  rw [sGeo_eq, h, Option.bind_some, if_pos rfl, w64 (x := 8 * i) (by omega) (by omega), w64 (x := 4 * p) (by omega) (by omega), w64 (x := 38 + 8 * i) (by omega) (by omega), w64 (by omega) (by omega)]
theorem iPW_eq {t p i q : Int} (h : gOk t p i q = true) : impl_Geo_partWords.f t p i q = some (pW p i) := by
  obtain ⟨h1, h2, h3, h4⟩ := gOk_parts h
  unfold impl_Geo_partWords.f pW
  rw [w64 (x := 8 * i) (by omega) (by omega), w64 (x := 4 * p) (by omega) (by omega), w64 (x := 38 + 8 * i) (by omega) (by omega), w64 (by omega) (by omega)]
/-- Where a page's words lie. -/
def pAt (t p i q a k : Int) : Int := if gOk t p i q = true ∧ (0 ≤ a ∧ a ≤ t - 1) ∧ (0 ≤ k ∧ k ≤ p - 1) then a * pW p i + (38 + 8 * i + 4 * k) else -1
theorem mul3 {a w : Int} (h0 : 0 ≤ a) (h1 : a ≤ 2) (hw0 : 0 ≤ w) (hw : w ≤ 200) : 0 ≤ a * w ∧ a * w ≤ 400 := by
  have : a = 0 ∨ a = 1 ∨ a = 2 := by omega
  rcases this with h | h | h <;> subst h <;> omega
theorem sPageAt_eq (t p i q a k : Int) : spec_PageAt.f t p i q a k = some (pAt t p i q a k) := by
  unfold spec_PageAt.f
  rw [sGeo_eq, Option.bind_some]
  by_cases hg : gOk t p i q = true
  · obtain ⟨h1, h2, h3, h4⟩ := gOk_parts hg
    rw [if_pos hg, w64 (x := p - 1) (by omega) (by omega), l01In_eq, Option.bind_some]
    by_cases hk : 0 ≤ k ∧ k ≤ p - 1
    · rw [if_pos (by simpa using hk)]
      unfold spec_l11At.f
      rw [sGeo_eq, Option.bind_some, if_pos hg, w64 (x := t - 1) (by omega) (by omega), l01In_eq, Option.bind_some]
      by_cases ha : 0 ≤ a ∧ a ≤ t - 1
      · have hm := mul3 (a := a) (w := pW p i) ha.1 (by omega) (by unfold pW; omega) (by unfold pW; omega)
        rw [if_pos (by simpa using ha), sPW_eq hg, Option.bind_some, w64 (x := 8 * i) (by omega) (by omega), w64 (x := 4 * k) (by omega) (by omega), w64 (x := 38 + 8 * i) (by omega) (by omega), w64 (x := 38 + 8 * i + 4 * k) (by omega) (by omega), w64 (x := a * pW p i) (by omega) (by omega), w64 (by omega) (by omega), Option.bind_some]
        unfold pAt; rw [if_pos ⟨hg, ha, hk⟩]
      · rw [if_neg (by simpa using ha), Option.bind_some]; unfold pAt; rw [if_neg (fun h => ha h.2.1)]
    · rw [if_neg (by simpa using hk)]; unfold pAt; rw [if_neg (fun h => hk h.2.2)]
  · rw [if_neg hg]; unfold pAt; rw [if_neg (fun h => hg h.1)]
theorem iPageAt_eq (t p i q a k : Int) (hp : -9223372036854775808 ≤ p ∧ p ≤ 9223372036854775807) : impl_PageAt.f t p i q a k = some (pAt t p i q a k) := by
  unfold impl_PageAt.f
  rw [within_eq, Option.bind_some]
  unfold impl_inPart.f impl_isTenant.f
  rw [iGeo_eq, Option.bind_some]
  by_cases hg : gOk t p i q = true
  · obtain ⟨h1, h2, h3, h4⟩ := gOk_parts hg
    rw [if_pos hg, w64 (x := t - 1) (by omega) (by omega), within_eq, Option.bind_some, Option.bind_some]
    by_cases ha : 0 ≤ a ∧ a ≤ t - 1
    · rw [if_pos (by simpa using ha), w64 (x := p - 1) (by omega) (by omega)]
      by_cases hk : 0 ≤ k ∧ k ≤ p - 1
      · have hm := mul3 (a := a) (w := pW p i) ha.1 (by omega) (by unfold pW; omega) (by unfold pW; omega)
        rw [if_pos (by simpa using hk), iPW_eq hg, Option.bind_some, w64 (x := 8 * i) (by omega) (by omega), w64 (x := 4 * k) (by omega) (by omega), w64 (x := 38 + 8 * i) (by omega) (by omega), w64 (x := 38 + 8 * i + 4 * k) (by omega) (by omega), w64 (x := a * pW p i) (by omega) (by omega), w64 (by omega) (by omega), Option.bind_some]
        unfold pAt; rw [if_pos ⟨hg, ha, hk⟩]
      · rw [if_neg (by simpa using hk), Option.bind_some]; unfold pAt; rw [if_neg (fun h => hk h.2.2)]
    · rw [if_neg (by simpa using ha), Option.bind_some]; unfold pAt; rw [if_neg (fun h => ha h.2.1)]
  · rw [if_neg hg, Option.bind_some, if_neg (by simp), Option.bind_some]; unfold pAt; rw [if_neg (fun h => hg h.1)]

/-! ### memok -/
/-- A cell is right at its place. -/
def cOk (b : ByteArray) (xs : List S206) (i : Nat) : Prop := ∃ h : i < xs.length, (0 ≤ xs[i].f0 ∧ xs[i].f0 ≤ (b.size : Int) / 16 - 1) ∧ xs[i].f1.size = 16 ∧ (0 < i → xs[i - 1].f0 < xs[i].f0)
def csOk (b : ByteArray) (xs : List S206) (i : Nat) : Prop := ∀ j, i ≤ j → j < xs.length → cOk b xs j
open Classical in
noncomputable def csB (b : ByteArray) (xs : List S206) (i : Nat) : Bool := decide (csOk b xs i)
theorem csB_pos {b : ByteArray} {xs : List S206} {i : Nat} (h : cOk b xs i) : csB b xs i = csB b xs (i + 1) := by
  unfold csB
  congr 1
  refine propext ⟨fun g j hj hl => g j (by omega) hl, fun g j hj hl => ?_⟩
  by_cases e : j = i
  · subst e; exact h
  · exact g j (by omega) hl
theorem csB_neg {b : ByteArray} {xs : List S206} {i : Nat} (hi : i < xs.length) (h : ¬ cOk b xs i) : csB b xs i = false := by
  have : ¬ csOk b xs i := fun g => h (g i (by omega) hi)
  unfold csB
  simp [this]
theorem csB_end {b : ByteArray} {xs : List S206} {i : Nat} (hi : xs.length ≤ i) : csB b xs i = true := by
  have : csOk b xs i := fun j hj hl => by omega
  unfold csB
  simp [this]
noncomputable def mOk (b : ByteArray) (xs : List S206) : Bool := decide (b.size % 16 = 0 ∧ b.size ≤ 16000) && csB b xs 0
theorem sMem_l (b : ByteArray) (xs : List S206) (hb : b.size ≤ 4000000) (hn : xs.length ≤ 4000000) : ∀ i : Nat, i ≤ xs.length → Ev (fun k => spec_MemoryOk.l0 k i b xs) (csB b xs i)
  | i, hi => by
    refine Ev.step (spec_MemoryOk.l0.eq_2 _ _ _) ?_
    by_cases h : i < xs.length
    · refine ev_pos (by omega) (ev_pos (by omega) ?_)
      unfold spec_l10Size.f
      refine Ev.bind (Ev.now _) (ev_neg (by omega) ?_)
      rw [rdiCell xs i h, w64 (x := (b.size : Int) / 16) (by omega) (by omega), w64 (x := (b.size : Int) / 16 - 1) (by omega) (by omega)]
      refine Ev.bind (ev_eq (l01In_eq _ _ _)) ?_
      have next := sMem_l b xs hb hn (i + 1) (by omega)
      rw [w64s i (by omega)]
      by_cases h1 : 0 ≤ xs[i].f0 ∧ xs[i].f0 ≤ (b.size : Int) / 16 - 1
      · refine ev_pos (by simpa using h1) (Ev.bind (Ev.now _) ?_)
        by_cases h2 : (xs[i].f1.size : Int) = 16
        · refine ev_pos h2 ?_
          by_cases h3 : (i : Int) > 0
          · refine ev_pos h3 ?_
            rw [w64 (x := (i : Int) - 1) (by omega) (by omega), show (i : Int) - 1 = ((i - 1 : Nat) : Int) by omega, rdiCell xs (i - 1) (by omega)]
            refine ev_pos (by omega) (ev_pos (by omega) ?_)
            by_cases h4 : xs[i - 1].f0 ≥ xs[i].f0
            · exact ev_pos h4 (ev_now (csB_neg h (fun ⟨_, _, _, g⟩ => by have := g (by omega); omega)).symm)
            · exact ev_neg h4 (ev_to next (csB_pos ⟨h, h1, by omega, fun _ => by omega⟩).symm)
          · exact ev_neg h3 (ev_to next (csB_pos ⟨h, h1, by omega, fun g => by omega⟩).symm)
        · exact ev_neg h2 (ev_now (csB_neg h (fun ⟨_, _, g, _⟩ => h2 (by omega))).symm)
      · exact ev_neg (by simpa using h1) (ev_now (csB_neg h (fun ⟨_, g, _⟩ => h1 g)).symm)
    · exact ev_neg (by omega) (ev_now (csB_end (by omega)).symm)
  termination_by i => xs.length - i
theorem sMem_ev (b : ByteArray) (xs : List S206) (hb : b.size ≤ 4000000) (hn : xs.length ≤ 4000000) : Ev (fun k => spec_MemoryOk.f k b xs) (mOk b xs) := by
  unfold spec_MemoryOk.f spec_l10Size.f mOk
  refine Ev.bind (Ev.now _) (ev_neg (by omega) ?_)
  by_cases h1 : (b.size : Int) % 16 = 0
  · refine ev_pos h1 (Ev.bind (Ev.now _) ?_)
    rw [w64 (x := 1000 * 16) (by omega) (by omega)]
    refine Ev.step (spec_MemoryOk.j0.eq_2 _ _ _) ?_
    by_cases h2 : (b.size : Int) > 1000 * 16
    · exact ev_pos (by simpa using h2) (ev_now (by rw [decide_eq_false (by omega)]; rfl))
    · exact ev_neg (by simpa using h2) (ev_to (sMem_l b xs hb hn 0 (by omega)) (by rw [decide_eq_true ⟨by omega, by omega⟩]; rfl))
  · refine ev_neg h1 ?_
    refine Ev.step (spec_MemoryOk.j0.eq_2 _ _ _) ?_
    exact ev_pos rfl (ev_now (by rw [decide_eq_false (by omega)]; rfl))
theorem iMem_l (b : ByteArray) (xs : List S206) (hb : b.size ≤ 4000000) (hn : xs.length ≤ 4000000) : ∀ i : Nat, i ≤ xs.length → Ev (fun k => impl_MemoryOk.l0 k xs xs.length i b xs) (decide (b.size % 16 = 0 ∧ b.size ≤ 16000) && csB b xs i)
  | i, hi => by
    refine Ev.step (impl_MemoryOk.l0.eq_2 _ _ _ _ _) ?_
    by_cases h : i < xs.length
    · refine ev_pos (by omega) (ev_pos (by omega) (ev_pos (by omega) ?_))
      rw [rdiCell xs i h, w64 (x := (b.size : Int) / 16) (by omega) (by omega), w64 (x := (b.size : Int) / 16 - 1) (by omega) (by omega)]
      refine Ev.bind (ev_eq (within_eq _ _ _)) ?_
      have next := iMem_l b xs hb hn (i + 1) (by omega)
      rw [w64s i (by omega)]
      by_cases h1 : 0 ≤ xs[i].f0 ∧ xs[i].f0 ≤ (b.size : Int) / 16 - 1
      · refine ev_pos (by simpa using h1) ?_
        by_cases h2 : (xs[i].f1.size : Int) = 16
        · refine ev_pos h2 ?_
          by_cases h3 : (i : Int) > 0
          · refine ev_pos h3 ?_
            rw [w64 (x := (i : Int) - 1) (by omega) (by omega), show (i : Int) - 1 = ((i - 1 : Nat) : Int) by omega, rdiCell xs (i - 1) (by omega)]
            refine ev_pos (by omega) (ev_pos (by omega) ?_)
            by_cases h4 : xs[i].f0 ≤ xs[i - 1].f0
            · exact ev_pos h4 (ev_now (by rw [csB_neg h (fun ⟨_, _, _, g⟩ => by have := g (by omega); omega), Bool.and_false]))
            · exact ev_neg h4 (ev_to next (by rw [csB_pos ⟨h, h1, by omega, fun _ => by omega⟩]))
          · exact ev_neg h3 (ev_to next (by rw [csB_pos ⟨h, h1, by omega, fun g => by omega⟩]))
        · exact ev_neg h2 (ev_now (by rw [csB_neg h (fun ⟨_, _, g, _⟩ => h2 (by omega)), Bool.and_false]))
      · exact ev_neg (by simpa using h1) (ev_now (by rw [csB_neg h (fun ⟨_, g, _⟩ => h1 g), Bool.and_false]))
    · refine ev_neg (by omega) ?_
      rw [csB_end (by omega), Bool.and_true]
      by_cases h1 : (b.size : Int) % 16 = 0
      · refine ev_pos h1 (ev_now ?_)
        by_cases h2 : (b.size : Int) ≤ 16000
        · rw [decide_eq_true h2, decide_eq_true ⟨by omega, by omega⟩]
        · rw [decide_eq_false h2, decide_eq_false (by omega)]
      · exact ev_neg h1 (ev_now (by rw [decide_eq_false (by omega)]))
  termination_by i => xs.length - i
theorem iMem_ev (b : ByteArray) (xs : List S206) (hb : b.size ≤ 4000000) (hn : xs.length ≤ 4000000) : Ev (fun k => impl_MemoryOk.f k b xs) (mOk b xs) := by
  unfold impl_MemoryOk.f
  exact iMem_l b xs hb hn 0 (by omega)
theorem mOk_parts {b : ByteArray} {xs : List S206} (h : mOk b xs = true) : b.size % 16 = 0 ∧ b.size ≤ 16000 ∧ csOk b xs 0 := by
  unfold mOk csB at h
  simp only [Bool.and_eq_true, decide_eq_true_eq] at h
  exact ⟨h.1.1, h.1.2, h.2⟩
theorem csOk_lt {b : ByteArray} {xs : List S206} (h : csOk b xs 0) : ∀ (d i : Nat) (hj : i + d + 1 < xs.length), xs[i].f0 < xs[i + d + 1].f0
  | 0, i, hj => by
    obtain ⟨_, _, _, g⟩ := h (i + 0 + 1) (by omega) hj
    exact g (by omega)
  | d + 1, i, hj => by
    have h1 := csOk_lt h d i (by omega)
    obtain ⟨_, _, _, g⟩ := h (i + (d + 1) + 1) (by omega) hj
    have h2 := g (by omega)
    simp only [show i + (d + 1) + 1 - 1 = i + d + 1 by omega] at h2
    omega

/-! ### memword -/
theorem u64c {x : Int} (h0 : 0 ≤ x) (h1 : x < 18446744073709551616) : IntKind.u64.wrap x = x := by
  have b : IntKind.u64.bits = 64 := rfl
  have s : IntKind.u64.signed = false := rfl
  simp only [IntKind.wrap, b, s, Bool.false_and, Bool.false_eq_true, if_false]
  omega
/-- The cell of a line. -/
def cAt (a : Int) : List S206 → Nat → Int
  | [], _ => -1
  | x :: r, i => if x.f0 = a then i else cAt a r (i + 1)
theorem cAt_none (a : Int) : ∀ (xs : List S206) (i : Nat), (∀ y ∈ xs, y.f0 ≠ a) → cAt a xs i = -1
  | [], _, _ => rfl
  | x :: r, i, h => by
    simp only [cAt]
    rw [if_neg (h x (by simp))]
    exact cAt_none a r (i + 1) (fun y hy => h y (by simp [hy]))
theorem cAt_some (a : Int) : ∀ (xs : List S206) (i m : Nat) (hm : m < xs.length), xs[m].f0 = a → (∀ j, (hj : j < m) → xs[j].f0 ≠ a) → cAt a xs i = (i : Int) + m
  | [], _, m, hm, _, _ => absurd hm (Nat.not_lt_zero _)
  | x :: r, i, 0, hm, he, _ => by simp only [cAt]; rw [if_pos (show x.f0 = a from he)]; omega
  | x :: r, i, m + 1, hm, he, hj => by
    simp only [cAt]
    rw [if_neg (show ¬ x.f0 = a from hj 0 (by omega))]
    rw [cAt_some a r (i + 1) m (by simpa using hm) he (fun j h => hj (j + 1) (by omega))]
    omega
theorem sCell_l (b : ByteArray) (xs : List S206) (hn : xs.length ≤ 4000000) (a : Int) : ∀ i : Nat, i ≤ xs.length → Ev (fun k => spec_l10Cell.l0 k a i b xs) (cAt a (xs.drop i) i)
  | i, hi => by
    refine Ev.step (spec_l10Cell.l0.eq_2 _ _ _ _) ?_
    by_cases h : i < xs.length
    · refine ev_pos (by omega) (ev_pos (by omega) ?_)
      rw [rdiCell xs i h, w64s i (by omega), drop_at xs i h]
      simp only [cAt]
      by_cases he : xs[i].f0 = a
      · exact ev_pos he (ev_now (by rw [if_pos he]))
      · exact ev_neg he (ev_to (sCell_l b xs hn a (i + 1) (by omega)) (by rw [if_neg he]))
    · refine ev_neg (by omega) (ev_now ?_)
      rw [List.drop_of_length_le (by omega)]; rfl
  termination_by i => xs.length - i
theorem sCell_ev (b : ByteArray) (xs : List S206) (hn : xs.length ≤ 4000000) (a : Int) : Ev (fun k => spec_l10Cell.f k b xs a) (cAt a xs 0) := by
  unfold spec_l10Cell.f
  have := sCell_l b xs hn a 0 (by omega)
  rw [List.drop_zero] at this
  exact this
theorem cmp_eq (x y : Int) : cmp_Compare_int.f x y = some (if x < y then -1 else if x > y then 1 else 0) := by
  unfold cmp_Compare_int.f cmp_isNaN_int.f
  simp only [bne_self_eq_false, Option.bind_some, Bool.false_eq_true, if_false]
  split
  · rfl
  · split <;> rfl
theorem cl_eq (x : S206) (a : Int) : impl_Memory_findCell_1.f x.f0 x.f1 x.f2 a = some (if x.f0 < a then -1 else if x.f0 > a then 1 else 0) := by
  unfold impl_Memory_findCell_1.f
  rw [cmp_eq, Option.bind_some]
/-- What the search comes to. -/
def bsV (xs : List S206) (a : Int) (r : Int × Bool) : Prop := (r.2 = true ∧ r.1 = cAt a xs 0 ∧ ∃ m : Nat, r.1 = m ∧ m < xs.length) ∨ (r.2 = false ∧ cAt a xs 0 = -1)
theorem bs_l (b : ByteArray) (xs : List S206) (hn : xs.length ≤ 4000000) (hs : csOk b xs 0) (a : Int) : ∀ (d lo hi : Nat), hi - lo ≤ d → lo ≤ hi → hi ≤ xs.length → (∀ j, (hj : j < xs.length) → j < lo → xs[j].f0 < a) → (∀ j, (hj : j < xs.length) → hi ≤ j → a ≤ xs[j].f0) → ∃ r, Ev (fun k => slices_BinarySearchFunc_int.l0 k xs a xs.length lo hi) r ∧ bsV xs a r
  | d, lo, hi, hd, h1, h2, hL, hR => by
    by_cases h : lo < hi
    · have hm : wrap64 ((IntKind.u64.wrap (wrap64 ((lo : Int) + (hi : Int)))) / 2) = (((lo + hi) / 2 : Nat) : Int) := by
        rw [w64 (x := (lo : Int) + hi) (by omega) (by omega), u64c (by omega) (by omega), w64 (by omega) (by omega)]
        omega
      have hml : (lo + hi) / 2 < xs.length := by omega
      cases d with
      | zero => omega
      | succ d =>
        by_cases hc : xs[(lo + hi) / 2].f0 < a
        · obtain ⟨r, e, v⟩ := bs_l b xs hn hs a d ((lo + hi) / 2 + 1) hi (by omega) (by omega) h2 (fun j hj hlt => by
            by_cases q : j = (lo + hi) / 2
            · subst q; exact hc
            · obtain ⟨w, hw⟩ : ∃ w, j + w + 1 = (lo + hi) / 2 := ⟨(lo + hi) / 2 - j - 1, by omega⟩
              have := csOk_lt hs w j (by omega)
              simp only [hw] at this
              omega) hR
          refine ⟨r, ?_, v⟩
          refine Ev.step (slices_BinarySearchFunc_int.l0.eq_2 _ _ _ _ _) ?_
          rw [hm, rdiCell xs _ hml, cl_eq, if_pos hc]
          refine ev_pos (by omega) (ev_pos (by omega) (ev_pos (by omega) (Ev.bind (Ev.now _) (ev_pos (by omega) ?_))))
          rw [w64s _ (by omega)]
          exact e
        · obtain ⟨r, e, v⟩ := bs_l b xs hn hs a d lo ((lo + hi) / 2) (by omega) (by omega) (by omega) hL (fun j hj hlt => by
            by_cases q : j = (lo + hi) / 2
            · subst q; omega
            · obtain ⟨w, hw⟩ : ∃ w, (lo + hi) / 2 + w + 1 = j := ⟨j - (lo + hi) / 2 - 1, by omega⟩
              have := csOk_lt hs w ((lo + hi) / 2) (by omega)
              simp only [hw] at this
              omega)
          refine ⟨r, ?_, v⟩
          refine Ev.step (slices_BinarySearchFunc_int.l0.eq_2 _ _ _ _ _) ?_
          rw [hm, rdiCell xs _ hml, cl_eq, if_neg hc]
          refine ev_pos (by omega) (ev_pos (by omega) (ev_pos (by omega) (Ev.bind (Ev.now _) (ev_neg (by split <;> omega) ?_))))
          exact e
    · have he : lo = hi := by omega
      subst he
      by_cases hl : lo < xs.length
      · by_cases ha : xs[lo].f0 = a
        · have hv : cAt a xs 0 = (lo : Int) := by
            have := cAt_some a xs 0 lo hl ha (fun j hj => by have := hL j (by omega) hj; omega)
            omega
          refine ⟨((lo : Int), true), ?_, Or.inl ⟨rfl, hv.symm, lo, rfl, hl⟩⟩
          refine Ev.step (slices_BinarySearchFunc_int.l0.eq_2 _ _ _ _ _) ?_
          refine ev_neg (by omega) (ev_pos (by omega) (ev_pos (by omega) (ev_pos (by omega) ?_)))
          rw [rdiCell xs lo hl, cl_eq, if_neg (by omega), if_neg (by omega)]
          exact Ev.bind (Ev.now _) (ev_now rfl)
        · have hv : cAt a xs 0 = -1 := cAt_none a xs 0 (fun y hy => by
            obtain ⟨j, hj, rfl⟩ := List.getElem_of_mem hy
            by_cases q : j < lo
            · have := hL j hj q; omega
            · have g := hR lo hl (Nat.le_refl _)
              by_cases q2 : j = lo
              · subst q2; exact ha
              · obtain ⟨w, hw⟩ : ∃ w, lo + w + 1 = j := ⟨j - lo - 1, by omega⟩
                have := csOk_lt hs w lo (by omega)
                simp only [hw] at this
                omega)
          refine ⟨((lo : Int), false), ?_, Or.inr ⟨rfl, hv⟩⟩
          refine Ev.step (slices_BinarySearchFunc_int.l0.eq_2 _ _ _ _ _) ?_
          have hg := hR lo hl (Nat.le_refl _)
          refine ev_neg (by omega) (ev_pos (by omega) (ev_pos (by omega) (ev_pos (by omega) ?_)))
          rw [rdiCell xs lo hl, cl_eq, if_neg (by omega), if_pos (by omega)]
          exact Ev.bind (Ev.now _) (ev_now rfl)
      · have hv : cAt a xs 0 = -1 := cAt_none a xs 0 (fun y hy => by
          obtain ⟨j, hj, rfl⟩ := List.getElem_of_mem hy
          have := hL j hj (by omega); omega)
        refine ⟨((lo : Int), false), ?_, Or.inr ⟨rfl, hv⟩⟩
        refine Ev.step (slices_BinarySearchFunc_int.l0.eq_2 _ _ _ _ _) ?_
        exact ev_neg (by omega) (ev_neg (by omega) (ev_now rfl))
theorem find_ev (b : ByteArray) (xs : List S206) (hn : xs.length ≤ 4000000) (hs : csOk b xs 0) (a : Int) : ∃ r, Ev (fun k => impl_Memory_findCell.f k b xs a) r ∧ bsV xs a r := by
  obtain ⟨r, e, v⟩ := bs_l b xs hn hs a xs.length 0 xs.length (by omega) (by omega) (by omega) (fun j hj h => by omega) (fun j hj h => by omega)
  refine ⟨r, ?_, v⟩
  unfold impl_Memory_findCell.f slices_BinarySearchFunc_int.f
  exact Ev.bind e (ev_now rfl)
/-- A line's bytes. -/
noncomputable def lnV (b : ByteArray) (xs : List S206) (a : Int) : ByteArray := if 0 ≤ cAt a xs 0 then (rd_T206 xs (cAt a xs 0)).f1 else b.extract (a * 16).toNat ((a + 1) * 16).toNat
theorem cAt_range (a : Int) (xs : List S206) (h : 0 ≤ cAt a xs 0) : ∃ m : Nat, cAt a xs 0 = m ∧ m < xs.length := by
  have : ∀ (xs : List S206) (i : Nat), cAt a xs i = -1 ∨ ∃ m : Nat, cAt a xs i = (i : Int) + m ∧ m < xs.length := by
    intro xs
    induction xs with
    | nil => intro i; exact Or.inl rfl
    | cons x r ih =>
      intro i
      simp only [cAt]
      by_cases he : x.f0 = a
      · rw [if_pos he]; exact Or.inr ⟨0, by omega, by simp⟩
      · rw [if_neg he]
        rcases ih (i + 1) with g | ⟨m, g, l⟩
        · exact Or.inl g
        · exact Or.inr ⟨m + 1, by omega, by simpa using l⟩
  rcases this xs 0 with g | ⟨m, g, l⟩
  · omega
  · exact ⟨m, by omega, l⟩
theorem lnV_size (b : ByteArray) (xs : List S206) (hs : csOk b xs 0) (a : Int) (h0 : 0 ≤ a) (h1 : (a + 1) * 16 ≤ b.size) : (lnV b xs a).size = 16 := by
  unfold lnV
  by_cases h : 0 ≤ cAt a xs 0
  · rw [if_pos h]
    obtain ⟨m, e, hm⟩ := cAt_range a xs h
    rw [e, rdiCell xs m hm]
    obtain ⟨_, _, g, _⟩ := hs m (by omega) hm
    exact g
  · rw [if_neg h, ByteArray.size_extract]; omega
theorem sLine_ev (b : ByteArray) (xs : List S206) (hb : b.size ≤ 4000000) (hn : xs.length ≤ 4000000) (a : Int) (h0 : 0 ≤ a) (h1 : (a + 1) * 16 ≤ b.size) : Ev (fun k => spec_l10Line.f k b xs a) (lnV b xs a) := by
  unfold spec_l10Line.f spec_l10Size.f
  refine Ev.bind (sCell_ev b xs hn a) ?_
  by_cases h : 0 ≤ cAt a xs 0
  · obtain ⟨m, e, hm⟩ := cAt_range a xs h
    have hv : lnV b xs a = (rd_T206 xs (cAt a xs 0)).f1 := by unfold lnV; rw [if_pos h]
    exact ev_pos h (ev_pos h (ev_pos (by omega) (ev_now hv.symm)))
  · have hv : lnV b xs a = b.extract (a * 16).toNat ((a + 1) * 16).toNat := by unfold lnV; rw [if_neg h]
    refine ev_neg h (Ev.bind (Ev.now _) (Ev.bind (Ev.now _) ?_))
    rw [w64 (x := a * 16) (by omega) (by omega), w64 (x := a + 1) (by omega) (by omega), w64 (x := (a + 1) * 16) (by omega) (by omega)]
    exact ev_pos (by omega) (ev_pos (by omega) (ev_pos h1 (Ev.bind (Ev.now _) (ev_now hv.symm))))
theorem iLine_ev (b : ByteArray) (xs : List S206) (hb : b.size ≤ 4000000) (hn : xs.length ≤ 4000000) (hs : csOk b xs 0) (a : Int) (h0 : 0 ≤ a) (h1 : (a + 1) * 16 ≤ b.size) : Ev (fun k => impl_Memory_line.f k b xs a) (lnV b xs a) := by
  unfold impl_Memory_line.f
  obtain ⟨r, e, v⟩ := find_ev b xs hn hs a
  refine Ev.bind e ?_
  rcases v with ⟨v1, v2, m, v3, v4⟩ | ⟨v1, v2⟩
  · have hv : lnV b xs a = (rd_T206 xs r.1).f1 := by unfold lnV; rw [if_pos (by omega), v2]
    exact ev_pos v1 (ev_pos (by omega) (ev_pos (by omega) (ev_now hv.symm)))
  · have hv : lnV b xs a = b.extract (a * 16).toNat ((a + 1) * 16).toNat := by unfold lnV; rw [if_neg (by omega)]
    refine ev_neg (by rw [v1]; simp) ?_
    rw [w64 (x := a * 16) (by omega) (by omega), w64 (x := a + 1) (by omega) (by omega), w64 (x := (a + 1) * 16) (by omega) (by omega)]
    exact ev_pos (by omega) (ev_pos (by omega) (ev_pos h1 (Ev.bind (Ev.now _) (ev_now hv.symm))))
/-- A word's bytes. -/
noncomputable def wdV (b : ByteArray) (xs : List S206) (a : Int) : ByteArray := (lnV b xs (a / 2)).extract (a % 2 * 8).toNat (a % 2 * 8 + 8).toNat
theorem wdV_size (b : ByteArray) (xs : List S206) (hs : csOk b xs 0) (a : Int) (h0 : 0 ≤ a) (h1 : (a / 2 + 1) * 16 ≤ b.size) : (wdV b xs a).size = 8 := by
  unfold wdV
  rw [ByteArray.size_extract, lnV_size b xs hs _ (by omega) h1]
  omega
theorem sWd_ev (b : ByteArray) (xs : List S206) (hb : b.size ≤ 4000000) (hn : xs.length ≤ 4000000) (hs : csOk b xs 0) (a : Int) (h0 : 0 ≤ a) (h1 : (a / 2 + 1) * 16 ≤ b.size) : Ev (fun k => spec_l10Word.f k b xs a) (wdV b xs a) := by
  unfold spec_l10Word.f
  rw [Int.tdiv_eq_ediv_of_nonneg h0, Int.tmod_eq_emod_of_nonneg h0, w64 (x := a / 2) (by omega) (by omega), w64 (x := a % 2 * 8) (by omega) (by omega), w64 (x := a % 2 * 8 + 8) (by omega) (by omega)]
  have hz := lnV_size b xs hs (a / 2) (by omega) h1
  exact Ev.bind (sLine_ev b xs hb hn _ (by omega) h1) (ev_pos (by omega) (ev_pos (by omega) (ev_pos (by omega) (Ev.bind (Ev.now _) (ev_now rfl)))))
theorem iWd_ev (b : ByteArray) (xs : List S206) (hb : b.size ≤ 4000000) (hn : xs.length ≤ 4000000) (hs : csOk b xs 0) (a : Int) (h0 : 0 ≤ a) (h1 : (a / 2 + 1) * 16 ≤ b.size) : Ev (fun k => impl_Memory_word.f k b xs a) (wdV b xs a) := by
  unfold impl_Memory_word.f
  rw [Int.tdiv_eq_ediv_of_nonneg h0, Int.tmod_eq_emod_of_nonneg h0, w64 (x := a / 2) (by omega) (by omega), w64 (x := a % 2 * 8) (by omega) (by omega), w64 (x := a % 2 * 8 + 8) (by omega) (by omega)]
  have hz := lnV_size b xs hs (a / 2) (by omega) h1
  exact Ev.bind (iLine_ev b xs hb hn hs _ (by omega) h1) (ev_pos (by omega) (ev_pos (by omega) (ev_pos (by omega) (Ev.bind (Ev.now _) (ev_now rfl)))))

/-! ### pagetext -/
/-- Does the memory hold the system? -/
noncomputable def plV (b : ByteArray) (xs : List S206) (t p i q : Int) : Bool := mOk b xs && (gOk t p i q && decide (t * pW p i / 2 ≤ (b.size : Int) / 16))
theorem tpW {t p i q : Int} (h : gOk t p i q = true) : 0 ≤ t * pW p i ∧ t * pW p i ≤ 600 ∧ t * pW p i % 2 = 0 := by
  obtain ⟨h1, h2, h3, h4⟩ := gOk_parts h
  unfold pW
  have : t = 1 ∨ t = 2 ∨ t = 3 := by omega
  rcases this with e | e | e <;> subst e <;> omega
theorem sHas_ev (b : ByteArray) (xs : List S206) (t p i q : Int) (hb : b.size ≤ 4000000) (hn : xs.length ≤ 4000000) : Ev (fun k => spec_l19Has.f k b xs t p i q) (plV b xs t p i q) := by
  unfold spec_l19Has.f plV
  refine Ev.bind (ev_eq (sGeo_eq t p i q)) ?_
  by_cases hg : gOk t p i q = true
  · refine ev_pos hg (Ev.bind (sMem_ev b xs hb hn) ?_)
    by_cases hm : mOk b xs = true
    · obtain ⟨m1, m2, m3⟩ := mOk_parts hm
      have hw := tpW hg
      unfold spec_l10Words.f spec_LinesIn.f
      rw [sPW_eq hg, Option.bind_some, Option.bind_some, w64 (x := (b.size : Int) / 8) (by omega) (by omega), w64 (x := t * pW p i) (by omega) (by omega), Int.tdiv_eq_ediv_of_nonneg hw.1, w64 (x := t * pW p i / 2) (by omega) (by omega)]
      refine ev_pos hm (Ev.bind (Ev.now _) ?_)
      rw [w64 (x := 2 * (t * pW p i / 2)) (by omega) (by omega)]
      refine ev_now ?_
      rw [hg, hm, Bool.true_and, Bool.true_and]
      rw [decide_eq_decide]
      omega
    · exact ev_neg hm (ev_now (by rw [Bool.eq_false_iff.2 hm]; rfl))
  · exact ev_neg hg (ev_now (by rw [Bool.eq_false_iff.2 hg, Bool.false_and, Bool.and_false]))
theorem iHas_ev (b : ByteArray) (xs : List S206) (t p i q : Int) (hb : b.size ≤ 4000000) (hn : xs.length ≤ 4000000) : Ev (fun k => impl_isPlaced.f k b xs t p i q) (plV b xs t p i q) := by
  unfold impl_isPlaced.f plV
  refine Ev.bind (iMem_ev b xs hb hn) ?_
  by_cases hm : mOk b xs = true
  · refine ev_pos hm (Ev.bind (ev_eq (iGeo_eq t p i q)) ?_)
    by_cases hg : gOk t p i q = true
    · have hw := tpW hg
      unfold impl_Geo_lines.f
      rw [iPW_eq hg, Option.bind_some, w64 (x := t * pW p i) (by omega) (by omega), Int.tdiv_eq_ediv_of_nonneg hw.1, w64 (x := t * pW p i / 2) (by omega) (by omega), w64 (x := (b.size : Int) / 16) (by omega) (by omega)]
      refine ev_pos hg (Ev.bind (Ev.now _) (ev_now ?_))
      rw [hg, hm, Bool.true_and, Bool.true_and]
    · exact ev_neg hg (ev_now (by rw [Bool.eq_false_iff.2 hg, Bool.false_and, Bool.and_false]))
  · exact ev_neg hm (ev_now (by rw [Bool.eq_false_iff.2 hm]; rfl))
/-- A page's text. -/
noncomputable def pgT (b : ByteArray) (xs : List S206) (a : Int) : Nat → ByteArray
  | 0 => ⟨#[]⟩
  | n + 1 => pgT b xs a n ++ wdV b xs (a + n)
noncomputable def ptxV (b : ByteArray) (xs : List S206) (t p i q a k : Int) : ByteArray := if plV b xs t p i q = true ∧ 0 ≤ pAt t p i q a k then pgT b xs (pAt t p i q a k) 4 else ⟨#[]⟩
/-- The words of a page lie in the memory. -/
theorem pg_in {b : ByteArray} {xs : List S206} {t p i q a k : Int} (hp : plV b xs t p i q = true) (h0 : 0 ≤ pAt t p i q a k) : pAt t p i q a k ≤ 1000 ∧ csOk b xs 0 ∧ ∀ n : Nat, n < 4 → ((pAt t p i q a k + n) / 2 + 1) * 16 ≤ (b.size : Int) := by
  unfold plV at hp
  simp only [Bool.and_eq_true, decide_eq_true_eq] at hp
  obtain ⟨hm, hg, hl⟩ := hp
  obtain ⟨m1, m2, m3⟩ := mOk_parts hm
  have hw := tpW hg
  obtain ⟨h1, h2, h3, h4⟩ := gOk_parts hg
  unfold pAt at h0 ⊢
  split at h0
  · rename_i c
    obtain ⟨c1, c2, c3⟩ := c
    rw [if_pos ⟨c1, c2, c3⟩]
    have ha : a = 0 ∨ a = 1 ∨ a = 2 := by omega
    have ht : t = 1 ∨ t = 2 ∨ t = 3 := by omega
    unfold pW at hw hl ⊢
    refine ⟨?_, m3, fun n hn => ?_⟩
    · rcases ha with e | e | e <;> subst e <;> omega
    · rcases ha with e | e | e <;> subst e <;> rcases ht with e | e | e <;> subst e <;> omega
  · omega
theorem sPT_l (b : ByteArray) (xs : List S206) (hb : b.size ≤ 4000000) (hn : xs.length ≤ 4000000) (hs : csOk b xs 0) (a : Int) (h0 : 0 ≤ a) (ha : a ≤ 1000) (hi : ∀ n : Nat, n < 4 → ((a + n) / 2 + 1) * 16 ≤ (b.size : Int)) : ∀ n : Nat, n ≤ 4 → (pgT b xs a n).size = 8 * n → Ev (fun k => spec_PageText.l0 k a (pgT b xs a n) n b xs) (pgT b xs a 4)
  | n, hn4, hz => by
    refine Ev.step (spec_PageText.l0.eq_2 _ _ _ _ _) ?_
    by_cases h : n < 4
    · have h8 := wdV_size b xs hs (a + n) (by omega) (hi n h)
      rw [w64 (x := a + (n : Int)) (by omega) (by omega), w64s n (by omega)]
      refine ev_pos (by omega) (Ev.bind (sWd_ev b xs hb hn hs (a + n) (by omega) (hi n h)) (ev_pos (by omega) (Ev.bind (Ev.now _) ?_)))
      exact sPT_l b xs hb hn hs a h0 ha hi (n + 1) (by omega) (by rw [pgT, ByteArray.size_append]; omega)
    · have : n = 4 := by omega
      subst this
      exact ev_neg (by omega) (ev_now rfl)
  termination_by n => 4 - n
theorem sPageText_ev (b : ByteArray) (xs : List S206) (t p i q a k : Int) (hb : b.size ≤ 4000000) (hn : xs.length ≤ 4000000) : Ev (fun n => spec_PageText.f n b xs t p i q a k) (ptxV b xs t p i q a k) := by
  unfold spec_PageText.f
  have bad : ¬ (plV b xs t p i q = true ∧ 0 ≤ pAt t p i q a k) → Ev (fun n => spec_PageText.j0 n (pAt t p i q a k) true b xs) (ptxV b xs t p i q a k) := by
    intro h
    refine Ev.step (spec_PageText.j0.eq_2 _ _ _ _) ?_
    exact ev_pos rfl (ev_now (by unfold ptxV; rw [if_neg h]))
  refine Ev.bind (ev_eq (sPageAt_eq t p i q a k)) ?_
  by_cases h0 : pAt t p i q a k < 0
  · exact ev_pos h0 (bad (fun h => by omega))
  · refine ev_neg h0 (Ev.bind (sHas_ev b xs t p i q hb hn) ?_)
    cases hp : plV b xs t p i q with
    | false => exact bad (fun h => by rw [hp] at h; exact absurd h.1 (by simp))
    | true =>
      obtain ⟨g1, g2, g3⟩ := pg_in hp (by omega : 0 ≤ pAt t p i q a k)
      refine Ev.step (spec_PageText.j0.eq_2 _ _ _ _) ?_
      refine ev_neg (by simp) (ev_to (sPT_l b xs hb hn g2 _ (by omega) g1 g3 0 (by omega) rfl) ?_)
      unfold ptxV; rw [if_pos ⟨hp, by omega⟩]
noncomputable def wdL (b : ByteArray) (xs : List S206) (a : Int) : Nat → List ByteArray
  | 0 => []
  | n + 1 => wdL b xs a n ++ [wdV b xs (a + n)]
theorem wdL_len (b : ByteArray) (xs : List S206) (a : Int) (n : Nat) : (wdL b xs a n).length = n := by
  induction n with
  | zero => rfl
  | succ n ih => simp [wdL, ih]
theorem iRW_l (b : ByteArray) (xs : List S206) (hb : b.size ≤ 4000000) (hn : xs.length ≤ 4000000) (hs : csOk b xs 0) (a : Int) (h0 : 0 ≤ a) (ha : a ≤ 1000) (hi : ∀ n : Nat, n < 4 → ((a + n) / 2 + 1) * 16 ≤ (b.size : Int)) : ∀ n : Nat, n ≤ 4 → Ev (fun k => impl_readWords.l0 k a (wdL b xs a n) 4 n b xs) (wdL b xs a 4)
  | n, hn4 => by
    refine Ev.step (impl_readWords.l0.eq_2 _ _ _ _ _ _) ?_
    by_cases h : n < 4
    · have hl := wdL_len b xs a n
      rw [w64 (x := a + (n : Int)) (by omega) (by omega), w64s n (by omega)]
      refine ev_pos (by omega) (Ev.bind (iWd_ev b xs hb hn hs (a + n) (by omega) (hi n h)) (ev_pos (by omega) ?_))
      exact iRW_l b xs hb hn hs a h0 ha hi (n + 1) (by omega)
    · have : n = 4 := by omega
      subst this
      exact ev_neg (by omega) (ev_now rfl)
  termination_by n => 4 - n
theorem join4 (w x y z : ByteArray) : Lib.join ([w, x, y, z].map (·.data.toList)) [] = (⟨#[]⟩ ++ w ++ x ++ y ++ z : ByteArray).data.toList := by
  simp only [b_app]
  simp [Lib.join, List.intercalate]
theorem ipt_ev (b : ByteArray) (xs : List S206) (t p i q a k : Int) (hw : -9223372036854775808 ≤ p ∧ p ≤ 9223372036854775807) (hb : b.size ≤ 4000000) (hn : xs.length ≤ 4000000) (hp : plV b xs t p i q = true) (h0 : 0 ≤ pAt t p i q a k) : Ev (fun n => impl_pageText.f n b xs t p i q a k) (pgT b xs (pAt t p i q a k) 4) := by
  unfold impl_pageText.f impl_readWords.f
  obtain ⟨g1, g2, g3⟩ := pg_in hp h0
  refine Ev.bind (ev_eq (iPageAt_eq t p i q a k hw)) (Ev.bind (iRW_l b xs hb hn g2 _ h0 g1 g3 0 (by omega)) ?_)
  generalize pAt t p i q a k = A at h0 g1 g3
  have e : wdL b xs A 4 = [wdV b xs (A + (0 : Nat)), wdV b xs (A + (1 : Nat)), wdV b xs (A + (2 : Nat)), wdV b xs (A + (3 : Nat))] := rfl
  have z0 := wdV_size b xs g2 (A + (0 : Nat)) (by omega) (g3 0 (by omega))
  have z1 := wdV_size b xs g2 (A + (1 : Nat)) (by omega) (g3 1 (by omega))
  have z2 := wdV_size b xs g2 (A + (2 : Nat)) (by omega) (g3 2 (by omega))
  have z3 := wdV_size b xs g2 (A + (3 : Nat)) (by omega) (g3 3 (by omega))
  have hT : pgT b xs A 4 = ⟨#[]⟩ ++ wdV b xs (A + (0 : Nat)) ++ wdV b xs (A + (1 : Nat)) ++ wdV b xs (A + (2 : Nat)) ++ wdV b xs (A + (3 : Nat)) := rfl
  rw [e, hT]
  generalize wdV b xs (A + (0 : Nat)) = w at z0
  generalize wdV b xs (A + (1 : Nat)) = x at z1
  generalize wdV b xs (A + (2 : Nat)) = y at z2
  generalize wdV b xs (A + (3 : Nat)) = z at z3
  have hj := join4 w x y z
  have e0 : (⟨#[]⟩ : ByteArray).size = 0 := rfl
  refine Ev.bind (ev_eq (r := ⟨#[]⟩ ++ w ++ x ++ y ++ z) ?_) (ev_now rfl)
  unfold strings_Join.f
  have hd : (⟨#[]⟩ : ByteArray).data.toList = [] := rfl
  rw [hd, hj, if_pos ⟨by simp, by rw [b_len]; simp only [ByteArray.size_append]; omega⟩]
theorem iPageText_ev (b : ByteArray) (xs : List S206) (t p i q a k : Int) (hw : -9223372036854775808 ≤ p ∧ p ≤ 9223372036854775807) (hb : b.size ≤ 4000000) (hn : xs.length ≤ 4000000) : Ev (fun n => impl_PageText.f n b xs t p i q a k) (ptxV b xs t p i q a k) := by
  unfold impl_PageText.f
  refine Ev.bind (iHas_ev b xs t p i q hb hn) ?_
  by_cases hp : plV b xs t p i q = true
  · refine ev_pos hp (Ev.bind (ev_eq (iPageAt_eq t p i q a k hw)) ?_)
    by_cases h0 : pAt t p i q a k < 0
    · exact ev_pos h0 (ev_now (by unfold ptxV; rw [if_neg (fun h => by omega)]))
    · exact ev_neg h0 (Ev.bind (ipt_ev b xs t p i q a k hw hb hn hp (by omega)) (ev_now (by unfold ptxV; rw [if_pos ⟨hp, by omega⟩])))
  · exact ev_neg hp (ev_now (by unfold ptxV; rw [if_neg (fun h => hp h.1)]))

/-! ### zerotext -/
theorem long_l (n : Nat) (hn : n ≤ 1048576) : ∀ (i : Nat) (ys : List Int), i ≤ n → ys.length = n → (∀ y ∈ ys, y = 0) → Ev (fun k => spec_l01Long.l0 k n 0 ys i) (strOfNums ys)
  | i, ys, hi, hl, hz => by
    refine Ev.step (spec_l01Long.l0.eq_2 _ _ _ _) ?_
    by_cases h : i < n
    · refine ev_pos (by omega) (ev_pos (by omega) (ev_pos (by omega) ?_))
      rw [w64s i (by omega), Int.toNat_natCast]
      have e : ys.set i 0 = ys := by
        apply List.ext_getElem (by simp)
        intro j h1 h2
        rw [List.getElem_set]
        split
        · exact (hz _ (List.getElem_mem h2)).symm
        · rfl
      rw [e]
      exact long_l n hn (i + 1) ys (by omega) hl hz
    · exact ev_neg (by omega) (ev_now rfl)
  termination_by i => n - i
theorem long_ev (n : Nat) (hn : n ≤ 1048576) : Ev (fun k => spec_l01Long.f k n 0) (zb n) := by
  unfold spec_l01Long.f
  refine ev_pos (by omega) (ev_pos (by omega) (ev_to (long_l n hn 0 _ (by omega) (by simp) (by simp)) ?_))
  simp [strOfNums, zb]
theorem zeroText_ev (n : Nat) (hn : n ≤ 20000) : Ev (fun k => spec_ZeroText.f k (n : Int)) (zb n) := by
  unfold spec_ZeroText.f
  exact Ev.bind (ev_eq (l01In_eq _ _ _)) (ev_pos (by simp; omega) (Ev.bind (long_ev n (by omega)) (ev_now rfl)))

/-! ### padded -/
theorem repeat_eq (n : Nat) (h : n ≤ 1048576) : strings_Repeat.f (⟨#[0]⟩ : ByteArray) (n : Int) = some (zb n) := by
  unfold strings_Repeat.f
  have h1 : (⟨#[0]⟩ : ByteArray).size = 1 := rfl
  rw [if_pos ⟨by omega, by omega, by rw [Int.toNat_natCast, h1]; omega⟩]
  congr 1
  unfold zb
  rw [← repeat_zero, Int.toNat_natCast]
theorem padded_eq (s : ByteArray) (n : Int) (h0 : 0 ≤ n) (h1 : n ≤ 1048576) (hs : s.size ≤ 4000000) : impl_padded.f s n = some (s ++ zb (n - s.size).toNat) := by
  unfold impl_padded.f
  rw [w64 (by omega) (by omega)]
  have hm : mx 0 (n - (s.size : Int)) = (((n - s.size).toNat : Nat) : Int) := by
    show (if (0 : Int) < n - (s.size : Int) then n - (s.size : Int) else 0) = _
    split <;> omega
  rw [hm, repeat_eq _ (by omega), Option.bind_some, if_pos (by rw [zb_size]; omega)]

/-! ### zeropage -/
theorem sZero_ev (b : ByteArray) (xs : List S206) (t p i q a k : Int) (hb : b.size ≤ 4000000) (hn : xs.length ≤ 4000000) : Ev (fun n => spec_ZeroPage.f n b xs t p i q a k) ((ptxV b xs t p i q a k).toList == (zb 32).toList) := by
  unfold spec_ZeroPage.f
  exact Ev.bind (sPageText_ev b xs t p i q a k hb hn) (Ev.bind (zeroText_ev 32 (by omega)) (ev_now rfl))
theorem iZero_ev (b : ByteArray) (xs : List S206) (t p i q a k : Int) (hw : -9223372036854775808 ≤ p ∧ p ≤ 9223372036854775807) (hb : b.size ≤ 4000000) (hn : xs.length ≤ 4000000) : Ev (fun n => impl_ZeroPage.f n b xs t p i q a k) ((ptxV b xs t p i q a k).toList == (zb 32).toList) := by
  unfold impl_ZeroPage.f
  have e0 : (⟨#[]⟩ : ByteArray).size = 0 := rfl
  have e : (⟨#[]⟩ : ByteArray) ++ zb ((32 : Int) - ((⟨#[]⟩ : ByteArray).size : Int)).toNat = zb 32 := by apply b_inj; rw [b_app]; rfl
  refine Ev.bind (iPageText_ev b xs t p i q a k hw hb hn) (Ev.bind (ev_eq (padded_eq ⟨#[]⟩ 32 (by omega) (by omega) (by omega))) ?_)
  rw [e]
  exact ev_now rfl

/-! ### pageswith -/
def withS (a : Int) (xs : List Int) (i : Nat) : List Int := match xs with
  | [] => []
  | x :: r => if x = a then (i : Int) :: withS a r (i + 1) else withS a r (i + 1)
theorem withS_len (a : Int) (xs : List Int) : ∀ i, (withS a xs i).length ≤ xs.length := by
  induction xs with
  | nil => intro i; simp [withS]
  | cons x r ih => intro i; simp only [withS]; split <;> simp <;> have := ih (i + 1) <;> omega
theorem sPagesWith_l (xs : List Int) (a : Int) (hn : xs.length ≤ 1048576) : ∀ (i : Nat) (o : List Int), i ≤ xs.length → o.length ≤ i → Ev (fun k => spec_PagesWith.l0 k xs a o i) (o ++ withS a (xs.drop i) i)
  | i, o, hi, ho => by
    refine Ev.step (spec_PagesWith.l0.eq_2 _ _ _ _) ?_
    by_cases h : i < xs.length
    · refine ev_pos (by omega) (ev_pos (by omega) ?_)
      rw [rd_at xs i h, w64s i (by omega), drop_at xs i h]
      simp only [withS]
      by_cases he : xs[i] = a
      · rw [if_pos he]
        exact ev_pos he (ev_pos (by omega) (ev_to (sPagesWith_l xs a hn (i + 1) _ (by omega) (by simp; omega)) (by simp)))
      · rw [if_neg he]
        exact ev_neg he (sPagesWith_l xs a hn (i + 1) _ (by omega) (by omega))
    · refine ev_neg (by omega) (ev_now ?_)
      rw [List.drop_of_length_le (by omega)]; simp [withS]
  termination_by i => xs.length - i
theorem iPagesWith_l (xs : List Int) (a : Int) (hn : xs.length ≤ 1048576) : ∀ (i : Nat) (o : List Int), i ≤ xs.length → o.length ≤ i → Ev (fun k => impl_PagesWith.l0 k a o xs xs.length i) (o ++ withS a (xs.drop i) i)
  | i, o, hi, ho => by
    refine Ev.step (impl_PagesWith.l0.eq_2 _ _ _ _ _) ?_
    by_cases h : i < xs.length
    · refine ev_pos (by omega) (ev_pos (by omega) (ev_pos (by omega) ?_))
      rw [rd_at xs i h, w64s i (by omega), drop_at xs i h]
      simp only [withS]
      by_cases he : xs[i] = a
      · rw [if_pos he]
        exact ev_pos he (ev_pos (by omega) (ev_to (iPagesWith_l xs a hn (i + 1) _ (by omega) (by simp; omega)) (by simp)))
      · rw [if_neg he]
        exact ev_neg he (iPagesWith_l xs a hn (i + 1) _ (by omega) (by omega))
    · refine ev_neg (by omega) (ev_now ?_)
      rw [List.drop_of_length_le (by omega)]; simp [withS]
  termination_by i => xs.length - i
theorem sPagesWith_ev (xs : List Int) (a : Int) (hn : xs.length ≤ 1048576) : Ev (fun k => spec_PagesWith.f k xs a) (withS a xs 0) := by
  unfold spec_PagesWith.f
  simpa using sPagesWith_l xs a hn 0 [] (by omega) (by simp)
theorem iPagesWith_ev (xs : List Int) (a : Int) (hn : xs.length ≤ 1048576) : Ev (fun k => impl_PagesWith.f k xs a) (withS a xs 0) := by
  unfold impl_PagesWith.f
  simpa using iPagesWith_l xs a hn 0 [] (by omega) (by simp)

/-! ### cleanok -/
noncomputable def zpB (b : ByteArray) (xs : List S206) (t p i q a : Int) (x : Int) : Bool := (ptxV b xs t p i q a x).toList == (zb 32).toList
theorem anyO_ev (F : Nat → Int → Option Bool) (g : Int → Bool) (hF : ∀ x, Ev (fun k => F k x) (g x)) : ∀ l : List Int, Ev (fun k => anyO (F k) l) (l.any g)
  | [] => Ev.now _
  | x :: r => by
    show Ev (fun k => (F k x).bind fun b => if b = true then some true else anyO (F k) r) ((x :: r).any g)
    refine Ev.bind (hF x) ?_
    rw [List.any_cons]
    cases h : g x with
    | true => exact ev_pos rfl (ev_now rfl)
    | false => exact ev_neg (by simp) (anyO_ev F g hF r)
theorem sClean_l (b : ByteArray) (xs : List S206) (t p i q a : Int) (hb : b.size ≤ 4000000) (hn : xs.length ≤ 4000000) (l : List Int) (hl : l.length ≤ 1048576) : ∀ j : Nat, j ≤ l.length → Ev (fun k => spec_CleanOk.l0 k a l j b xs t p i q) ((l.drop j).all (zpB b xs t p i q a))
  | j, hj => by
    refine Ev.step (spec_CleanOk.l0.eq_2 _ _ _ _ _ _ _ _ _) ?_
    by_cases h : j < l.length
    · refine ev_pos (by omega) (ev_pos (by omega) (Ev.bind (sZero_ev b xs t p i q a _ hb hn) ?_))
      rw [rd_at l j h, w64s j (by omega), drop_at l j h, List.all_cons]
      cases hz : zpB b xs t p i q a l[j] with
      | true => exact ev_pos hz (sClean_l b xs t p i q a hb hn l hl (j + 1) (by omega))
      | false => exact ev_neg (by unfold zpB at hz; rw [hz]; simp) (ev_now rfl)
    · refine ev_neg (by omega) (ev_now ?_)
      rw [List.drop_of_length_le (by omega)]; rfl
  termination_by j => l.length - j
theorem sClean_ev (b : ByteArray) (xs : List S206) (t p i q a : Int) (sr : Int) (st : List Int) (ns : List S49) (hb : b.size ≤ 4000000) (hn : xs.length ≤ 4000000) (hs : st.length ≤ 1048576) : Ev (fun k => spec_CleanOk.f k b xs t p i q a sr st ns) ((withS 0 st 0).all (zpB b xs t p i q a)) := by
  unfold spec_CleanOk.f
  have := withS_len 0 st 0
  exact Ev.bind (sPagesWith_ev st 0 hs) (ev_to (sClean_l b xs t p i q a hb hn _ (by omega) 0 (by omega)) (by rw [List.drop_zero]))
theorem iClean_ev (b : ByteArray) (xs : List S206) (t p i q a : Int) (sr : Int) (st : List Int) (ns : List S49) (hw : -9223372036854775808 ≤ p ∧ p ≤ 9223372036854775807) (hb : b.size ≤ 4000000) (hn : xs.length ≤ 4000000) (hs : st.length ≤ 1048576) : Ev (fun k => impl_CleanOk.f k b xs t p i q a sr st ns) ((withS 0 st 0).all (zpB b xs t p i q a)) := by
  unfold impl_CleanOk.f
  have := withS_len 0 st 0
  refine Ev.bind (iPagesWith_ev st 0 hs) (Ev.bind (a := (withS 0 st 0).any (fun x => !zpB b xs t p i q a x)) ?_ (ev_now ?_))
  · unfold slices_ContainsFunc_int_g159.f
    refine ev_pos (by omega) (anyO_ev _ _ (fun x => ?_) _)
    unfold clo159.q
    exact Ev.bind (iZero_ev b xs t p i q a x hw hb hn) (ev_now rfl)
  · rw [List.not_any_eq_all_not]
    simp

/-! ### FnExactCleanOk -/
theorem FnExactCleanOk : laws_FnExactCleanOk.Law := by
  intro b xs t p i q a sr st ns hb hx _ hp _ _ _ _ hs hi
  apply Ev.rounds
  unfold laws_FnExactCleanOk.f
  refine Ev.bind (szMemory_ev b xs hb ⟨by omega, hx.2⟩ 1048576 (by omega) (by omega)) ?_
  by_cases h : left 1048576 (wtMemory b xs) < 0
  · exact ev_pos h (ev_now rfl)
  have hw := left_le (a := 1048576) (t := wtMemory b xs) (by omega)
  have hi1 : wiMemory b (xs.map cvCell) = wtMemory b xs := by simp only [wiMemory, wtMemory, wiCellS_cv]
  have hw1 := hw.1
  have hz : b.size ≤ 4000000 := by unfold wtMemory at hw1; omega
  have hn : (xs.map cvCell).length ≤ 4000000 := by unfold wtMemory wtCellS at hw1; rw [List.length_map]; omega
  have hpw := wf64 hp
  refine ev_neg h ?_
  refine Ev.step (laws_FnExactCleanOk.j0.eq_2 _ _ _ _ _ _ _ _ _ _ _) ?_
  refine Ev.bind (szPart_ev sr st ns (by omega) ⟨by omega, hi.2⟩ (left 1048576 (wtMemory b xs)) (by omega) (by omega)) ?_
  by_cases h2 : left (left 1048576 (wtMemory b xs)) (wtPart sr st ns) < 0
  · exact ev_pos h2 (ev_now rfl)
  have hv := (left_le (a := left 1048576 (wtMemory b xs)) (t := wtPart sr st ns) (by omega)).1
  have hi2 : wiPart sr st (ns.map cvInode) = wtPart sr st ns := by simp only [wiPart, wtPart, wiInodeS_cv]
  have hst : st.length ≤ 1048576 := by unfold wtPart at hv; omega
  refine ev_neg h2 ?_
  repeat' first
    | (with_reducible exact ev_now rfl)
    | (with_reducible refine Ev.bind (toMemory_ev b xs (by omega)) ?_)
    | (with_reducible refine Ev.bind (ev_eq (rfl : laws_toGeo.f t p i q = some (t, p, i, q))) ?_)
    | (with_reducible refine Ev.bind (toPart_ev sr st ns (by omega)) ?_)
    | (with_reducible refine Ev.bind (sClean_ev _ _ _ _ _ _ _ _ _ _ hz hn hst) ?_)
    | (with_reducible refine Ev.bind (iClean_ev _ _ _ _ _ _ _ _ _ _ hpw hz hn hst) ?_)
    | (with_reducible refine Ev.bind (eqMemory_ev b (xs.map cvCell) (by omega)) ?_)
    | (with_reducible refine Ev.bind (eqPart_ev sr st (ns.map cvInode) (by omega)) ?_)
    | (with_reducible refine ev_pos rfl ?_)
    | ((with_reducible refine ev_pos ?c_ ?_); (case c_ => first | rfl | omega | (dsimp only; omega) | (simp only [decide_eq_true_eq]; omega) | (simp; done)))
    | ((with_reducible refine ev_neg ?c_ ?_); (case c_ => first | rfl | omega | (dsimp only; omega) | (simp only [decide_eq_true_eq]; omega) | (simp; done)))
    | (refine Ev.step (laws_FnExactCleanOk.j0.eq_2 _ _ _ _ _ _ _ _ _ _ _) ?_)
    | (refine Ev.step (laws_FnExactCleanOk.j1.eq_2 _ _ _ _ _ _ _ _ _ _) ?_)
    | (refine Ev.step (laws_FnExactCleanOk.j2.eq_2 _ _ _ _ _ _ _ _ _ _) ?_)
    | (refine Ev.step (laws_FnExactCleanOk.j3.eq_2 _ _ _ _ _ _) ?_)
    | ((with_reducible refine ev_now ?c_); (case c_ => first | rfl | (simp; done)))
    | (dsimp only)

end Go.Proofs.Ytcdnfkoahajhhaa.Pure
