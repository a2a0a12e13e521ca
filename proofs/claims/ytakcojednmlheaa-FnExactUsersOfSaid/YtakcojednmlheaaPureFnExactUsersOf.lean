/- The pure statement of FnExactUsersOf is proved: for all arguments within the row's own bounds the Lean function that the law's walk comes to answers true. Conditions: none beyond these bounds. -/
import Derived.Test.YtakcojednmlheaaStFnExactUsersOf
import Derived.Test.YtakcojednmlheaaBase
namespace Go.Proofs.Ytakcojednmlheaa.Pure
open Go.RowKit Go.Proofs.Ytakcojednmlheaa.PFnExactUsersOf Go.Proofs.YtakcojednmlheaaW.PrintWords Go.Proofs.YtakcojednmlheaaW.PrintLast Go.Proofs.Ytakcojednmlheaa.Base
set_option linter.unusedVariables false
set_option linter.unusedSimpArgs false
/-! ### t_Entry -/
def wtEntry (x : S129) : Nat := x.f1.size + (0)
def wiEntry (x : S97) : Nat := x.f1.size + (0)
def wtEntryS (xs : List S129) : Nat := xs.length + sumBy wtEntry xs
def wiEntryS (xs : List S97) : Nat := xs.length + sumBy wiEntry xs
def cvEntry (x : S129) : S97 := ⟨x.f0, x.f1⟩
theorem wiEntry_cv (x : S129) : wiEntry (cvEntry x) = wtEntry x := by simp only [wiEntry, wtEntry, cvEntry]
theorem wiEntryS_cv (xs : List S129) : wiEntryS (xs.map cvEntry) = wtEntryS xs := by
  unfold wiEntryS wtEntryS sumBy
  rw [List.length_map, List.map_map, List.map_congr_left (f := wiEntry ∘ cvEntry) (g := wtEntry) (fun x _ => wiEntry_cv x)]
theorem rdlEntry (xs : List S129) (i : Nat) (h : i < xs.length) : rd_T129 xs (i : Int) = xs[i] := getD_at _ xs i h
theorem rdiEntry (xs : List S97) (i : Nat) (h : i < xs.length) : rd_T97 xs (i : Int) = xs[i] := getD_at _ xs i h
theorem szEntry_ev (x : S129) (hx : Wf129 x) (a : Int) (g0 : 0 ≤ a) (g1 : a ≤ 1048576) : Ev (fun k => laws_szEntry.f x.f0 x.f1 a) (left a (wtEntry x)) := by
  unfold laws_szEntry.f wtEntry
  have b1 := (hx.2)
  rw [w64 (x := a - (x.f1.size : Int)) (by omega) (by omega)]
  refine ev_sub a (by omega) (fun q1 => ?_)
  exact ev_now (left_zero (by omega)).symm
theorem szEntryS_l (xs : List S129) (hn : xs.length ≤ 1048576) (hw : ∀ y ∈ xs, Wf129 y) : ∀ (i : Nat) (a : Int), i ≤ xs.length → 0 ≤ a → a ≤ 1048576 → Ev (fun k => laws_szEntryS.l0 k xs a i) (left a (sumBy wtEntry (xs.drop i)))
  | i, a, hi, h0, h1 => by
    refine Ev.step (laws_szEntryS.l0.eq_2 _ _ _) ?_
    by_cases h : i < xs.length
    · refine ev_pos (by omega) (ev_pos (by omega) ?_)
      rw [rdlEntry xs i h, w64s i (by omega), drop_at xs i h, sumBy_cons]
      refine Ev.bind (szEntry_ev _ (hw _ (List.getElem_mem h)) a h0 h1) (ev_call (fun q => ?_))
      have := left_le q
      exact szEntryS_l xs hn hw (i + 1) _ (by omega) (by omega) (by omega)
    · refine ev_neg (by omega) (ev_now ?_)
      rw [List.drop_of_length_le (by omega), sumBy_nil, left_zero h0]
  termination_by i => xs.length - i
theorem szEntryS_ev (xs : List S129) (hb : xs.length ≤ 140737488351232) (hw : ∀ y ∈ xs, Wf129 y) (a : Int) (h0 : 0 ≤ a) (h1 : a ≤ 1048576) : Ev (fun k => laws_szEntryS.f k xs a) (left a (wtEntryS xs)) := by
  unfold laws_szEntryS.f wtEntryS
  rw [w64 (x := a - (xs.length : Int)) (by omega) (by omega)]
  refine ev_sub a h0 (fun q => ?_)
  have := szEntryS_l xs (by omega) hw 0 (a - xs.length) (by omega) (by omega) (by omega)
  rw [List.drop_zero] at this
  exact this

theorem toEntryS_l (xs : List S129) (hn : wtEntryS xs ≤ 1048576) : ∀ (i : Nat) (ys : List S97), i ≤ xs.length → ys.length = xs.length → ys.take i = (xs.map cvEntry).take i → Ev (fun k => laws_toEntryS.l0 k xs ys i) (xs.map cvEntry)
  | i, ys, hi, hl, ht => by
    have hn2 : xs.length ≤ 1048576 := by unfold wtEntryS at hn; omega
    refine Ev.step (laws_toEntryS.l0.eq_2 _ _ _) ?_
    by_cases h : i < xs.length
    · refine ev_pos (by omega) (ev_pos (by omega) ?_)
      have hx : wtEntry xs[i] ≤ 1048576 := by have := sumBy_mem (f := wtEntry) (List.getElem_mem h); unfold wtEntryS at hn; omega
      rw [rdlEntry xs i h, w64s i (by omega)]
      refine Ev.bind (ev_eq rfl) (ev_pos (by omega) ?_)
      rw [Int.toNat_natCast]
      exact toEntryS_l xs hn (i + 1) _ (by omega) (by simp [hl]) (take_set (by simp [hl]) ht (by simpa using h) (by simp [cvEntry]))
    · have : i = xs.length := by omega
      subst this
      exact ev_neg (by omega) (ev_now (take_all (by simp [hl]) (by simpa using ht)))
  termination_by i => xs.length - i
theorem toEntryS_ev (xs : List S129) (hn : wtEntryS xs ≤ 1048576) : Ev (fun k => laws_toEntryS.f k xs) (xs.map cvEntry) := by
  have hn2 : xs.length ≤ 1048576 := by unfold wtEntryS at hn; omega
  unfold laws_toEntryS.f
  exact ev_pos (by omega) (ev_pos (by omega) (toEntryS_l xs hn 0 _ (by omega) (by simp) (by simp)))

theorem eqEntry_ev (x : S97) : Ev (fun _ => laws_eqEntry.f x.f0 x.f1 x.f0 x.f1) true := ev_eq (by simp [laws_eqEntry.f])
theorem eqEntryS_l (xs : List S97) (hn : wiEntryS xs ≤ 4000000) : ∀ (i : Nat), i ≤ xs.length → Ev (fun k => laws_eqEntryS.l0 k xs xs i) true
  | i, hi => by
    have hn2 : xs.length ≤ 4000000 := by unfold wiEntryS at hn; omega
    refine Ev.step (laws_eqEntryS.l0.eq_2 _ _ _) ?_
    by_cases h : i < xs.length
    · refine ev_pos (by omega) (ev_pos (by omega) (ev_pos (by omega) ?_))
      rw [w64s i (by omega), rdiEntry xs i h]
      exact Ev.bind (eqEntry_ev _) (ev_pos rfl (eqEntryS_l xs hn (i + 1) (by omega)))
    · exact ev_neg (by omega) (ev_now rfl)
  termination_by i => xs.length - i
theorem eqEntryS_ev (xs : List S97) (hn : wiEntryS xs ≤ 4000000) : Ev (fun k => laws_eqEntryS.f k xs xs) true := by
  unfold laws_eqEntryS.f
  exact ev_pos rfl (eqEntryS_l xs hn 0 (by omega))


/-! ### t_Rec -/
def wtRec (x : S127) : Nat := x.f2.size + (0)
def wiRec (x : S99) : Nat := x.f2.size + (0)
def wtRecS (xs : List S127) : Nat := xs.length + sumBy wtRec xs
def wiRecS (xs : List S99) : Nat := xs.length + sumBy wiRec xs
def cvRec (x : S127) : S99 := ⟨x.f0, x.f1, x.f2⟩
theorem wiRec_cv (x : S127) : wiRec (cvRec x) = wtRec x := by simp only [wiRec, wtRec, cvRec]
theorem wiRecS_cv (xs : List S127) : wiRecS (xs.map cvRec) = wtRecS xs := by
  unfold wiRecS wtRecS sumBy
  rw [List.length_map, List.map_map, List.map_congr_left (f := wiRec ∘ cvRec) (g := wtRec) (fun x _ => wiRec_cv x)]
theorem rdlRec (xs : List S127) (i : Nat) (h : i < xs.length) : rd_T127 xs (i : Int) = xs[i] := getD_at _ xs i h
theorem rdiRec (xs : List S99) (i : Nat) (h : i < xs.length) : rd_T99 xs (i : Int) = xs[i] := getD_at _ xs i h
theorem szRec_ev (x : S127) (hx : Wf127 x) (a : Int) (g0 : 0 ≤ a) (g1 : a ≤ 1048576) : Ev (fun k => laws_szRec.f x.f0 x.f1 x.f2 a) (left a (wtRec x)) := by
  unfold laws_szRec.f wtRec
  have b2 := (hx.2.2)
  rw [w64 (x := a - (x.f2.size : Int)) (by omega) (by omega)]
  refine ev_sub a (by omega) (fun q2 => ?_)
  exact ev_now (left_zero (by omega)).symm
theorem szRecS_l (xs : List S127) (hn : xs.length ≤ 1048576) (hw : ∀ y ∈ xs, Wf127 y) : ∀ (i : Nat) (a : Int), i ≤ xs.length → 0 ≤ a → a ≤ 1048576 → Ev (fun k => laws_szRecS.l0 k xs a i) (left a (sumBy wtRec (xs.drop i)))
  | i, a, hi, h0, h1 => by
    refine Ev.step (laws_szRecS.l0.eq_2 _ _ _) ?_
    by_cases h : i < xs.length
    · refine ev_pos (by omega) (ev_pos (by omega) ?_)
      rw [rdlRec xs i h, w64s i (by omega), drop_at xs i h, sumBy_cons]
      refine Ev.bind (szRec_ev _ (hw _ (List.getElem_mem h)) a h0 h1) (ev_call (fun q => ?_))
      have := left_le q
      exact szRecS_l xs hn hw (i + 1) _ (by omega) (by omega) (by omega)
    · refine ev_neg (by omega) (ev_now ?_)
      rw [List.drop_of_length_le (by omega), sumBy_nil, left_zero h0]
  termination_by i => xs.length - i
theorem szRecS_ev (xs : List S127) (hb : xs.length ≤ 140737488351232) (hw : ∀ y ∈ xs, Wf127 y) (a : Int) (h0 : 0 ≤ a) (h1 : a ≤ 1048576) : Ev (fun k => laws_szRecS.f k xs a) (left a (wtRecS xs)) := by
  unfold laws_szRecS.f wtRecS
  rw [w64 (x := a - (xs.length : Int)) (by omega) (by omega)]
  refine ev_sub a h0 (fun q => ?_)
  have := szRecS_l xs (by omega) hw 0 (a - xs.length) (by omega) (by omega) (by omega)
  rw [List.drop_zero] at this
  exact this

theorem toRecS_l (xs : List S127) (hn : wtRecS xs ≤ 1048576) : ∀ (i : Nat) (ys : List S99), i ≤ xs.length → ys.length = xs.length → ys.take i = (xs.map cvRec).take i → Ev (fun k => laws_toRecS.l0 k xs ys i) (xs.map cvRec)
  | i, ys, hi, hl, ht => by
    have hn2 : xs.length ≤ 1048576 := by unfold wtRecS at hn; omega
    refine Ev.step (laws_toRecS.l0.eq_2 _ _ _) ?_
    by_cases h : i < xs.length
    · refine ev_pos (by omega) (ev_pos (by omega) ?_)
      have hx : wtRec xs[i] ≤ 1048576 := by have := sumBy_mem (f := wtRec) (List.getElem_mem h); unfold wtRecS at hn; omega
      rw [rdlRec xs i h, w64s i (by omega)]
      refine Ev.bind (ev_eq rfl) (ev_pos (by omega) ?_)
      rw [Int.toNat_natCast]
      exact toRecS_l xs hn (i + 1) _ (by omega) (by simp [hl]) (take_set (by simp [hl]) ht (by simpa using h) (by simp [cvRec]))
    · have : i = xs.length := by omega
      subst this
      exact ev_neg (by omega) (ev_now (take_all (by simp [hl]) (by simpa using ht)))
  termination_by i => xs.length - i
theorem toRecS_ev (xs : List S127) (hn : wtRecS xs ≤ 1048576) : Ev (fun k => laws_toRecS.f k xs) (xs.map cvRec) := by
  have hn2 : xs.length ≤ 1048576 := by unfold wtRecS at hn; omega
  unfold laws_toRecS.f
  exact ev_pos (by omega) (ev_pos (by omega) (toRecS_l xs hn 0 _ (by omega) (by simp) (by simp)))

theorem eqRec_ev (x : S99) : Ev (fun _ => laws_eqRec.f x.f0 x.f1 x.f2 x.f0 x.f1 x.f2) true := ev_eq (by simp [laws_eqRec.f])
theorem eqRecS_l (xs : List S99) (hn : wiRecS xs ≤ 4000000) : ∀ (i : Nat), i ≤ xs.length → Ev (fun k => laws_eqRecS.l0 k xs xs i) true
  | i, hi => by
    have hn2 : xs.length ≤ 4000000 := by unfold wiRecS at hn; omega
    refine Ev.step (laws_eqRecS.l0.eq_2 _ _ _) ?_
    by_cases h : i < xs.length
    · refine ev_pos (by omega) (ev_pos (by omega) (ev_pos (by omega) ?_))
      rw [w64s i (by omega), rdiRec xs i h]
      exact Ev.bind (eqRec_ev _) (ev_pos rfl (eqRecS_l xs hn (i + 1) (by omega)))
    · exact ev_neg (by omega) (ev_now rfl)
  termination_by i => xs.length - i
theorem eqRecS_ev (xs : List S99) (hn : wiRecS xs ≤ 4000000) : Ev (fun k => laws_eqRecS.f k xs xs) true := by
  unfold laws_eqRecS.f
  exact ev_pos rfl (eqRecS_l xs hn 0 (by omega))


/-! ### t_Inode -/
def wtInode (x : S59) : Nat := x.f3.size + (wtRecS x.f4 + (wtEntryS x.f5 + (0)))
def wiInode (x : S64) : Nat := x.f3.size + (wiRecS x.f4 + (wiEntryS x.f5 + (0)))
def wtInodeS (xs : List S59) : Nat := xs.length + sumBy wtInode xs
def wiInodeS (xs : List S64) : Nat := xs.length + sumBy wiInode xs
def cvInode (x : S59) : S64 := ⟨x.f0, x.f1, x.f2, x.f3, (x.f4.map cvRec), (x.f5.map cvEntry)⟩
theorem wiInode_cv (x : S59) : wiInode (cvInode x) = wtInode x := by simp only [wiInode, wtInode, cvInode, wiRecS_cv, wiEntryS_cv]
theorem wiInodeS_cv (xs : List S59) : wiInodeS (xs.map cvInode) = wtInodeS xs := by
  unfold wiInodeS wtInodeS sumBy
  rw [List.length_map, List.map_map, List.map_congr_left (f := wiInode ∘ cvInode) (g := wtInode) (fun x _ => wiInode_cv x)]
theorem rdlInode (xs : List S59) (i : Nat) (h : i < xs.length) : rd_T59 xs (i : Int) = xs[i] := getD_at _ xs i h
theorem rdiInode (xs : List S64) (i : Nat) (h : i < xs.length) : rd_T64 xs (i : Int) = xs[i] := getD_at _ xs i h
theorem szInode_ev (x : S59) (hx : Wf59 x) (a : Int) (g0 : 0 ≤ a) (g1 : a ≤ 1048576) : Ev (fun k => laws_szInode.f k x.f0 x.f1 x.f2 x.f3 x.f4 x.f5 a) (left a (wtInode x)) := by
  unfold laws_szInode.f wtInode
  have b3 := (hx.2.2.2.1)
  rw [w64 (x := a - (x.f3.size : Int)) (by omega) (by omega)]
  refine ev_sub a (by omega) (fun q3 => ?_)
  refine Ev.bind (szRecS_ev x.f4 (by have := ((hx.2.2.2.2.1)).1; omega) ((hx.2.2.2.2.1)).2 (a - (x.f3.size : Int)) (by omega) (by omega)) (ev_call (fun q4 => ?_))
  have r4 := left_le q4
  refine Ev.bind (szEntryS_ev x.f5 (by have := ((hx.2.2.2.2.2)).1; omega) ((hx.2.2.2.2.2)).2 (left (a - (x.f3.size : Int)) (wtRecS x.f4)) (by omega) (by omega)) (ev_call (fun q5 => ?_))
  have r5 := left_le q5
  exact ev_now (left_zero (by omega)).symm
theorem szInodeS_l (xs : List S59) (hn : xs.length ≤ 1048576) (hw : ∀ y ∈ xs, Wf59 y) : ∀ (i : Nat) (a : Int), i ≤ xs.length → 0 ≤ a → a ≤ 1048576 → Ev (fun k => laws_szInodeS.l0 k xs a i) (left a (sumBy wtInode (xs.drop i)))
  | i, a, hi, h0, h1 => by
    refine Ev.step (laws_szInodeS.l0.eq_2 _ _ _) ?_
    by_cases h : i < xs.length
    · refine ev_pos (by omega) (ev_pos (by omega) ?_)
      rw [rdlInode xs i h, w64s i (by omega), drop_at xs i h, sumBy_cons]
      refine Ev.bind (szInode_ev _ (hw _ (List.getElem_mem h)) a h0 h1) (ev_call (fun q => ?_))
      have := left_le q
      exact szInodeS_l xs hn hw (i + 1) _ (by omega) (by omega) (by omega)
    · refine ev_neg (by omega) (ev_now ?_)
      rw [List.drop_of_length_le (by omega), sumBy_nil, left_zero h0]
  termination_by i => xs.length - i
theorem szInodeS_ev (xs : List S59) (hb : xs.length ≤ 140737488351232) (hw : ∀ y ∈ xs, Wf59 y) (a : Int) (h0 : 0 ≤ a) (h1 : a ≤ 1048576) : Ev (fun k => laws_szInodeS.f k xs a) (left a (wtInodeS xs)) := by
  unfold laws_szInodeS.f wtInodeS
  rw [w64 (x := a - (xs.length : Int)) (by omega) (by omega)]
  refine ev_sub a h0 (fun q => ?_)
  have := szInodeS_l xs (by omega) hw 0 (a - xs.length) (by omega) (by omega) (by omega)
  rw [List.drop_zero] at this
  exact this

theorem toInode_ev (x : S59) (hw : wtInode x ≤ 1048576) : Ev (fun k => laws_toInode.f k x.f0 x.f1 x.f2 x.f3 x.f4 x.f5) (x.f0, x.f1, x.f2, x.f3, (x.f4.map cvRec), (x.f5.map cvEntry)) := by
  unfold wtInode at hw
  unfold laws_toInode.f
  refine Ev.bind (toRecS_ev x.f4 (by omega)) ?_
  refine Ev.bind (toEntryS_ev x.f5 (by omega)) ?_
  exact ev_now rfl
theorem toInodeS_l (xs : List S59) (hn : wtInodeS xs ≤ 1048576) : ∀ (i : Nat) (ys : List S64), i ≤ xs.length → ys.length = xs.length → ys.take i = (xs.map cvInode).take i → Ev (fun k => laws_toInodeS.l0 k xs ys i) (xs.map cvInode)
  | i, ys, hi, hl, ht => by
    have hn2 : xs.length ≤ 1048576 := by unfold wtInodeS at hn; omega
    refine Ev.step (laws_toInodeS.l0.eq_2 _ _ _) ?_
    by_cases h : i < xs.length
    · refine ev_pos (by omega) (ev_pos (by omega) ?_)
      have hx : wtInode xs[i] ≤ 1048576 := by have := sumBy_mem (f := wtInode) (List.getElem_mem h); unfold wtInodeS at hn; omega
      rw [rdlInode xs i h, w64s i (by omega)]
      refine Ev.bind (toInode_ev _ (by omega)) (ev_pos (by omega) ?_)
      rw [Int.toNat_natCast]
      exact toInodeS_l xs hn (i + 1) _ (by omega) (by simp [hl]) (take_set (by simp [hl]) ht (by simpa using h) (by simp [cvInode]))
    · have : i = xs.length := by omega
      subst this
      exact ev_neg (by omega) (ev_now (take_all (by simp [hl]) (by simpa using ht)))
  termination_by i => xs.length - i
theorem toInodeS_ev (xs : List S59) (hn : wtInodeS xs ≤ 1048576) : Ev (fun k => laws_toInodeS.f k xs) (xs.map cvInode) := by
  have hn2 : xs.length ≤ 1048576 := by unfold wtInodeS at hn; omega
  unfold laws_toInodeS.f
  exact ev_pos (by omega) (ev_pos (by omega) (toInodeS_l xs hn 0 _ (by omega) (by simp) (by simp)))

theorem eqInode_ev (x : S64) (hw : wiInode x ≤ 4000000) : Ev (fun k => laws_eqInode.f k x.f0 x.f1 x.f2 x.f3 x.f4 x.f5 x.f0 x.f1 x.f2 x.f3 x.f4 x.f5) true := by
  unfold wiInode at hw
  unfold laws_eqInode.f
  refine ev_pos rfl ?_
  refine ev_pos rfl ?_
  refine ev_pos rfl ?_
  refine ev_pos rfl ?_
  refine Ev.bind (eqRecS_ev x.f4 (by omega)) (ev_pos rfl ?_)
  refine Ev.bind (eqEntryS_ev x.f5 (by omega)) (ev_pos rfl ?_)
  exact ev_now rfl
theorem eqInodeS_l (xs : List S64) (hn : wiInodeS xs ≤ 4000000) : ∀ (i : Nat), i ≤ xs.length → Ev (fun k => laws_eqInodeS.l0 k xs xs i) true
  | i, hi => by
    have hn2 : xs.length ≤ 4000000 := by unfold wiInodeS at hn; omega
    refine Ev.step (laws_eqInodeS.l0.eq_2 _ _ _) ?_
    by_cases h : i < xs.length
    · refine ev_pos (by omega) (ev_pos (by omega) (ev_pos (by omega) ?_))
      rw [w64s i (by omega), rdiInode xs i h]
      exact Ev.bind (eqInode_ev _ (by have := sumBy_mem (f := wiInode) (List.getElem_mem h); unfold wiInodeS at hn; omega)) (ev_pos rfl (eqInodeS_l xs hn (i + 1) (by omega)))
    · exact ev_neg (by omega) (ev_now rfl)
  termination_by i => xs.length - i
theorem eqInodeS_ev (xs : List S64) (hn : wiInodeS xs ≤ 4000000) : Ev (fun k => laws_eqInodeS.f k xs xs) true := by
  unfold laws_eqInodeS.f
  exact ev_pos rfl (eqInodeS_l xs hn 0 (by omega))


/-! ### szints -/
theorem szIntS_ev (xs : List Int) (a : Int) (hb : xs.length ≤ 140737488351232) (h0 : 0 ≤ a) (h1 : a ≤ 1048576) : Ev (fun _ => laws_szIntS.f xs a) (left a xs.length) := by
  unfold laws_szIntS.f
  rw [w64 (x := a - (xs.length : Int)) (by omega) (by omega)]
  exact ev_to (ev_sub a h0 (fun q => ev_now (left_zero q).symm)) rfl


/-! ### toints -/
theorem toIntS_l (xs : List Int) (hn : xs.length ≤ 4000000) : ∀ (i : Nat) (ys : List Int), i ≤ xs.length → ys.length = xs.length → ys.take i = xs.take i →
    Ev (fun k => laws_toIntS.l0 k xs ys i) xs
  | i, ys, hi, hl, ht => by
    refine Ev.step (laws_toIntS.l0.eq_2 _ _ _) ?_
    by_cases h : i < xs.length
    · refine ev_pos (by omega) (ev_pos (by omega) (ev_pos (by omega) ?_))
      rw [rd_at xs i h, w64s i (by omega), Int.toNat_natCast]
      exact toIntS_l xs hn (i + 1) _ (by omega) (by simp [hl]) (take_set hl ht h rfl)
    · have : i = xs.length := by omega
      subst this
      exact ev_neg (by omega) (ev_now (take_all hl ht))
  termination_by i => xs.length - i
theorem toIntS_ev (xs : List Int) (hn : xs.length ≤ 4000000) : Ev (fun k => laws_toIntS.f k xs) xs := by
  unfold laws_toIntS.f
  exact ev_pos (by omega) (ev_pos (by omega) (toIntS_l xs hn 0 _ (by omega) (by simp) (by simp)))


/-! ### ints -/
theorem eqIntS_l (xs : List Int) (hn : xs.length ≤ 4000000) : ∀ (i : Nat), i ≤ xs.length → Ev (fun k => laws_eqIntS.l0 k xs xs i) true
  | i, hi => by
    refine Ev.step (laws_eqIntS.l0.eq_2 _ _ _) ?_
    by_cases h : i < xs.length
    · refine ev_pos (by omega) (ev_pos (by omega) (ev_pos (by omega) (ev_pos rfl ?_)))
      rw [w64s i (by omega)]
      exact eqIntS_l xs hn (i + 1) (by omega)
    · exact ev_neg (by omega) (ev_now rfl)
  termination_by i => xs.length - i
theorem eqIntS_ev (xs : List Int) (hn : xs.length ≤ 4000000) : Ev (fun k => laws_eqIntS.f k xs xs) true := by
  unfold laws_eqIntS.f
  exact ev_pos rfl (eqIntS_l xs hn 0 (by omega))


/-! ### t_Part -/
def wtPart (a0 : Int) (a1 : List Int) (a2 : List S59) : Nat := a1.length + (wtInodeS a2 + (0))
def wiPart (a0 : Int) (a1 : List Int) (a2 : List S64) : Nat := a1.length + (wiInodeS a2 + (0))
theorem szPart_ev (a0 : Int) (a1 : List Int) (a2 : List S59) (h1 : a1.length ≤ 140737488351232) (h2 : a2.length ≤ 140737488351232 ∧ ∀ y ∈ a2, Wf59 y) (a : Int) (g0 : 0 ≤ a) (g1 : a ≤ 1048576) : Ev (fun k => laws_szPart.f k a0 a1 a2 a) (left a (wtPart a0 a1 a2)) := by
  unfold laws_szPart.f wtPart
  have b1 := h1
  refine Ev.bind (szIntS_ev a1 a (by omega) (by omega) (by omega)) (ev_call (fun q1 => ?_))
  have r1 := left_le q1
  refine Ev.bind (szInodeS_ev a2 (by have := (h2).1; omega) (h2).2 (left a a1.length) (by omega) (by omega)) (ev_call (fun q2 => ?_))
  have r2 := left_le q2
  exact ev_now (left_zero (by omega)).symm

theorem toPart_ev (a0 : Int) (a1 : List Int) (a2 : List S59) (hw : wtPart a0 a1 a2 ≤ 1048576) : Ev (fun k => laws_toPart.f k a0 a1 a2) (a0, a1, (a2.map cvInode)) := by
  unfold wtPart at hw
  unfold laws_toPart.f
  refine Ev.bind (toIntS_ev a1 (by omega)) ?_
  refine Ev.bind (toInodeS_ev a2 (by omega)) ?_
  exact ev_now rfl

theorem eqPart_ev (a0 : Int) (a1 : List Int) (a2 : List S64) (hw : wiPart a0 a1 a2 ≤ 4000000) : Ev (fun k => laws_eqPart.f k a0 a1 a2 a0 a1 a2) true := by
  unfold wiPart at hw
  unfold laws_eqPart.f
  refine ev_pos rfl ?_
  refine Ev.bind (eqIntS_ev a1 (by omega)) (ev_pos rfl ?_)
  refine Ev.bind (eqInodeS_ev a2 (by omega)) (ev_pos rfl ?_)
  exact ev_now rfl


/-! ### wilen -/
theorem wi_len {xs : List S64} (hn : wiInodeS xs ≤ 4000000) (i : Nat) (h : i < xs.length) : xs.length ≤ 4000000 ∧ xs[i].f5.length ≤ 4000000 ∧ xs[i].f4.length ≤ 4000000 := by
  have h1 := sumBy_mem (f := wiInode) (List.getElem_mem h)
  have h2 : wiInode xs[i] = xs[i].f3.size + (wiRecS xs[i].f4 + (wiEntryS xs[i].f5 + 0)) := rfl
  have h3 : wiRecS xs[i].f4 = xs[i].f4.length + sumBy wiRec xs[i].f4 := rfl
  have h4 : wiEntryS xs[i].f5 = xs[i].f5.length + sumBy wiEntry xs[i].f5 := rfl
  unfold wiInodeS at hn
  omega

/-! ### usersof -/
def cntR (i : Int) : List S99 → Int → Int
  | [], c => c
  | e :: r, c => cntR i r (if wrap64 (e.f0 - 1) = i then c + 1 else c)
theorem cntR_b (i : Int) (es : List S99) : ∀ c : Int, c ≤ cntR i es c ∧ cntR i es c ≤ c + es.length := by
  induction es with
  | nil => intro c; simp [cntR]
  | cons e r ih => intro c; have h1 := ih c; have h2 := ih (c + 1); simp only [cntR, List.length_cons]; split <;> omega
def cntU (i : Int) : List S64 → Int → Int
  | [], c => c
  | x :: r, c => cntU i r (if x.f0 = 1 then cntR i x.f4 c else c)
theorem rdeR (xs : List S99) (i : Nat) (h : i < xs.length) : rd_T99 xs (i : Int) = xs[i] := getD_at _ xs i h
/-- The entries ahead of inode j, at the most. -/
def totR (xs : List S64) (j : Nat) : Nat := sumBy (fun x : S64 => x.f4.length) (xs.take j)
theorem totR_le {xs : List S64} (hn : wiInodeS xs ≤ 4000000) (j : Nat) : totR xs j ≤ 4000000 := by
  have : ∀ ys : List S64, sumBy (fun x : S64 => x.f4.length) ys ≤ sumBy wiInode ys := by
    intro ys
    induction ys with
    | nil => simp [sumBy]
    | cons y r ih => rw [sumBy_cons, sumBy_cons]; unfold wiInode wiRecS at ih ⊢; omega
  have h2 : ∀ (ys : List S64) (j : Nat), sumBy wiInode (ys.take j) ≤ sumBy wiInode ys := by
    intro ys
    induction ys with
    | nil => intro j; simp
    | cons y r ih => intro j; cases j with
      | zero => simp [sumBy]
      | succ j => rw [List.take_succ_cons, sumBy_cons, sumBy_cons]; have := ih j; omega
  have := this (xs.take j); have := h2 xs j
  unfold wiInodeS at hn
  unfold totR; omega
theorem totR_succ (xs : List S64) (j : Nat) (h : j < xs.length) : totR xs (j + 1) = totR xs j + xs[j].f4.length := by
  unfold totR sumBy
  rw [List.take_succ_eq_append_getElem h, List.map_append, List.sum_append]
  simp

/-! ### usersof_s -/
theorem sUsers_1 (xs : List S64) (a : Int) (b : List Int) (i : Int) (hn : wiInodeS xs ≤ 4000000) (j m : Nat) (c : Int) (hj : j < xs.length) (hm : m ≤ xs[j].f4.length) (h0 : 0 ≤ c) (hc : c ≤ totR xs j + m) (next : ∀ c' : Int, 0 ≤ c' → c' ≤ totR xs (j + 1) → Ev (fun k => spec_UsersOf.l0 k i c' (wrap64 (j + 1)) a b xs) (cntU i (xs.drop (j + 1)) c')) : Ev (fun k => spec_UsersOf.l1 k i c j m a b xs) (cntU i (xs.drop (j + 1)) (if xs[j].f0 = 1 then cntR i (xs[j].f4.drop m) c else c)) := by
  have hb := wi_len hn j hj
  have ht := totR_le hn j
  refine Ev.step (spec_UsersOf.l1.eq_2 _ _ _ _ _ _ _) ?_
  refine ev_pos (by omega) (ev_pos (by omega) ?_)
  rw [rdiInode xs j hj]
  have hs := totR_succ xs j hj
  by_cases hk : xs[j].f0 = 1
  · rw [if_pos hk]
    by_cases h : m < xs[j].f4.length
    · refine ev_pos (by omega) ?_
      refine Ev.step (spec_UsersOf.j2.eq_2 _ _ _ _ _ _ _ _) ?_
      refine ev_pos (by simp [hk]) (ev_pos (by omega) (ev_pos (by omega) (ev_pos (by omega) ?_)))
      rw [rdiInode xs j hj]
      refine ev_pos (by omega) ?_
      rw [rdeR _ m h, w64s m (by omega), w64 (x := c + 1) (by omega) (by omega), drop_at _ m h]
      simp only [cntR]
      by_cases he : wrap64 (xs[j].f4[m].f0 - 1) = i
      · rw [if_pos he]
        refine ev_pos he (ev_to (sUsers_1 xs a b i hn j (m + 1) (c + 1) hj (by omega) (by omega) (by omega) next) ?_)
        rw [if_pos hk]
      · rw [if_neg he]
        refine ev_neg he (ev_to (sUsers_1 xs a b i hn j (m + 1) c hj (by omega) (by omega) (by omega) next) ?_)
        rw [if_pos hk]
    · refine ev_neg (by omega) ?_
      refine Ev.step (spec_UsersOf.j2.eq_2 _ _ _ _ _ _ _ _) ?_
      refine ev_neg (by simp) ?_
      rw [List.drop_of_length_le (show xs[j].f4.length ≤ m by omega)]
      exact next c h0 (by omega)
  · rw [if_neg hk]
    by_cases h : m < xs[j].f4.length
    · refine ev_pos (by omega) ?_
      refine Ev.step (spec_UsersOf.j2.eq_2 _ _ _ _ _ _ _ _) ?_
      exact ev_neg (by simp [hk]) (next c h0 (by omega))
    · refine ev_neg (by omega) ?_
      refine Ev.step (spec_UsersOf.j2.eq_2 _ _ _ _ _ _ _ _) ?_
      exact ev_neg (by simp) (next c h0 (by omega))
termination_by xs[j].f4.length - m
theorem sUsers_0 (xs : List S64) (a : Int) (b : List Int) (i : Int) (hn : wiInodeS xs ≤ 4000000) (j : Nat) (c : Int) (hj : j ≤ xs.length) (h0 : 0 ≤ c) (hc : c ≤ totR xs j) : Ev (fun k => spec_UsersOf.l0 k i c j a b xs) (cntU i (xs.drop j) c) := by
  refine Ev.step (spec_UsersOf.l0.eq_2 _ _ _ _ _ _) ?_
  by_cases h : j < xs.length
  · refine ev_pos (by omega) ?_
    rw [drop_at xs j h]
    simp only [cntU]
    refine ev_to (sUsers_1 xs a b i hn j 0 c h (by omega) h0 (by omega) (fun c' g0 g1 => by rw [w64s j (by have := (wi_len hn j h).1; omega)]; exact sUsers_0 xs a b i hn (j + 1) c' (by omega) g0 g1)) ?_
    rw [List.drop_zero]
  · refine ev_neg (by omega) (ev_now ?_)
    rw [List.drop_of_length_le (by omega)]; rfl
termination_by xs.length - j
theorem sUsers_ev (a : Int) (b : List Int) (xs : List S64) (i : Int) (hn : wiInodeS xs ≤ 4000000) : Ev (fun k => spec_UsersOf.f k a b xs i) (cntU i xs 0) := by
  unfold spec_UsersOf.f
  have := sUsers_0 xs a b i hn 0 0 (by omega) (by omega) (by omega)
  rw [List.drop_zero] at this
  exact this

/-! ### usersof_i -/
theorem iUsers_1 (xs : List S64) (i : Int) (hn : wiInodeS xs ≤ 4000000) (j m : Nat) (c : Int) (hj : j < xs.length) (hm : m ≤ xs[j].f4.length) (h0 : 0 ≤ c) (hc : c ≤ totR xs j + m) (next : ∀ c' : Int, 0 ≤ c' → c' ≤ totR xs (j + 1) → Ev (fun k => impl_UsersOf.l0 k i c' xs xs.length (wrap64 (j + 1))) (cntU i (xs.drop (j + 1)) c')) : Ev (fun k => impl_UsersOf.l1 k i c xs xs.length j xs[j].f4 xs[j].f4.length m xs[j].f0 xs[j].f1 xs[j].f2 xs[j].f3 xs[j].f4 xs[j].f5) (cntU i (xs.drop (j + 1)) (if xs[j].f0 = 1 then cntR i (xs[j].f4.drop m) c else c)) := by
  have hb := wi_len hn j hj
  have ht := totR_le hn j
  have hs := totR_succ xs j hj
  refine Ev.step (impl_UsersOf.l1.eq_2 _ _ _ _ _ _ _ _ _ _ _ _ _ _) ?_
  by_cases h : m < xs[j].f4.length
  · refine ev_pos (by omega) (ev_pos (by omega) (ev_pos (by omega) ?_))
    rw [rdeR _ m h, w64s m (by omega), w64 (x := c + 1) (by omega) (by omega), drop_at _ m h]
    simp only [cntR]
    by_cases hk : xs[j].f0 = 1
    · rw [if_pos hk]
      refine ev_pos hk ?_
      by_cases he : wrap64 (xs[j].f4[m].f0 - 1) = i
      · rw [if_pos he]
        refine ev_pos he (ev_to (iUsers_1 xs i hn j (m + 1) (c + 1) hj (by omega) (by omega) (by omega) next) ?_)
        rw [if_pos hk]
      · rw [if_neg he]
        refine ev_neg he (ev_to (iUsers_1 xs i hn j (m + 1) c hj (by omega) (by omega) (by omega) next) ?_)
        rw [if_pos hk]
    · rw [if_neg hk]
      refine ev_neg hk (ev_to (iUsers_1 xs i hn j (m + 1) c hj (by omega) (by omega) (by omega) next) ?_)
      rw [if_neg hk]
  · refine ev_neg (by omega) ?_
    rw [List.drop_of_length_le (show xs[j].f4.length ≤ m by omega)]
    refine ev_to (next c h0 (by omega)) ?_
    simp only [cntR]; split <;> rfl
termination_by xs[j].f4.length - m
theorem iUsers_0 (xs : List S64) (i : Int) (hn : wiInodeS xs ≤ 4000000) (j : Nat) (c : Int) (hj : j ≤ xs.length) (h0 : 0 ≤ c) (hc : c ≤ totR xs j) : Ev (fun k => impl_UsersOf.l0 k i c xs xs.length j) (cntU i (xs.drop j) c) := by
  refine Ev.step (impl_UsersOf.l0.eq_2 _ _ _ _ _) ?_
  by_cases h : j < xs.length
  · refine ev_pos (by omega) (ev_pos (by omega) (ev_pos (by omega) ?_))
    rw [drop_at xs j h, rdiInode xs j h]
    simp only [cntU]
    refine ev_to (iUsers_1 xs i hn j 0 c h (by omega) h0 (by omega) (fun c' g0 g1 => by rw [w64s j (by have := (wi_len hn j h).1; omega)]; exact iUsers_0 xs i hn (j + 1) c' (by omega) g0 g1)) ?_
    rw [List.drop_zero]
  · refine ev_neg (by omega) (ev_now ?_)
    rw [List.drop_of_length_le (by omega)]; rfl
termination_by xs.length - j
theorem iUsers_ev (a : Int) (b : List Int) (xs : List S64) (i : Int) (hn : wiInodeS xs ≤ 4000000) : Ev (fun k => impl_UsersOf.f k a b xs i) (cntU i xs 0) := by
  unfold impl_UsersOf.f
  have := iUsers_0 xs i hn 0 0 (by omega) (by omega) (by omega)
  rw [List.drop_zero] at this
  exact this

/-! ### FnExactUsersOf -/
theorem FnExactUsersOf : laws_FnExactUsersOf.Law := by
  intro a b xs i _ hb hx _
  apply Ev.rounds
  unfold laws_FnExactUsersOf.f
  refine Ev.bind (szPart_ev a b xs (by omega) ⟨by omega, hx.2⟩ 1048576 (by omega) (by omega)) ?_
  by_cases h : left 1048576 (wtPart a b xs) < 0
  · exact ev_pos h (ev_now rfl)
  have hw := (left_le (a := 1048576) (t := wtPart a b xs) (by omega)).1
  have hi : wiPart a b (xs.map cvInode) = wtPart a b xs := by simp only [wiPart, wtPart, wiInodeS_cv]
  have hn : wiInodeS (xs.map cvInode) ≤ 4000000 := by rw [wiInodeS_cv]; unfold wtPart at hw; omega
  refine ev_neg h ?_
  repeat' first
    | (with_reducible exact ev_now rfl)
    | (with_reducible refine Ev.bind (toPart_ev a b xs (by omega)) ?_)
    | (with_reducible refine Ev.bind (sUsers_ev _ _ _ _ hn) ?_)
    | (with_reducible refine Ev.bind (iUsers_ev _ _ _ _ hn) ?_)
    | (with_reducible refine Ev.bind (eqPart_ev a b (xs.map cvInode) (by omega)) ?_)
    | (with_reducible refine ev_pos rfl ?_)
    | ((with_reducible refine ev_pos ?c_ ?_); (case c_ => first | rfl | omega | (dsimp only; omega) | (simp only [decide_eq_true_eq]; omega) | (simp; done)))
    | ((with_reducible refine ev_neg ?c_ ?_); (case c_ => first | rfl | omega | (dsimp only; omega) | (simp only [decide_eq_true_eq]; omega) | (simp; done)))
    | ((with_reducible refine ev_now ?c_); (case c_ => first | rfl | (simp; done)))

end Go.Proofs.Ytakcojednmlheaa.Pure
