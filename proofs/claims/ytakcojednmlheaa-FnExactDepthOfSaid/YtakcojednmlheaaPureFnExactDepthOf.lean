/- The pure statement of FnExactDepthOf is proved: for all arguments within the row's own bounds the Lean function that the law's walk comes to answers true. Conditions: none beyond these bounds. -/
import Derived.Test.YtakcojednmlheaaStFnExactDepthOf
import Derived.Test.YtakcojednmlheaaBase
namespace Go.Proofs.Ytakcojednmlheaa.Pure
open Go.RowKit Go.Proofs.Ytakcojednmlheaa.PFnExactDepthOf Go.Proofs.YtakcojednmlheaaW.PrintWords Go.Proofs.YtakcojednmlheaaW.PrintLast Go.Proofs.Ytakcojednmlheaa.Base
set_option linter.unusedVariables false
set_option linter.unusedSimpArgs false
/-! ### t_Entry -/
def wtEntry (x : S129) : Nat := x.f1.size + (0)
def wiEntry (x : S97) : Nat := x.f1.size + (0)
def wtEntryS (xs : List S129) : Nat := xs.length + sumBy wtEntry xs
def wiEntryS (xs : List S97) : Nat := xs.length + sumBy wiEntry xs
def cvEntry (x : S129) : S97 := ⟨x.f0, x.f1⟩
theorem wiEntry_cv (x : S129) : wiEntry (cvEntry x) = wtEntry x := by simp only [wiEntry, wtEntry, cvEntry]
theorem wiEntryS_cv (xs : List S129) : wiEntryS (xs.map cvEntry) = wtEntryS xs := by
  unfold wiEntryS wtEntryS sumBy
  rw [List.length_map, List.map_map, List.map_congr_left (f := wiEntry ∘ cvEntry) (g := wtEntry) (fun x _ => wiEntry_cv x)]
theorem rdlEntry (xs : List S129) (i : Nat) (h : i < xs.length) : rd_T129 xs (i : Int) = xs[i] := getD_at _ xs i h
theorem rdiEntry (xs : List S97) (i : Nat) (h : i < xs.length) : rd_T97 xs (i : Int) = xs[i] := getD_at _ xs i h
theorem szEntry_ev (x : S129) (hx : Wf129 x) (a : Int) (g0 : 0 ≤ a) (g1 : a ≤ 1048576) : Ev (fun k => laws_szEntry.f x.f0 x.f1 a) (left a (wtEntry x)) := by
  unfold laws_szEntry.f wtEntry
  have b1 := (hx.2)
  rw [w64 (x := a - (x.f1.size : Int)) (by omega) (by omega)]
  refine ev_sub a (by omega) (fun q1 => ?_)
  exact ev_now (left_zero (by omega)).symm
theorem szEntryS_l (xs : List S129) (hn : xs.length ≤ 1048576) (hw : ∀ y ∈ xs, Wf129 y) : ∀ (i : Nat) (a : Int), i ≤ xs.length → 0 ≤ a → a ≤ 1048576 → Ev (fun k => laws_szEntryS.l0 k xs a i) (left a (sumBy wtEntry (xs.drop i)))
  | i, a, hi, h0, h1 => by
    refine Ev.step (laws_szEntryS.l0.eq_2 _ _ _) ?_
    by_cases h : i < xs.length
    · refine ev_pos (by omega) (ev_pos (by omega) ?_)
      rw [rdlEntry xs i h, w64s i (by omega), drop_at xs i h, sumBy_cons]
      refine Ev.bind (szEntry_ev _ (hw _ (List.getElem_mem h)) a h0 h1) (ev_call (fun q => ?_))
      have := left_le q
      exact szEntryS_l xs hn hw (i + 1) _ (by omega) (by omega) (by omega)
    · refine ev_neg (by omega) (ev_now ?_)
      rw [List.drop_of_length_le (by omega), sumBy_nil, left_zero h0]
  termination_by i => xs.length - i
theorem szEntryS_ev (xs : List S129) (hb : xs.length ≤ 140737488351232) (hw : ∀ y ∈ xs, Wf129 y) (a : Int) (h0 : 0 ≤ a) (h1 : a ≤ 1048576) : Ev (fun k => laws_szEntryS.f k xs a) (left a (wtEntryS xs)) := by
  unfold laws_szEntryS.f wtEntryS
  rw [w64 (x := a - (xs.length : Int)) (by omega) (by omega)]
  refine ev_sub a h0 (fun q => ?_)
  have := szEntryS_l xs (by omega) hw 0 (a - xs.length) (by omega) (by omega) (by omega)
  rw [List.drop_zero] at this
  exact this

theorem toEntryS_l (xs : List S129) (hn : wtEntryS xs ≤ 1048576) : ∀ (i : Nat) (ys : List S97), i ≤ xs.length → ys.length = xs.length → ys.take i = (xs.map cvEntry).take i → Ev (fun k => laws_toEntryS.l0 k xs ys i) (xs.map cvEntry)
  | i, ys, hi, hl, ht => by
    have hn2 : xs.length ≤ 1048576 := by unfold wtEntryS at hn; omega
    refine Ev.step (laws_toEntryS.l0.eq_2 _ _ _) ?_
    by_cases h : i < xs.length
    · refine ev_pos (by omega) (ev_pos (by omega) ?_)
      have hx : wtEntry xs[i] ≤ 1048576 := by have := sumBy_mem (f := wtEntry) (List.getElem_mem h); unfold wtEntryS at hn; omega
      rw [rdlEntry xs i h, w64s i (by omega)]
      refine Ev.bind (ev_eq rfl) (ev_pos (by omega) ?_)
      rw [Int.toNat_natCast]
      exact toEntryS_l xs hn (i + 1) _ (by omega) (by simp [hl]) (take_set (by simp [hl]) ht (by simpa using h) (by simp [cvEntry]))
    · have : i = xs.length := by omega
      subst this
      exact ev_neg (by omega) (ev_now (take_all (by simp [hl]) (by simpa using ht)))
  termination_by i => xs.length - i
theorem toEntryS_ev (xs : List S129) (hn : wtEntryS xs ≤ 1048576) : Ev (fun k => laws_toEntryS.f k xs) (xs.map cvEntry) := by
  have hn2 : xs.length ≤ 1048576 := by unfold wtEntryS at hn; omega
  unfold laws_toEntryS.f
  exact ev_pos (by omega) (ev_pos (by omega) (toEntryS_l xs hn 0 _ (by omega) (by simp) (by simp)))

theorem eqEntry_ev (x : S97) : Ev (fun _ => laws_eqEntry.f x.f0 x.f1 x.f0 x.f1) true := ev_eq (by simp [laws_eqEntry.f])
theorem eqEntryS_l (xs : List S97) (hn : wiEntryS xs ≤ 4000000) : ∀ (i : Nat), i ≤ xs.length → Ev (fun k => laws_eqEntryS.l0 k xs xs i) true
  | i, hi => by
    have hn2 : xs.length ≤ 4000000 := by unfold wiEntryS at hn; omega
    refine Ev.step (laws_eqEntryS.l0.eq_2 _ _ _) ?_
    by_cases h : i < xs.length
    · refine ev_pos (by omega) (ev_pos (by omega) (ev_pos (by omega) ?_))
      rw [w64s i (by omega), rdiEntry xs i h]
      exact Ev.bind (eqEntry_ev _) (ev_pos rfl (eqEntryS_l xs hn (i + 1) (by omega)))
    · exact ev_neg (by omega) (ev_now rfl)
  termination_by i => xs.length - i
theorem eqEntryS_ev (xs : List S97) (hn : wiEntryS xs ≤ 4000000) : Ev (fun k => laws_eqEntryS.f k xs xs) true := by
  unfold laws_eqEntryS.f
  exact ev_pos rfl (eqEntryS_l xs hn 0 (by omega))


/-! ### t_Rec -/
def wtRec (x : S127) : Nat := x.f2.size + (0)
def wiRec (x : S99) : Nat := x.f2.size + (0)
def wtRecS (xs : List S127) : Nat := xs.length + sumBy wtRec xs
def wiRecS (xs : List S99) : Nat := xs.length + sumBy wiRec xs
def cvRec (x : S127) : S99 := ⟨x.f0, x.f1, x.f2⟩
theorem wiRec_cv (x : S127) : wiRec (cvRec x) = wtRec x := by simp only [wiRec, wtRec, cvRec]
theorem wiRecS_cv (xs : List S127) : wiRecS (xs.map cvRec) = wtRecS xs := by
  unfold wiRecS wtRecS sumBy
  rw [List.length_map, List.map_map, List.map_congr_left (f := wiRec ∘ cvRec) (g := wtRec) (fun x _ => wiRec_cv x)]
theorem rdlRec (xs : List S127) (i : Nat) (h : i < xs.length) : rd_T127 xs (i : Int) = xs[i] := getD_at _ xs i h
theorem rdiRec (xs : List S99) (i : Nat) (h : i < xs.length) : rd_T99 xs (i : Int) = xs[i] := getD_at _ xs i h
theorem szRec_ev (x : S127) (hx : Wf127 x) (a : Int) (g0 : 0 ≤ a) (g1 : a ≤ 1048576) : Ev (fun k => laws_szRec.f x.f0 x.f1 x.f2 a) (left a (wtRec x)) := by
  unfold laws_szRec.f wtRec
  have b2 := (hx.2.2)
  rw [w64 (x := a - (x.f2.size : Int)) (by omega) (by omega)]
  refine ev_sub a (by omega) (fun q2 => ?_)
  exact ev_now (left_zero (by omega)).symm
theorem szRecS_l (xs : List S127) (hn : xs.length ≤ 1048576) (hw : ∀ y ∈ xs, Wf127 y) : ∀ (i : Nat) (a : Int), i ≤ xs.length → 0 ≤ a → a ≤ 1048576 → Ev (fun k => laws_szRecS.l0 k xs a i) (left a (sumBy wtRec (xs.drop i)))
  | i, a, hi, h0, h1 => by
    refine Ev.step (laws_szRecS.l0.eq_2 _ _ _) ?_
    by_cases h : i < xs.length
    · refine ev_pos (by omega) (ev_pos (by omega) ?_)
      rw [rdlRec xs i h, w64s i (by omega), drop_at xs i h, sumBy_cons]
      refine Ev.bind (szRec_ev _ (hw _ (List.getElem_mem h)) a h0 h1) (ev_call (fun q => ?_))
      have := left_le q
      exact szRecS_l xs hn hw (i + 1) _ (by omega) (by omega) (by omega)
    · refine ev_neg (by omega) (ev_now ?_)
      rw [List.drop_of_length_le (by omega), sumBy_nil, left_zero h0]
  termination_by i => xs.length - i
theorem szRecS_ev (xs : List S127) (hb : xs.length ≤ 140737488351232) (hw : ∀ y ∈ xs, Wf127 y) (a : Int) (h0 : 0 ≤ a) (h1 : a ≤ 1048576) : Ev (fun k => laws_szRecS.f k xs a) (left a (wtRecS xs)) := by
  unfold laws_szRecS.f wtRecS
  rw [w64 (x := a - (xs.length : Int)) (by omega) (by omega)]
  refine ev_sub a h0 (fun q => ?_)
  have := szRecS_l xs (by omega) hw 0 (a - xs.length) (by omega) (by omega) (by omega)
  rw [List.drop_zero] at this
  exact this

theorem toRecS_l (xs : List S127) (hn : wtRecS xs ≤ 1048576) : ∀ (i : Nat) (ys : List S99), i ≤ xs.length → ys.length = xs.length → ys.take i = (xs.map cvRec).take i → Ev (fun k => laws_toRecS.l0 k xs ys i) (xs.map cvRec)
  | i, ys, hi, hl, ht => by
    have hn2 : xs.length ≤ 1048576 := by unfold wtRecS at hn; omega
    refine Ev.step (laws_toRecS.l0.eq_2 _ _ _) ?_
    by_cases h : i < xs.length
    · refine ev_pos (by omega) (ev_pos (by omega) ?_)
      have hx : wtRec xs[i] ≤ 1048576 := by have := sumBy_mem (f := wtRec) (List.getElem_mem h); unfold wtRecS at hn; omega
      rw [rdlRec xs i h, w64s i (by omega)]
      refine Ev.bind (ev_eq rfl) (ev_pos (by omega) ?_)
      rw [Int.toNat_natCast]
      exact toRecS_l xs hn (i + 1) _ (by omega) (by simp [hl]) (take_set (by simp [hl]) ht (by simpa using h) (by simp [cvRec]))
    · have : i = xs.length := by omega
      subst this
      exact ev_neg (by omega) (ev_now (take_all (by simp [hl]) (by simpa using ht)))
  termination_by i => xs.length - i
theorem toRecS_ev (xs : List S127) (hn : wtRecS xs ≤ 1048576) : Ev (fun k => laws_toRecS.f k xs) (xs.map cvRec) := by
  have hn2 : xs.length ≤ 1048576 := by unfold wtRecS at hn; omega
  unfold laws_toRecS.f
  exact ev_pos (by omega) (ev_pos (by omega) (toRecS_l xs hn 0 _ (by omega) (by simp) (by simp)))

theorem eqRec_ev (x : S99) : Ev (fun _ => laws_eqRec.f x.f0 x.f1 x.f2 x.f0 x.f1 x.f2) true := ev_eq (by simp [laws_eqRec.f])
theorem eqRecS_l (xs : List S99) (hn : wiRecS xs ≤ 4000000) : ∀ (i : Nat), i ≤ xs.length → Ev (fun k => laws_eqRecS.l0 k xs xs i) true
  | i, hi => by
    have hn2 : xs.length ≤ 4000000 := by unfold wiRecS at hn; omega
    refine Ev.step (laws_eqRecS.l0.eq_2 _ _ _) ?_
    by_cases h : i < xs.length
    · refine ev_pos (by omega) (ev_pos (by omega) (ev_pos (by omega) ?_))
      rw [w64s i (by omega), rdiRec xs i h]
      exact Ev.bind (eqRec_ev _) (ev_pos rfl (eqRecS_l xs hn (i + 1) (by omega)))
    · exact ev_neg (by omega) (ev_now rfl)
  termination_by i => xs.length - i
theorem eqRecS_ev (xs : List S99) (hn : wiRecS xs ≤ 4000000) : Ev (fun k => laws_eqRecS.f k xs xs) true := by
  unfold laws_eqRecS.f
  exact ev_pos rfl (eqRecS_l xs hn 0 (by omega))


/-! ### t_Inode -/
def wtInode (x : S59) : Nat := x.f3.size + (wtRecS x.f4 + (wtEntryS x.f5 + (0)))
def wiInode (x : S64) : Nat := x.f3.size + (wiRecS x.f4 + (wiEntryS x.f5 + (0)))
def wtInodeS (xs : List S59) : Nat := xs.length + sumBy wtInode xs
def wiInodeS (xs : List S64) : Nat := xs.length + sumBy wiInode xs
def cvInode (x : S59) : S64 := ⟨x.f0, x.f1, x.f2, x.f3, (x.f4.map cvRec), (x.f5.map cvEntry)⟩
theorem wiInode_cv (x : S59) : wiInode (cvInode x) = wtInode x := by simp only [wiInode, wtInode, cvInode, wiRecS_cv, wiEntryS_cv]
theorem wiInodeS_cv (xs : List S59) : wiInodeS (xs.map cvInode) = wtInodeS xs := by
  unfold wiInodeS wtInodeS sumBy
  rw [List.length_map, List.map_map, List.map_congr_left (f := wiInode ∘ cvInode) (g := wtInode) (fun x _ => wiInode_cv x)]
theorem rdlInode (xs : List S59) (i : Nat) (h : i < xs.length) : rd_T59 xs (i : Int) = xs[i] := getD_at _ xs i h
theorem rdiInode (xs : List S64) (i : Nat) (h : i < xs.length) : rd_T64 xs (i : Int) = xs[i] := getD_at _ xs i h
theorem szInode_ev (x : S59) (hx : Wf59 x) (a : Int) (g0 : 0 ≤ a) (g1 : a ≤ 1048576) : Ev (fun k => laws_szInode.f k x.f0 x.f1 x.f2 x.f3 x.f4 x.f5 a) (left a (wtInode x)) := by
  unfold laws_szInode.f wtInode
  have b3 := (hx.2.2.2.1)
  rw [w64 (x := a - (x.f3.size : Int)) (by omega) (by omega)]
  refine ev_sub a (by omega) (fun q3 => ?_)
  refine Ev.bind (szRecS_ev x.f4 (by have := ((hx.2.2.2.2.1)).1; omega) ((hx.2.2.2.2.1)).2 (a - (x.f3.size : Int)) (by omega) (by omega)) (ev_call (fun q4 => ?_))
  have r4 := left_le q4
  refine Ev.bind (szEntryS_ev x.f5 (by have := ((hx.2.2.2.2.2)).1; omega) ((hx.2.2.2.2.2)).2 (left (a - (x.f3.size : Int)) (wtRecS x.f4)) (by omega) (by omega)) (ev_call (fun q5 => ?_))
  have r5 := left_le q5
  exact ev_now (left_zero (by omega)).symm
theorem szInodeS_l (xs : List S59) (hn : xs.length ≤ 1048576) (hw : ∀ y ∈ xs, Wf59 y) : ∀ (i : Nat) (a : Int), i ≤ xs.length → 0 ≤ a → a ≤ 1048576 → Ev (fun k => laws_szInodeS.l0 k xs a i) (left a (sumBy wtInode (xs.drop i)))
  | i, a, hi, h0, h1 => by
    refine Ev.step (laws_szInodeS.l0.eq_2 _ _ _) ?_
    by_cases h : i < xs.length
    · refine ev_pos (by omega) (ev_pos (by omega) ?_)
      rw [rdlInode xs i h, w64s i (by omega), drop_at xs i h, sumBy_cons]
      refine Ev.bind (szInode_ev _ (hw _ (List.getElem_mem h)) a h0 h1) (ev_call (fun q => ?_))
      have := left_le q
      exact szInodeS_l xs hn hw (i + 1) _ (by omega) (by omega) (by omega)
    · refine ev_neg (by omega) (ev_now ?_)
      rw [List.drop_of_length_le (by omega), sumBy_nil, left_zero h0]
  termination_by i => xs.length - i
theorem szInodeS_ev (xs : List S59) (hb : xs.length ≤ 140737488351232) (hw : ∀ y ∈ xs, Wf59 y) (a : Int) (h0 : 0 ≤ a) (h1 : a ≤ 1048576) : Ev (fun k => laws_szInodeS.f k xs a) (left a (wtInodeS xs)) := by
  unfold laws_szInodeS.f wtInodeS
  rw [w64 (x := a - (xs.length : Int)) (by omega) (by omega)]
  refine ev_sub a h0 (fun q => ?_)
  have := szInodeS_l xs (by omega) hw 0 (a - xs.length) (by omega) (by omega) (by omega)
  rw [List.drop_zero] at this
  exact this

theorem toInode_ev (x : S59) (hw : wtInode x ≤ 1048576) : Ev (fun k => laws_toInode.f k x.f0 x.f1 x.f2 x.f3 x.f4 x.f5) (x.f0, x.f1, x.f2, x.f3, (x.f4.map cvRec), (x.f5.map cvEntry)) := by
  unfold wtInode at hw
  unfold laws_toInode.f
  refine Ev.bind (toRecS_ev x.f4 (by omega)) ?_
  refine Ev.bind (toEntryS_ev x.f5 (by omega)) ?_
  exact ev_now rfl
theorem toInodeS_l (xs : List S59) (hn : wtInodeS xs ≤ 1048576) : ∀ (i : Nat) (ys : List S64), i ≤ xs.length → ys.length = xs.length → ys.take i = (xs.map cvInode).take i → Ev (fun k => laws_toInodeS.l0 k xs ys i) (xs.map cvInode)
  | i, ys, hi, hl, ht => by
    have hn2 : xs.length ≤ 1048576 := by unfold wtInodeS at hn; omega
    refine Ev.step (laws_toInodeS.l0.eq_2 _ _ _) ?_
    by_cases h : i < xs.length
    · refine ev_pos (by omega) (ev_pos (by omega) ?_)
      have hx : wtInode xs[i] ≤ 1048576 := by have := sumBy_mem (f := wtInode) (List.getElem_mem h); unfold wtInodeS at hn; omega
      rw [rdlInode xs i h, w64s i (by omega)]
      refine Ev.bind (toInode_ev _ (by omega)) (ev_pos (by omega) ?_)
      rw [Int.toNat_natCast]
      exact toInodeS_l xs hn (i + 1) _ (by omega) (by simp [hl]) (take_set (by simp [hl]) ht (by simpa using h) (by simp [cvInode]))
    · have : i = xs.length := by omega
      subst this
      exact ev_neg (by omega) (ev_now (take_all (by simp [hl]) (by simpa using ht)))
  termination_by i => xs.length - i
theorem toInodeS_ev (xs : List S59) (hn : wtInodeS xs ≤ 1048576) : Ev (fun k => laws_toInodeS.f k xs) (xs.map cvInode) := by
  have hn2 : xs.length ≤ 1048576 := by unfold wtInodeS at hn; omega
  unfold laws_toInodeS.f
  exact ev_pos (by omega) (ev_pos (by omega) (toInodeS_l xs hn 0 _ (by omega) (by simp) (by simp)))

theorem eqInode_ev (x : S64) (hw : wiInode x ≤ 4000000) : Ev (fun k => laws_eqInode.f k x.f0 x.f1 x.f2 x.f3 x.f4 x.f5 x.f0 x.f1 x.f2 x.f3 x.f4 x.f5) true := by
  unfold wiInode at hw
  unfold laws_eqInode.f
  refine ev_pos rfl ?_
  refine ev_pos rfl ?_
  refine ev_pos rfl ?_
  refine ev_pos rfl ?_
  refine Ev.bind (eqRecS_ev x.f4 (by omega)) (ev_pos rfl ?_)
  refine Ev.bind (eqEntryS_ev x.f5 (by omega)) (ev_pos rfl ?_)
  exact ev_now rfl
theorem eqInodeS_l (xs : List S64) (hn : wiInodeS xs ≤ 4000000) : ∀ (i : Nat), i ≤ xs.length → Ev (fun k => laws_eqInodeS.l0 k xs xs i) true
  | i, hi => by
    have hn2 : xs.length ≤ 4000000 := by unfold wiInodeS at hn; omega
    refine Ev.step (laws_eqInodeS.l0.eq_2 _ _ _) ?_
    by_cases h : i < xs.length
    · refine ev_pos (by omega) (ev_pos (by omega) (ev_pos (by omega) ?_))
      rw [w64s i (by omega), rdiInode xs i h]
      exact Ev.bind (eqInode_ev _ (by have := sumBy_mem (f := wiInode) (List.getElem_mem h); unfold wiInodeS at hn; omega)) (ev_pos rfl (eqInodeS_l xs hn (i + 1) (by omega)))
    · exact ev_neg (by omega) (ev_now rfl)
  termination_by i => xs.length - i
theorem eqInodeS_ev (xs : List S64) (hn : wiInodeS xs ≤ 4000000) : Ev (fun k => laws_eqInodeS.f k xs xs) true := by
  unfold laws_eqInodeS.f
  exact ev_pos rfl (eqInodeS_l xs hn 0 (by omega))


/-! ### szints -/
theorem szIntS_ev (xs : List Int) (a : Int) (hb : xs.length ≤ 140737488351232) (h0 : 0 ≤ a) (h1 : a ≤ 1048576) : Ev (fun _ => laws_szIntS.f xs a) (left a xs.length) := by
  unfold laws_szIntS.f
  rw [w64 (x := a - (xs.length : Int)) (by omega) (by omega)]
  exact ev_to (ev_sub a h0 (fun q => ev_now (left_zero q).symm)) rfl


/-! ### toints -/
theorem toIntS_l (xs : List Int) (hn : xs.length ≤ 4000000) : ∀ (i : Nat) (ys : List Int), i ≤ xs.length → ys.length = xs.length → ys.take i = xs.take i →
    Ev (fun k => laws_toIntS.l0 k xs ys i) xs
  | i, ys, hi, hl, ht => by
    refine Ev.step (laws_toIntS.l0.eq_2 _ _ _) ?_
    by_cases h : i < xs.length
    · refine ev_pos (by omega) (ev_pos (by omega) (ev_pos (by omega) ?_))
      rw [rd_at xs i h, w64s i (by omega), Int.toNat_natCast]
      exact toIntS_l xs hn (i + 1) _ (by omega) (by simp [hl]) (take_set hl ht h rfl)
    · have : i = xs.length := by omega
      subst this
      exact ev_neg (by omega) (ev_now (take_all hl ht))
  termination_by i => xs.length - i
theorem toIntS_ev (xs : List Int) (hn : xs.length ≤ 4000000) : Ev (fun k => laws_toIntS.f k xs) xs := by
  unfold laws_toIntS.f
  exact ev_pos (by omega) (ev_pos (by omega) (toIntS_l xs hn 0 _ (by omega) (by simp) (by simp)))


/-! ### ints -/
theorem eqIntS_l (xs : List Int) (hn : xs.length ≤ 4000000) : ∀ (i : Nat), i ≤ xs.length → Ev (fun k => laws_eqIntS.l0 k xs xs i) true
  | i, hi => by
    refine Ev.step (laws_eqIntS.l0.eq_2 _ _ _) ?_
    by_cases h : i < xs.length
    · refine ev_pos (by omega) (ev_pos (by omega) (ev_pos (by omega) (ev_pos rfl ?_)))
      rw [w64s i (by omega)]
      exact eqIntS_l xs hn (i + 1) (by omega)
    · exact ev_neg (by omega) (ev_now rfl)
  termination_by i => xs.length - i
theorem eqIntS_ev (xs : List Int) (hn : xs.length ≤ 4000000) : Ev (fun k => laws_eqIntS.f k xs xs) true := by
  unfold laws_eqIntS.f
  exact ev_pos rfl (eqIntS_l xs hn 0 (by omega))


/-! ### t_Part -/
def wtPart (a0 : Int) (a1 : List Int) (a2 : List S59) : Nat := a1.length + (wtInodeS a2 + (0))
def wiPart (a0 : Int) (a1 : List Int) (a2 : List S64) : Nat := a1.length + (wiInodeS a2 + (0))
theorem szPart_ev (a0 : Int) (a1 : List Int) (a2 : List S59) (h1 : a1.length ≤ 140737488351232) (h2 : a2.length ≤ 140737488351232 ∧ ∀ y ∈ a2, Wf59 y) (a : Int) (g0 : 0 ≤ a) (g1 : a ≤ 1048576) : Ev (fun k => laws_szPart.f k a0 a1 a2 a) (left a (wtPart a0 a1 a2)) := by
  unfold laws_szPart.f wtPart
  have b1 := h1
  refine Ev.bind (szIntS_ev a1 a (by omega) (by omega) (by omega)) (ev_call (fun q1 => ?_))
  have r1 := left_le q1
  refine Ev.bind (szInodeS_ev a2 (by have := (h2).1; omega) (h2).2 (left a a1.length) (by omega) (by omega)) (ev_call (fun q2 => ?_))
  have r2 := left_le q2
  exact ev_now (left_zero (by omega)).symm

theorem toPart_ev (a0 : Int) (a1 : List Int) (a2 : List S59) (hw : wtPart a0 a1 a2 ≤ 1048576) : Ev (fun k => laws_toPart.f k a0 a1 a2) (a0, a1, (a2.map cvInode)) := by
  unfold wtPart at hw
  unfold laws_toPart.f
  refine Ev.bind (toIntS_ev a1 (by omega)) ?_
  refine Ev.bind (toInodeS_ev a2 (by omega)) ?_
  exact ev_now rfl

theorem eqPart_ev (a0 : Int) (a1 : List Int) (a2 : List S64) (hw : wiPart a0 a1 a2 ≤ 4000000) : Ev (fun k => laws_eqPart.f k a0 a1 a2 a0 a1 a2) true := by
  unfold wiPart at hw
  unfold laws_eqPart.f
  refine ev_pos rfl ?_
  refine Ev.bind (eqIntS_ev a1 (by omega)) (ev_pos rfl ?_)
  refine Ev.bind (eqInodeS_ev a2 (by omega)) (ev_pos rfl ?_)
  exact ev_now rfl


/-! ### wilen -/
theorem wi_len {xs : List S64} (hn : wiInodeS xs ≤ 4000000) (i : Nat) (h : i < xs.length) : xs.length ≤ 4000000 ∧ xs[i].f5.length ≤ 4000000 ∧ xs[i].f4.length ≤ 4000000 := by
  have h1 := sumBy_mem (f := wiInode) (List.getElem_mem h)
  have h2 : wiInode xs[i] = xs[i].f3.size + (wiRecS xs[i].f4 + (wiEntryS xs[i].f5 + 0)) := rfl
  have h3 : wiRecS xs[i].f4 = xs[i].f4.length + sumBy wiRec xs[i].f4 := rfl
  have h4 : wiEntryS xs[i].f5 = xs[i].f5.length + sumBy wiEntry xs[i].f5 := rfl
  unfold wiInodeS at hn
  omega

/-! ### above -/
def abE (i : Int) : List S97 → Option ByteArray
  | [] => none
  | e :: r => if e.f0 = i then some e.f1 else abE i r
/-- The first folder that links to an inode, from the inode numbered j on. -/
def abv (i : Int) : List S64 → Nat → Option (Nat × ByteArray)
  | [], _ => none
  | x :: r, j => if x.f0 = 2 then (match abE i x.f5 with | some e => some (j, e) | none => abv i r (j + 1)) else abv i r (j + 1)
theorem rdeE' (xs : List S97) (i : Nat) (h : i < xs.length) : rd_T97 xs (i : Int) = xs[i] := getD_at _ xs i h
theorem abv_lt (i : Int) : ∀ (xs : List S64) (j : Nat) (p : Nat × ByteArray), abv i xs j = some p → p.1 < j + xs.length
  | [], j, p, h => by simp [abv] at h
  | x :: r, j, p, h => by
    simp only [abv] at h
    split at h
    · split at h
      · injection h with h; subst h; simp
      · have := abv_lt i r (j + 1) p h; simp only [List.length_cons]; omega
    · have := abv_lt i r (j + 1) p h; simp only [List.length_cons]; omega

/-! ### above_i -/
def abvT (o : Option (Nat × ByteArray)) : Int × ByteArray × Bool := match o with | some p => (p.1, p.2, true) | none => (0, ⟨#[]⟩, false)
theorem iAb_1 (xs : List S64) (i : Int) (hn : wiInodeS xs ≤ 4000000) (j m : Nat) (hj : j < xs.length) (hm : m ≤ xs[j].f5.length) (next : Ev (fun k => impl_above.l0 k i xs xs.length (wrap64 (j + 1))) (abvT (abv i (xs.drop (j + 1)) (j + 1)))) : Ev (fun k => impl_above.l1 k i j xs xs.length j xs[j].f5 xs[j].f5.length m) (abvT (match abE i (xs[j].f5.drop m) with | some e => some (j, e) | none => abv i (xs.drop (j + 1)) (j + 1))) := by
  have hb := wi_len hn j hj
  refine Ev.step (impl_above.l1.eq_2 _ _ _ _ _ _ _ _) ?_
  by_cases h : m < xs[j].f5.length
  · refine ev_pos (by omega) (ev_pos (by omega) (ev_pos (by omega) ?_))
    rw [rdeE' _ m h, w64s m (by omega), drop_at _ m h]
    simp only [abE]
    by_cases he : xs[j].f5[m].f0 = i
    · rw [if_pos he]
      exact ev_pos he (ev_now rfl)
    · rw [if_neg he]
      exact ev_neg he (iAb_1 xs i hn j (m + 1) hj (by omega) next)
  · refine ev_neg (by omega) ?_
    rw [List.drop_of_length_le (show xs[j].f5.length ≤ m by omega)]
    exact next
termination_by xs[j].f5.length - m
theorem iAb_0 (xs : List S64) (i : Int) (hn : wiInodeS xs ≤ 4000000) (j : Nat) (hj : j ≤ xs.length) : Ev (fun k => impl_above.l0 k i xs xs.length j) (abvT (abv i (xs.drop j) j)) := by
  refine Ev.step (impl_above.l0.eq_2 _ _ _ _) ?_
  by_cases h : j < xs.length
  · refine ev_pos (by omega) (ev_pos (by omega) (ev_pos (by omega) ?_))
    rw [drop_at xs j h, rdiInode xs j h]
    simp only [abv]
    have next : Ev (fun k => impl_above.l0 k i xs xs.length (wrap64 (j + 1))) (abvT (abv i (xs.drop (j + 1)) (j + 1))) := by rw [w64s j (by have := (wi_len hn j h).1; omega)]; exact iAb_0 xs i hn (j + 1) (by omega)
    by_cases hk : xs[j].f0 = 2
    · rw [if_pos hk]
      refine ev_pos hk (ev_to (iAb_1 xs i hn j 0 h (by omega) next) ?_)
      rw [List.drop_zero]
    · rw [if_neg hk]
      exact ev_neg hk next
  · refine ev_neg (by omega) (ev_now ?_)
    rw [List.drop_of_length_le (by omega)]; rfl
termination_by xs.length - j
theorem iAbove_ev (a : Int) (b : List Int) (xs : List S64) (i : Int) (hn : wiInodeS xs ≤ 4000000) : Ev (fun k => impl_above.f k a b xs i) (abvT (abv i xs 0)) := by
  unfold impl_above.f
  have := iAb_0 xs i hn 0 (by omega)
  rw [List.drop_zero] at this
  exact this

/-! ### revs -/
theorem revs_l (xs : List ByteArray) (hn : xs.length ≤ 4000000) (i : Nat) (ys : List ByteArray) (hl : ys.length = xs.length) (hi : 2 * i ≤ xs.length + 1) (hy : ∀ p, p < xs.length → ys[p]? = if p < i ∨ xs.length ≤ p + i then xs[xs.length - 1 - p]? else xs[p]?) : Ev (fun k => slices_Reverse_string.l0 k ys i ((xs.length : Int) - 1 - i)) xs.reverse := by
  refine Ev.step (slices_Reverse_string.l0.eq_2 _ _ _) ?_
  by_cases h : (i : Int) < (xs.length : Int) - 1 - i
  · have hq : (xs.length : Int) - 1 - i = ((xs.length - 1 - i : Nat) : Int) := by omega
    refine ev_pos h (ev_pos (by omega) (ev_pos (by omega) (ev_pos (by omega) (ev_pos (by omega) ?_))))
    rw [w64s i (by omega), w64 (x := (xs.length : Int) - 1 - i - 1) (by omega) (by omega), hq, rdOf_at _ ys i (by omega), rdOf_at _ ys (xs.length - 1 - i) (by omega), show ((xs.length - 1 - i : Nat) : Int) - 1 = (xs.length : Int) - 1 - ((i + 1 : Nat) : Int) by omega, Int.toNat_natCast, Int.toNat_natCast]
    refine revs_l xs hn (i + 1) _ (by simp [hl]) (by omega) ?_
    intro p hp
    have e1 := hy i (by omega)
    have e2 := hy (xs.length - 1 - i) (by omega)
    rw [if_neg (by omega)] at e1 e2
    rw [List.getElem?_eq_getElem (by omega)] at e1 e2
    rw [List.getElem?_set]
    by_cases c : xs.length - 1 - i = p
    · subst c
      rw [if_pos rfl, if_pos (by simp; omega), if_pos (by omega), e1]
      congr 1; omega
    · rw [if_neg c, List.getElem?_set]
      by_cases d : i = p
      · subst d
        rw [if_pos rfl, if_pos (by omega), if_pos (by omega), e2]
      · rw [if_neg d, hy p hp]
        by_cases g : p < i ∨ xs.length ≤ p + i
        · rw [if_pos g, if_pos (by omega)]
        · rw [if_neg g, if_neg (by omega)]
  · refine ev_neg h (ev_now ?_)
    apply List.ext_getElem?
    intro p
    by_cases hp : p < xs.length
    · rw [hy p hp, List.getElem?_reverse hp]
      split
      · rfl
      · congr 1; omega
    · rw [List.getElem?_eq_none (by omega), List.getElem?_eq_none (by simp; omega)]
termination_by xs.length - 2 * i
theorem revs_ev (xs : List ByteArray) (hn : xs.length ≤ 4000000) : Ev (fun k => slices_Reverse_string.f k xs) xs.reverse := by
  unfold slices_Reverse_string.f
  rw [w64 (by omega) (by omega)]
  have := revs_l xs hn 0 xs rfl (by omega) (fun p hp => by rw [if_neg (by omega)])
  rw [Int.ofNat_zero, Int.sub_zero] at this
  exact this

/-! ### upwards -/
/-- The names above an inode, where f steps are left. -/
def upw (xs : List S64) (i : Int) (ns : List ByteArray) : Nat → List ByteArray × Bool
  | 0 => if i = 0 then (ns.reverse, true) else ([], false)
  | f + 1 => if i = 0 then (ns.reverse, true) else match abv i xs 0 with | some p => upw xs p.1 (ns ++ [p.2]) f | none => ([], false)
theorem upw_l (a : Int) (b : List Int) (xs : List S64) (hn : wiInodeS xs ≤ 4000000) : ∀ (f : Nat) (i : Int) (ns : List ByteArray), ns.length + f = xs.length → xs.length ≤ 4000000 → Ev (fun k => impl_upwards.l0 k i ns a b xs) (upw xs i ns f)
  | f, i, ns, hf, hx => by
    refine Ev.step (impl_upwards.l0.eq_2 _ _ _ _ _) ?_
    by_cases h : i = 0
    · refine ev_pos h (Ev.bind (revs_ev ns (by omega)) (ev_now ?_))
      cases f <;> simp only [upw, if_pos h]
    · refine ev_neg h (Ev.bind (iAbove_ev a b xs i hn) ?_)
      cases hb : abv i xs 0 with
      | none =>
        refine ev_neg (by simp [abvT]) (ev_now ?_)
        cases f <;> simp only [upw, if_neg h, hb]
      | some p =>
        refine ev_pos rfl ?_
        cases f with
        | zero =>
          refine ev_pos (by omega) (ev_now ?_)
          simp only [upw, if_neg h]
        | succ f =>
          refine ev_neg (by omega) (ev_pos (by omega) (ev_to (upw_l a b xs hn f p.1 (ns ++ [p.2]) (by simp; omega) hx) ?_))
          simp only [upw, if_neg h, hb]
  termination_by f => f
theorem upwards_ev (a : Int) (b : List Int) (xs : List S64) (i : Int) (hn : wiInodeS xs ≤ 4000000) (hx : xs.length ≤ 4000000) : Ev (fun k => impl_upwards.f k a b xs i) (upw xs i [] xs.length) := by
  unfold impl_upwards.f
  exact upw_l a b xs hn xs.length i [] (by simp) hx

/-! ### above_s -/
def abvI (o : Option (Nat × ByteArray)) : Int := match o with | some p => p.1 | none => -1
theorem sAb_1 (xs : List S64) (a : Int) (b : List Int) (i : Int) (hn : wiInodeS xs ≤ 4000000) (j m : Nat) (hj : j < xs.length) (hm : m ≤ xs[j].f5.length) (next : Ev (fun k => spec_l14Above.l0 k i (wrap64 (j + 1)) a b xs) (abvI (abv i (xs.drop (j + 1)) (j + 1)))) : Ev (fun k => spec_l14Above.l1 k i j m a b xs) (abvI (if xs[j].f0 = 2 then (match abE i (xs[j].f5.drop m) with | some e => some (j, e) | none => abv i (xs.drop (j + 1)) (j + 1)) else abv i (xs.drop (j + 1)) (j + 1))) := by
  have hb := wi_len hn j hj
  refine Ev.step (spec_l14Above.l1.eq_2 _ _ _ _ _ _) ?_
  refine ev_pos (by omega) (ev_pos (by omega) ?_)
  rw [rdiInode xs j hj]
  by_cases hk : xs[j].f0 = 2
  · rw [if_pos hk]
    by_cases h : m < xs[j].f5.length
    · refine ev_pos (by omega) ?_
      refine Ev.step (spec_l14Above.j2.eq_2 _ _ _ _ _ _ _) ?_
      refine ev_pos (by simp [hk]) (ev_pos (by omega) (ev_pos (by omega) (ev_pos (by omega) ?_)))
      rw [rdiInode xs j hj]
      refine ev_pos (by omega) ?_
      rw [rdeE' _ m h, w64s m (by omega), drop_at _ m h]
      simp only [abE]
      by_cases he : xs[j].f5[m].f0 = i
      · rw [if_pos he]
        exact ev_pos he (ev_now rfl)
      · rw [if_neg he]
        refine ev_neg he (ev_to (sAb_1 xs a b i hn j (m + 1) hj (by omega) next) ?_)
        rw [if_pos hk]
    · refine ev_neg (by omega) ?_
      refine Ev.step (spec_l14Above.j2.eq_2 _ _ _ _ _ _ _) ?_
      refine ev_neg (by simp) ?_
      rw [List.drop_of_length_le (show xs[j].f5.length ≤ m by omega)]
      exact next
  · rw [if_neg hk]
    by_cases h : m < xs[j].f5.length
    · refine ev_pos (by omega) ?_
      refine Ev.step (spec_l14Above.j2.eq_2 _ _ _ _ _ _ _) ?_
      exact ev_neg (by simp [hk]) next
    · refine ev_neg (by omega) ?_
      refine Ev.step (spec_l14Above.j2.eq_2 _ _ _ _ _ _ _) ?_
      exact ev_neg (by simp) next
termination_by xs[j].f5.length - m
theorem sAb_0 (xs : List S64) (a : Int) (b : List Int) (i : Int) (hn : wiInodeS xs ≤ 4000000) (j : Nat) (hj : j ≤ xs.length) : Ev (fun k => spec_l14Above.l0 k i j a b xs) (abvI (abv i (xs.drop j) j)) := by
  refine Ev.step (spec_l14Above.l0.eq_2 _ _ _ _ _) ?_
  by_cases h : j < xs.length
  · refine ev_pos (by omega) ?_
    rw [drop_at xs j h]
    simp only [abv]
    refine ev_to (sAb_1 xs a b i hn j 0 h (by omega) (by rw [w64s j (by have := (wi_len hn j h).1; omega)]; exact sAb_0 xs a b i hn (j + 1) (by omega))) ?_
    rw [List.drop_zero]
  · refine ev_neg (by omega) (ev_now ?_)
    rw [List.drop_of_length_le (by omega)]; rfl
termination_by xs.length - j
theorem sAbove_ev (a : Int) (b : List Int) (xs : List S64) (i : Int) (hn : wiInodeS xs ≤ 4000000) : Ev (fun k => spec_l14Above.f k a b xs i) (abvI (abv i xs 0)) := by
  unfold spec_l14Above.f
  have := sAb_0 xs a b i hn 0 (by omega)
  rw [List.drop_zero] at this
  exact this

/-! ### depth -/
def dpt (xs : List S64) (i : Int) (n : Nat) : Nat → Int
  | 0 => if i = 0 then n else -1
  | f + 1 => if i = 0 then n else match abv i xs 0 with | some p => dpt xs p.1 (n + 1) f | none => -1
theorem dpt_upw (xs : List S64) : ∀ (f : Nat) (i : Int) (ns : List ByteArray), dpt xs i ns.length f = if (upw xs i ns f).2 = true then ((upw xs i ns f).1.length : Int) else -1
  | 0, i, ns => by
    simp only [dpt, upw]
    by_cases h : i = 0
    · simp [if_pos h]
    · simp [if_neg h]
  | f + 1, i, ns => by
    simp only [dpt, upw]
    by_cases h : i = 0
    · simp [if_pos h]
    · simp only [if_neg h]
      cases hb : abv i xs 0 with
      | none => simp
      | some p => simpa using dpt_upw xs f p.1 (ns ++ [p.2])
theorem sDepth_l (a : Int) (b : List Int) (xs : List S64) (hn : wiInodeS xs ≤ 4000000) : ∀ (f : Nat) (i : Int) (n : Nat), n + f = xs.length → xs.length ≤ 4000000 → Ev (fun k => spec_DepthOf.l0 k i n a b xs) (dpt xs i n f)
  | f, i, n, hf, hx => by
    refine Ev.step (spec_DepthOf.l0.eq_2 _ _ _ _ _) ?_
    refine ev_pos (by omega) ?_
    by_cases h : i = 0
    · refine ev_pos h (ev_now ?_)
      cases f <;> simp only [dpt, if_pos h]
    · refine ev_neg h (Ev.bind (sAbove_ev a b xs i hn) ?_)
      cases hb : abv i xs 0 with
      | none =>
        refine ev_pos (by simp [abvI]) (ev_now ?_)
        cases f <;> simp only [dpt, if_neg h, hb]
      | some p =>
        refine ev_neg (by simp only [abvI]; omega) ?_
        simp only [abvI]
        rw [w64s n (by omega)]
        cases f with
        | zero =>
          refine Ev.step (spec_DepthOf.l0.eq_2 _ _ _ _ _) ?_
          refine ev_neg (by omega) (ev_now ?_)
          simp only [dpt, if_neg h]
        | succ f =>
          refine ev_to (sDepth_l a b xs hn f p.1 (n + 1) (by omega) hx) ?_
          simp only [dpt, if_neg h, hb]
  termination_by f => f
theorem sDepth_ev (a : Int) (b : List Int) (xs : List S64) (i : Int) (hn : wiInodeS xs ≤ 4000000) (hx : xs.length ≤ 4000000) : Ev (fun k => spec_DepthOf.f k a b xs i) (dpt xs i 0 xs.length) := by
  unfold spec_DepthOf.f
  exact sDepth_l a b xs hn xs.length i 0 (by omega) hx
theorem iDepth_ev (a : Int) (b : List Int) (xs : List S64) (i : Int) (hn : wiInodeS xs ≤ 4000000) (hx : xs.length ≤ 4000000) : Ev (fun k => impl_DepthOf.f k a b xs i) (dpt xs i 0 xs.length) := by
  unfold impl_DepthOf.f
  refine Ev.bind (upwards_ev a b xs i hn hx) ?_
  rw [show dpt xs i 0 xs.length = dpt xs i ([] : List ByteArray).length xs.length from rfl, dpt_upw]
  by_cases h : (upw xs i [] xs.length).2 = true
  · exact ev_pos h (ev_now (if_pos h).symm)
  · exact ev_neg h (ev_now (if_neg h).symm)

/-! ### FnExactDepthOf -/
theorem FnExactDepthOf : laws_FnExactDepthOf.Law := by
  intro a b xs i _ hb hx _
  apply Ev.rounds
  unfold laws_FnExactDepthOf.f
  refine Ev.bind (szPart_ev a b xs (by omega) ⟨by omega, hx.2⟩ 1048576 (by omega) (by omega)) ?_
  by_cases h : left 1048576 (wtPart a b xs) < 0
  · exact ev_pos h (ev_now rfl)
  have hw := (left_le (a := 1048576) (t := wtPart a b xs) (by omega)).1
  have hi : wiPart a b (xs.map cvInode) = wtPart a b xs := by simp only [wiPart, wtPart, wiInodeS_cv]
  have hn : wiInodeS (xs.map cvInode) ≤ 4000000 := by rw [wiInodeS_cv]; unfold wtPart at hw; omega
  have hl : (xs.map cvInode).length ≤ 4000000 := by unfold wiInodeS at hn; omega
  refine ev_neg h ?_
  repeat' first
    | (with_reducible exact ev_now rfl)
    | (with_reducible refine Ev.bind (toPart_ev a b xs (by omega)) ?_)
    | (with_reducible refine Ev.bind (sDepth_ev _ _ _ _ hn hl) ?_)
    | (with_reducible refine Ev.bind (iDepth_ev _ _ _ _ hn hl) ?_)
    | (with_reducible refine Ev.bind (eqPart_ev a b (xs.map cvInode) (by omega)) ?_)
    | (with_reducible refine ev_pos rfl ?_)
    | ((with_reducible refine ev_pos ?c_ ?_); (case c_ => first | rfl | omega | (dsimp only; omega) | (simp only [decide_eq_true_eq]; omega) | (simp; done)))
    | ((with_reducible refine ev_neg ?c_ ?_); (case c_ => first | rfl | omega | (dsimp only; omega) | (simp only [decide_eq_true_eq]; omega) | (simp; done)))
    | ((with_reducible refine ev_now ?c_); (case c_ => first | rfl | (simp; done)))

end Go.Proofs.Ytakcojednmlheaa.Pure
