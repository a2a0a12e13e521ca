/- The pure statement of FnExactFits is proved: for all arguments within the row's own bounds the Lean function that the law's walk comes to answers true. Conditions: none beyond these bounds. -/
import Derived.Test.YtcdnfkoahajhhaaStFnExactFits
import Derived.Test.YtcdnfkoahajhhaaBase
namespace Go.Proofs.Ytcdnfkoahajhhaa.Pure
open Go.RowKit Go.Proofs.Ytcdnfkoahajhhaa.PFnExactFits Go.Proofs.YtcdnfkoahajhhaaW.PrintWords Go.Proofs.YtcdnfkoahajhhaaW.PrintLast Go.Proofs.Ytcdnfkoahajhhaa.Base
set_option linter.unusedVariables false
set_option linter.unusedSimpArgs false
/-! ### t_Entry -/
def wtEntry (x : S56) : Nat := x.f1.size + (0)
def wiEntry (x : S59) : Nat := x.f1.size + (0)
def wtEntryS (xs : List S56) : Nat := xs.length + sumBy wtEntry xs
def wiEntryS (xs : List S59) : Nat := xs.length + sumBy wiEntry xs
def cvEntry (x : S56) : S59 := ⟨x.f0, x.f1⟩
theorem wiEntry_cv (x : S56) : wiEntry (cvEntry x) = wtEntry x := by simp only [wiEntry, wtEntry, cvEntry]
theorem wiEntryS_cv (xs : List S56) : wiEntryS (xs.map cvEntry) = wtEntryS xs := by
  unfold wiEntryS wtEntryS sumBy
  rw [List.length_map, List.map_map, List.map_congr_left (f := wiEntry ∘ cvEntry) (g := wtEntry) (fun x _ => wiEntry_cv x)]
theorem rdlEntry (xs : List S56) (i : Nat) (h : i < xs.length) : rd_T56 xs (i : Int) = xs[i] := getD_at _ xs i h
theorem rdiEntry (xs : List S59) (i : Nat) (h : i < xs.length) : rd_T59 xs (i : Int) = xs[i] := getD_at _ xs i h
theorem szEntry_ev (x : S56) (hx : Wf56 x) (a : Int) (g0 : 0 ≤ a) (g1 : a ≤ 1048576) : Ev (fun k => laws_szEntry.f x.f0 x.f1 a) (left a (wtEntry x)) := by
  unfold laws_szEntry.f wtEntry
  have b1 := (hx.2)
  rw [w64 (x := a - (x.f1.size : Int)) (by omega) (by omega)]
  refine ev_sub a (by omega) (fun q1 => ?_)
  exact ev_now (left_zero (by omega)).symm
theorem szEntryS_l (xs : List S56) (hn : xs.length ≤ 1048576) (hw : ∀ y ∈ xs, Wf56 y) : ∀ (i : Nat) (a : Int), i ≤ xs.length → 0 ≤ a → a ≤ 1048576 → Ev (fun k => laws_szEntryS.l0 k xs a i) (left a (sumBy wtEntry (xs.drop i)))
  | i, a, hi, h0, h1 => by
    refine Ev.step (laws_szEntryS.l0.eq_2 _ _ _) ?_
    by_cases h : i < xs.length
    · refine ev_pos (by omega) (ev_pos (by omega) ?_)
      rw [rdlEntry xs i h, w64s i (by omega), drop_at xs i h, sumBy_cons]
      refine Ev.bind (szEntry_ev _ (hw _ (List.getElem_mem h)) a h0 h1) (ev_call (fun q => ?_))
      have := left_le q
      exact szEntryS_l xs hn hw (i + 1) _ (by omega) (by omega) (by omega)
    · refine ev_neg (by omega) (ev_now ?_)
      rw [List.drop_of_length_le (by omega), sumBy_nil, left_zero h0]
  termination_by i => xs.length - i
theorem szEntryS_ev (xs : List S56) (hb : xs.length ≤ 140737488351232) (hw : ∀ y ∈ xs, Wf56 y) (a : Int) (h0 : 0 ≤ a) (h1 : a ≤ 1048576) : Ev (fun k => laws_szEntryS.f k xs a) (left a (wtEntryS xs)) := by
  unfold laws_szEntryS.f wtEntryS
  rw [w64 (x := a - (xs.length : Int)) (by omega) (by omega)]
  refine ev_sub a h0 (fun q => ?_)
  have := szEntryS_l xs (by omega) hw 0 (a - xs.length) (by omega) (by omega) (by omega)
  rw [List.drop_zero] at this
  exact this

theorem toEntryS_l (xs : List S56) (hn : wtEntryS xs ≤ 1048576) : ∀ (i : Nat) (ys : List S59), i ≤ xs.length → ys.length = xs.length → ys.take i = (xs.map cvEntry).take i → Ev (fun k => laws_toEntryS.l0 k xs ys i) (xs.map cvEntry)
  | i, ys, hi, hl, ht => by
    have hn2 : xs.length ≤ 1048576 := by unfold wtEntryS at hn; omega
    refine Ev.step (laws_toEntryS.l0.eq_2 _ _ _) ?_
    by_cases h : i < xs.length
    · refine ev_pos (by omega) (ev_pos (by omega) ?_)
      have hx : wtEntry xs[i] ≤ 1048576 := by have := sumBy_mem (f := wtEntry) (List.getElem_mem h); unfold wtEntryS at hn; omega
      rw [rdlEntry xs i h, w64s i (by omega)]
      refine Ev.bind (ev_eq rfl) (ev_pos (by omega) ?_)
      rw [Int.toNat_natCast]
      exact toEntryS_l xs hn (i + 1) _ (by omega) (by simp [hl]) (take_set (by simp [hl]) ht (by simpa using h) (by simp [cvEntry]))
    · have : i = xs.length := by omega
      subst this
      exact ev_neg (by omega) (ev_now (take_all (by simp [hl]) (by simpa using ht)))
  termination_by i => xs.length - i
theorem toEntryS_ev (xs : List S56) (hn : wtEntryS xs ≤ 1048576) : Ev (fun k => laws_toEntryS.f k xs) (xs.map cvEntry) := by
  have hn2 : xs.length ≤ 1048576 := by unfold wtEntryS at hn; omega
  unfold laws_toEntryS.f
  exact ev_pos (by omega) (ev_pos (by omega) (toEntryS_l xs hn 0 _ (by omega) (by simp) (by simp)))

theorem eqEntry_ev (x : S59) : Ev (fun _ => laws_eqEntry.f x.f0 x.f1 x.f0 x.f1) true := ev_eq (by simp [laws_eqEntry.f])
theorem eqEntryS_l (xs : List S59) (hn : wiEntryS xs ≤ 4000000) : ∀ (i : Nat), i ≤ xs.length → Ev (fun k => laws_eqEntryS.l0 k xs xs i) true
  | i, hi => by
    have hn2 : xs.length ≤ 4000000 := by unfold wiEntryS at hn; omega
    refine Ev.step (laws_eqEntryS.l0.eq_2 _ _ _) ?_
    by_cases h : i < xs.length
    · refine ev_pos (by omega) (ev_pos (by omega) (ev_pos (by omega) ?_))
      rw [w64s i (by omega), rdiEntry xs i h]
      exact Ev.bind (eqEntry_ev _) (ev_pos rfl (eqEntryS_l xs hn (i + 1) (by omega)))
    · exact ev_neg (by omega) (ev_now rfl)
  termination_by i => xs.length - i
theorem eqEntryS_ev (xs : List S59) (hn : wiEntryS xs ≤ 4000000) : Ev (fun k => laws_eqEntryS.f k xs xs) true := by
  unfold laws_eqEntryS.f
  exact ev_pos rfl (eqEntryS_l xs hn 0 (by omega))


/-! ### t_Rec -/
def wtRec (x : S181) : Nat := x.f2.size + (0)
def wiRec (x : S170) : Nat := x.f2.size + (0)
def wtRecS (xs : List S181) : Nat := xs.length + sumBy wtRec xs
def wiRecS (xs : List S170) : Nat := xs.length + sumBy wiRec xs
def cvRec (x : S181) : S170 := ⟨x.f0, x.f1, x.f2⟩
theorem wiRec_cv (x : S181) : wiRec (cvRec x) = wtRec x := by simp only [wiRec, wtRec, cvRec]
theorem wiRecS_cv (xs : List S181) : wiRecS (xs.map cvRec) = wtRecS xs := by
  unfold wiRecS wtRecS sumBy
  rw [List.length_map, List.map_map, List.map_congr_left (f := wiRec ∘ cvRec) (g := wtRec) (fun x _ => wiRec_cv x)]
theorem rdlRec (xs : List S181) (i : Nat) (h : i < xs.length) : rd_T181 xs (i : Int) = xs[i] := getD_at _ xs i h
theorem rdiRec (xs : List S170) (i : Nat) (h : i < xs.length) : rd_T170 xs (i : Int) = xs[i] := getD_at _ xs i h
theorem szRec_ev (x : S181) (hx : Wf181 x) (a : Int) (g0 : 0 ≤ a) (g1 : a ≤ 1048576) : Ev (fun k => laws_szRec.f x.f0 x.f1 x.f2 a) (left a (wtRec x)) := by
  unfold laws_szRec.f wtRec
  have b2 := (hx.2.2)
  rw [w64 (x := a - (x.f2.size : Int)) (by omega) (by omega)]
  refine ev_sub a (by omega) (fun q2 => ?_)
  exact ev_now (left_zero (by omega)).symm
theorem szRecS_l (xs : List S181) (hn : xs.length ≤ 1048576) (hw : ∀ y ∈ xs, Wf181 y) : ∀ (i : Nat) (a : Int), i ≤ xs.length → 0 ≤ a → a ≤ 1048576 → Ev (fun k => laws_szRecS.l0 k xs a i) (left a (sumBy wtRec (xs.drop i)))
  | i, a, hi, h0, h1 => by
    refine Ev.step (laws_szRecS.l0.eq_2 _ _ _) ?_
    by_cases h : i < xs.length
    · refine ev_pos (by omega) (ev_pos (by omega) ?_)
      rw [rdlRec xs i h, w64s i (by omega), drop_at xs i h, sumBy_cons]
      refine Ev.bind (szRec_ev _ (hw _ (List.getElem_mem h)) a h0 h1) (ev_call (fun q => ?_))
      have := left_le q
      exact szRecS_l xs hn hw (i + 1) _ (by omega) (by omega) (by omega)
    · refine ev_neg (by omega) (ev_now ?_)
      rw [List.drop_of_length_le (by omega), sumBy_nil, left_zero h0]
  termination_by i => xs.length - i
theorem szRecS_ev (xs : List S181) (hb : xs.length ≤ 140737488351232) (hw : ∀ y ∈ xs, Wf181 y) (a : Int) (h0 : 0 ≤ a) (h1 : a ≤ 1048576) : Ev (fun k => laws_szRecS.f k xs a) (left a (wtRecS xs)) := by
  unfold laws_szRecS.f wtRecS
  rw [w64 (x := a - (xs.length : Int)) (by omega) (by omega)]
  refine ev_sub a h0 (fun q => ?_)
  have := szRecS_l xs (by omega) hw 0 (a - xs.length) (by omega) (by omega) (by omega)
  rw [List.drop_zero] at this
  exact this

theorem toRecS_l (xs : List S181) (hn : wtRecS xs ≤ 1048576) : ∀ (i : Nat) (ys : List S170), i ≤ xs.length → ys.length = xs.length → ys.take i = (xs.map cvRec).take i → Ev (fun k => laws_toRecS.l0 k xs ys i) (xs.map cvRec)
  | i, ys, hi, hl, ht => by
    have hn2 : xs.length ≤ 1048576 := by unfold wtRecS at hn; omega
    refine Ev.step (laws_toRecS.l0.eq_2 _ _ _) ?_
    by_cases h : i < xs.length
    · refine ev_pos (by omega) (ev_pos (by omega) ?_)
      have hx : wtRec xs[i] ≤ 1048576 := by have := sumBy_mem (f := wtRec) (List.getElem_mem h); unfold wtRecS at hn; omega
      rw [rdlRec xs i h, w64s i (by omega)]
      refine Ev.bind (ev_eq rfl) (ev_pos (by omega) ?_)
      rw [Int.toNat_natCast]
      exact toRecS_l xs hn (i + 1) _ (by omega) (by simp [hl]) (take_set (by simp [hl]) ht (by simpa using h) (by simp [cvRec]))
    · have : i = xs.length := by omega
      subst this
      exact ev_neg (by omega) (ev_now (take_all (by simp [hl]) (by simpa using ht)))
  termination_by i => xs.length - i
theorem toRecS_ev (xs : List S181) (hn : wtRecS xs ≤ 1048576) : Ev (fun k => laws_toRecS.f k xs) (xs.map cvRec) := by
  have hn2 : xs.length ≤ 1048576 := by unfold wtRecS at hn; omega
  unfold laws_toRecS.f
  exact ev_pos (by omega) (ev_pos (by omega) (toRecS_l xs hn 0 _ (by omega) (by simp) (by simp)))

theorem eqRec_ev (x : S170) : Ev (fun _ => laws_eqRec.f x.f0 x.f1 x.f2 x.f0 x.f1 x.f2) true := ev_eq (by simp [laws_eqRec.f])
theorem eqRecS_l (xs : List S170) (hn : wiRecS xs ≤ 4000000) : ∀ (i : Nat), i ≤ xs.length → Ev (fun k => laws_eqRecS.l0 k xs xs i) true
  | i, hi => by
    have hn2 : xs.length ≤ 4000000 := by unfold wiRecS at hn; omega
    refine Ev.step (laws_eqRecS.l0.eq_2 _ _ _) ?_
    by_cases h : i < xs.length
    · refine ev_pos (by omega) (ev_pos (by omega) (ev_pos (by omega) ?_))
      rw [w64s i (by omega), rdiRec xs i h]
      exact Ev.bind (eqRec_ev _) (ev_pos rfl (eqRecS_l xs hn (i + 1) (by omega)))
    · exact ev_neg (by omega) (ev_now rfl)
  termination_by i => xs.length - i
theorem eqRecS_ev (xs : List S170) (hn : wiRecS xs ≤ 4000000) : Ev (fun k => laws_eqRecS.f k xs xs) true := by
  unfold laws_eqRecS.f
  exact ev_pos rfl (eqRecS_l xs hn 0 (by omega))


/-! ### t_Inode -/
def wtInode (x : S44) : Nat := x.f3.size + (wtRecS x.f4 + (wtEntryS x.f5 + (0)))
def wiInode (x : S49) : Nat := x.f3.size + (wiRecS x.f4 + (wiEntryS x.f5 + (0)))
def wtInodeS (xs : List S44) : Nat := xs.length + sumBy wtInode xs
def wiInodeS (xs : List S49) : Nat := xs.length + sumBy wiInode xs
def cvInode (x : S44) : S49 := ⟨x.f0, x.f1, x.f2, x.f3, (x.f4.map cvRec), (x.f5.map cvEntry)⟩
theorem wiInode_cv (x : S44) : wiInode (cvInode x) = wtInode x := by simp only [wiInode, wtInode, cvInode, wiRecS_cv, wiEntryS_cv]
theorem wiInodeS_cv (xs : List S44) : wiInodeS (xs.map cvInode) = wtInodeS xs := by
  unfold wiInodeS wtInodeS sumBy
  rw [List.length_map, List.map_map, List.map_congr_left (f := wiInode ∘ cvInode) (g := wtInode) (fun x _ => wiInode_cv x)]
theorem rdlInode (xs : List S44) (i : Nat) (h : i < xs.length) : rd_T44 xs (i : Int) = xs[i] := getD_at _ xs i h
theorem rdiInode (xs : List S49) (i : Nat) (h : i < xs.length) : rd_T49 xs (i : Int) = xs[i] := getD_at _ xs i h
theorem szInode_ev (x : S44) (hx : Wf44 x) (a : Int) (g0 : 0 ≤ a) (g1 : a ≤ 1048576) : Ev (fun k => laws_szInode.f k x.f0 x.f1 x.f2 x.f3 x.f4 x.f5 a) (left a (wtInode x)) := by
  unfold laws_szInode.f wtInode
  have b3 := (hx.2.2.2.1)
  rw [w64 (x := a - (x.f3.size : Int)) (by omega) (by omega)]
  refine ev_sub a (by omega) (fun q3 => ?_)
  refine Ev.bind (szRecS_ev x.f4 (by have := ((hx.2.2.2.2.1)).1; omega) ((hx.2.2.2.2.1)).2 (a - (x.f3.size : Int)) (by omega) (by omega)) (ev_call (fun q4 => ?_))
  have r4 := left_le q4
  refine Ev.bind (szEntryS_ev x.f5 (by have := ((hx.2.2.2.2.2)).1; omega) ((hx.2.2.2.2.2)).2 (left (a - (x.f3.size : Int)) (wtRecS x.f4)) (by omega) (by omega)) (ev_call (fun q5 => ?_))
  have r5 := left_le q5
  exact ev_now (left_zero (by omega)).symm
theorem szInodeS_l (xs : List S44) (hn : xs.length ≤ 1048576) (hw : ∀ y ∈ xs, Wf44 y) : ∀ (i : Nat) (a : Int), i ≤ xs.length → 0 ≤ a → a ≤ 1048576 → Ev (fun k => laws_szInodeS.l0 k xs a i) (left a (sumBy wtInode (xs.drop i)))
  | i, a, hi, h0, h1 => by
    refine Ev.step (laws_szInodeS.l0.eq_2 _ _ _) ?_
    by_cases h : i < xs.length
    · refine ev_pos (by omega) (ev_pos (by omega) ?_)
      rw [rdlInode xs i h, w64s i (by omega), drop_at xs i h, sumBy_cons]
      refine Ev.bind (szInode_ev _ (hw _ (List.getElem_mem h)) a h0 h1) (ev_call (fun q => ?_))
      have := left_le q
      exact szInodeS_l xs hn hw (i + 1) _ (by omega) (by omega) (by omega)
    · refine ev_neg (by omega) (ev_now ?_)
      rw [List.drop_of_length_le (by omega), sumBy_nil, left_zero h0]
  termination_by i => xs.length - i
theorem szInodeS_ev (xs : List S44) (hb : xs.length ≤ 140737488351232) (hw : ∀ y ∈ xs, Wf44 y) (a : Int) (h0 : 0 ≤ a) (h1 : a ≤ 1048576) : Ev (fun k => laws_szInodeS.f k xs a) (left a (wtInodeS xs)) := by
  unfold laws_szInodeS.f wtInodeS
  rw [w64 (x := a - (xs.length : Int)) (by omega) (by omega)]
  refine ev_sub a h0 (fun q => ?_)
  have := szInodeS_l xs (by omega) hw 0 (a - xs.length) (by omega) (by omega) (by omega)
  rw [List.drop_zero] at this
  exact this

theorem toInode_ev (x : S44) (hw : wtInode x ≤ 1048576) : Ev (fun k => laws_toInode.f k x.f0 x.f1 x.f2 x.f3 x.f4 x.f5) (x.f0, x.f1, x.f2, x.f3, (x.f4.map cvRec), (x.f5.map cvEntry)) := by
  unfold wtInode at hw
  unfold laws_toInode.f
  refine Ev.bind (toRecS_ev x.f4 (by omega)) ?_
  refine Ev.bind (toEntryS_ev x.f5 (by omega)) ?_
  exact ev_now rfl
theorem toInodeS_l (xs : List S44) (hn : wtInodeS xs ≤ 1048576) : ∀ (i : Nat) (ys : List S49), i ≤ xs.length → ys.length = xs.length → ys.take i = (xs.map cvInode).take i → Ev (fun k => laws_toInodeS.l0 k xs ys i) (xs.map cvInode)
  | i, ys, hi, hl, ht => by
    have hn2 : xs.length ≤ 1048576 := by unfold wtInodeS at hn; omega
    refine Ev.step (laws_toInodeS.l0.eq_2 _ _ _) ?_
    by_cases h : i < xs.length
    · refine ev_pos (by omega) (ev_pos (by omega) ?_)
      have hx : wtInode xs[i] ≤ 1048576 := by have := sumBy_mem (f := wtInode) (List.getElem_mem h); unfold wtInodeS at hn; omega
      rw [rdlInode xs i h, w64s i (by omega)]
      refine Ev.bind (toInode_ev _ (by omega)) (ev_pos (by omega) ?_)
      rw [Int.toNat_natCast]
      exact toInodeS_l xs hn (i + 1) _ (by omega) (by simp [hl]) (take_set (by simp [hl]) ht (by simpa using h) (by simp [cvInode]))
    · have : i = xs.length := by omega
      subst this
      exact ev_neg (by omega) (ev_now (take_all (by simp [hl]) (by simpa using ht)))
  termination_by i => xs.length - i
theorem toInodeS_ev (xs : List S44) (hn : wtInodeS xs ≤ 1048576) : Ev (fun k => laws_toInodeS.f k xs) (xs.map cvInode) := by
  have hn2 : xs.length ≤ 1048576 := by unfold wtInodeS at hn; omega
  unfold laws_toInodeS.f
  exact ev_pos (by omega) (ev_pos (by omega) (toInodeS_l xs hn 0 _ (by omega) (by simp) (by simp)))

theorem eqInode_ev (x : S49) (hw : wiInode x ≤ 4000000) : Ev (fun k => laws_eqInode.f k x.f0 x.f1 x.f2 x.f3 x.f4 x.f5 x.f0 x.f1 x.f2 x.f3 x.f4 x.f5) true := by
  unfold wiInode at hw
  unfold laws_eqInode.f
  refine ev_pos rfl ?_
  refine ev_pos rfl ?_
  refine ev_pos rfl ?_
  refine ev_pos rfl ?_
  refine Ev.bind (eqRecS_ev x.f4 (by omega)) (ev_pos rfl ?_)
  refine Ev.bind (eqEntryS_ev x.f5 (by omega)) (ev_pos rfl ?_)
  exact ev_now rfl
theorem eqInodeS_l (xs : List S49) (hn : wiInodeS xs ≤ 4000000) : ∀ (i : Nat), i ≤ xs.length → Ev (fun k => laws_eqInodeS.l0 k xs xs i) true
  | i, hi => by
    have hn2 : xs.length ≤ 4000000 := by unfold wiInodeS at hn; omega
    refine Ev.step (laws_eqInodeS.l0.eq_2 _ _ _) ?_
    by_cases h : i < xs.length
    · refine ev_pos (by omega) (ev_pos (by omega) (ev_pos (by omega) ?_))
      rw [w64s i (by omega), rdiInode xs i h]
      exact Ev.bind (eqInode_ev _ (by have := sumBy_mem (f := wiInode) (List.getElem_mem h); unfold wiInodeS at hn; omega)) (ev_pos rfl (eqInodeS_l xs hn (i + 1) (by omega)))
    · exact ev_neg (by omega) (ev_now rfl)
  termination_by i => xs.length - i
theorem eqInodeS_ev (xs : List S49) (hn : wiInodeS xs ≤ 4000000) : Ev (fun k => laws_eqInodeS.f k xs xs) true := by
  unfold laws_eqInodeS.f
  exact ev_pos rfl (eqInodeS_l xs hn 0 (by omega))


/-! ### szints -/
theorem szIntS_ev (xs : List Int) (a : Int) (hb : xs.length ≤ 140737488351232) (h0 : 0 ≤ a) (h1 : a ≤ 1048576) : Ev (fun _ => laws_szIntS.f xs a) (left a xs.length) := by
  unfold laws_szIntS.f
  rw [w64 (x := a - (xs.length : Int)) (by omega) (by omega)]
  exact ev_to (ev_sub a h0 (fun q => ev_now (left_zero q).symm)) rfl


/-! ### toints -/
theorem toIntS_l (xs : List Int) (hn : xs.length ≤ 4000000) : ∀ (i : Nat) (ys : List Int), i ≤ xs.length → ys.length = xs.length → ys.take i = xs.take i →
    Ev (fun k => laws_toIntS.l0 k xs ys i) xs
  | i, ys, hi, hl, ht => by
    refine Ev.step (laws_toIntS.l0.eq_2 _ _ _) ?_
    by_cases h : i < xs.length
    · refine ev_pos (by omega) (ev_pos (by omega) (ev_pos (by omega) ?_))
      rw [rd_at xs i h, w64s i (by omega), Int.toNat_natCast]
      exact toIntS_l xs hn (i + 1) _ (by omega) (by simp [hl]) (take_set hl ht h rfl)
    · have : i = xs.length := by omega
      subst this
      exact ev_neg (by omega) (ev_now (take_all hl ht))
  termination_by i => xs.length - i
theorem toIntS_ev (xs : List Int) (hn : xs.length ≤ 4000000) : Ev (fun k => laws_toIntS.f k xs) xs := by
  unfold laws_toIntS.f
  exact ev_pos (by omega) (ev_pos (by omega) (toIntS_l xs hn 0 _ (by omega) (by simp) (by simp)))


/-! ### ints -/
theorem eqIntS_l (xs : List Int) (hn : xs.length ≤ 4000000) : ∀ (i : Nat), i ≤ xs.length → Ev (fun k => laws_eqIntS.l0 k xs xs i) true
  | i, hi => by
    refine Ev.step (laws_eqIntS.l0.eq_2 _ _ _) ?_
    by_cases h : i < xs.length
    · refine ev_pos (by omega) (ev_pos (by omega) (ev_pos (by omega) (ev_pos rfl ?_)))
      rw [w64s i (by omega)]
      exact eqIntS_l xs hn (i + 1) (by omega)
    · exact ev_neg (by omega) (ev_now rfl)
  termination_by i => xs.length - i
theorem eqIntS_ev (xs : List Int) (hn : xs.length ≤ 4000000) : Ev (fun k => laws_eqIntS.f k xs xs) true := by
  unfold laws_eqIntS.f
  exact ev_pos rfl (eqIntS_l xs hn 0 (by omega))


/-! ### t_Part -/
def wtPart (a0 : Int) (a1 : List Int) (a2 : List S44) : Nat := a1.length + (wtInodeS a2 + (0))
def wiPart (a0 : Int) (a1 : List Int) (a2 : List S49) : Nat := a1.length + (wiInodeS a2 + (0))
theorem szPart_ev (a0 : Int) (a1 : List Int) (a2 : List S44) (h1 : a1.length ≤ 140737488351232) (h2 : a2.length ≤ 140737488351232 ∧ ∀ y ∈ a2, Wf44 y) (a : Int) (g0 : 0 ≤ a) (g1 : a ≤ 1048576) : Ev (fun k => laws_szPart.f k a0 a1 a2 a) (left a (wtPart a0 a1 a2)) := by
  unfold laws_szPart.f wtPart
  have b1 := h1
  refine Ev.bind (szIntS_ev a1 a (by omega) (by omega) (by omega)) (ev_call (fun q1 => ?_))
  have r1 := left_le q1
  refine Ev.bind (szInodeS_ev a2 (by have := (h2).1; omega) (h2).2 (left a a1.length) (by omega) (by omega)) (ev_call (fun q2 => ?_))
  have r2 := left_le q2
  exact ev_now (left_zero (by omega)).symm

theorem toPart_ev (a0 : Int) (a1 : List Int) (a2 : List S44) (hw : wtPart a0 a1 a2 ≤ 1048576) : Ev (fun k => laws_toPart.f k a0 a1 a2) (a0, a1, (a2.map cvInode)) := by
  unfold wtPart at hw
  unfold laws_toPart.f
  refine Ev.bind (toIntS_ev a1 (by omega)) ?_
  refine Ev.bind (toInodeS_ev a2 (by omega)) ?_
  exact ev_now rfl

theorem eqPart_ev (a0 : Int) (a1 : List Int) (a2 : List S49) (hw : wiPart a0 a1 a2 ≤ 4000000) : Ev (fun k => laws_eqPart.f k a0 a1 a2 a0 a1 a2) true := by
  unfold wiPart at hw
  unfold laws_eqPart.f
  refine ev_pos rfl ?_
  refine Ev.bind (eqIntS_ev a1 (by omega)) (ev_pos rfl ?_)
  refine Ev.bind (eqInodeS_ev a2 (by omega)) (ev_pos rfl ?_)
  exact ev_now rfl


/-! ### lin -/
theorem l01In_eq (a b c : Int) : spec_l01In.f a b c = some (decide (b ≤ a ∧ a ≤ c)) := by
  unfold spec_l01In.f
  by_cases h : a ≥ b
  · rw [if_pos h]; congr 1; simp; omega
  · rw [if_neg h]; congr 1; simp; omega

/-! ### within -/
theorem within_eq (a b c : Int) : impl_within.f a b c = some (decide (b ≤ a ∧ a ≤ c)) := by
  unfold impl_within.f
  by_cases h : a ≥ b
  · rw [if_pos h]; congr 1; simp; omega
  · rw [if_neg h]; congr 1; simp; omega

/-! ### wilen -/
theorem wi_len {xs : List S49} (hn : wiInodeS xs ≤ 4000000) (i : Nat) (h : i < xs.length) : xs.length ≤ 4000000 ∧ xs[i].f5.length ≤ 4000000 ∧ xs[i].f4.length ≤ 4000000 := by
  have h1 := sumBy_mem (f := wiInode) (List.getElem_mem h)
  have h2 : wiInode xs[i] = xs[i].f3.size + (wiRecS xs[i].f4 + (wiEntryS xs[i].f5 + 0)) := rfl
  have h3 : wiRecS xs[i].f4 = xs[i].f4.length + sumBy wiRec xs[i].f4 := rfl
  have h4 : wiEntryS xs[i].f5 = xs[i].f5.length + sumBy wiEntry xs[i].f5 := rfl
  unfold wiInodeS at hn
  omega

/-! ### above -/
def abE (i : Int) : List S59 → Option ByteArray
  | [] => none
  | e :: r => if e.f0 = i then some e.f1 else abE i r
/-- The first folder that links to an inode, from the inode numbered j on. -/
def abv (i : Int) : List S49 → Nat → Option (Nat × ByteArray)
  | [], _ => none
  | x :: r, j => if x.f0 = 2 then (match abE i x.f5 with | some e => some (j, e) | none => abv i r (j + 1)) else abv i r (j + 1)
theorem rdeE' (xs : List S59) (i : Nat) (h : i < xs.length) : rd_T59 xs (i : Int) = xs[i] := getD_at _ xs i h
theorem abv_lt (i : Int) : ∀ (xs : List S49) (j : Nat) (p : Nat × ByteArray), abv i xs j = some p → p.1 < j + xs.length
  | [], j, p, h => by simp [abv] at h
  | x :: r, j, p, h => by
    simp only [abv] at h
    split at h
    · split at h
      · injection h with h; subst h; simp
      · have := abv_lt i r (j + 1) p h; simp only [List.length_cons]; omega
    · have := abv_lt i r (j + 1) p h; simp only [List.length_cons]; omega

/-! ### above_i -/
def abvT (o : Option (Nat × ByteArray)) : Int × ByteArray × Bool := match o with | some p => (p.1, p.2, true) | none => (0, ⟨#[]⟩, false)
theorem iAb_1 (xs : List S49) (i : Int) (hn : wiInodeS xs ≤ 4000000) (j m : Nat) (hj : j < xs.length) (hm : m ≤ xs[j].f5.length) (next : Ev (fun k => impl_above.l0 k i xs xs.length (wrap64 (j + 1))) (abvT (abv i (xs.drop (j + 1)) (j + 1)))) : Ev (fun k => impl_above.l1 k i j xs xs.length j xs[j].f5 xs[j].f5.length m) (abvT (match abE i (xs[j].f5.drop m) with | some e => some (j, e) | none => abv i (xs.drop (j + 1)) (j + 1))) := by
  have hb := wi_len hn j hj
  refine Ev.step (impl_above.l1.eq_2 _ _ _ _ _ _ _ _) ?_
  by_cases h : m < xs[j].f5.length
  · refine ev_pos (by omega) (ev_pos (by omega) (ev_pos (by omega) ?_))
    rw [rdeE' _ m h, w64s m (by omega), drop_at _ m h]
    simp only [abE]
    by_cases he : xs[j].f5[m].f0 = i
    · rw [if_pos he]
      exact ev_pos he (ev_now rfl)
    · rw [if_neg he]
      exact ev_neg he (iAb_1 xs i hn j (m + 1) hj (by omega) next)
  · refine ev_neg (by omega) ?_
    rw [List.drop_of_length_le (show xs[j].f5.length ≤ m by omega)]
    exact next
termination_by xs[j].f5.length - m
theorem iAb_0 (xs : List S49) (i : Int) (hn : wiInodeS xs ≤ 4000000) (j : Nat) (hj : j ≤ xs.length) : Ev (fun k => impl_above.l0 k i xs xs.length j) (abvT (abv i (xs.drop j) j)) := by
  refine Ev.step (impl_above.l0.eq_2 _ _ _ _) ?_
  by_cases h : j < xs.length
  · refine ev_pos (by omega) (ev_pos (by omega) (ev_pos (by omega) ?_))
    rw [drop_at xs j h, rdiInode xs j h]
    simp only [abv]
    have next : Ev (fun k => impl_above.l0 k i xs xs.length (wrap64 (j + 1))) (abvT (abv i (xs.drop (j + 1)) (j + 1))) := by rw [w64s j (by have := (wi_len hn j h).1; omega)]; exact iAb_0 xs i hn (j + 1) (by omega)
    by_cases hk : xs[j].f0 = 2
    · rw [if_pos hk]
      refine ev_pos hk (ev_to (iAb_1 xs i hn j 0 h (by omega) next) ?_)
      rw [List.drop_zero]
    · rw [if_neg hk]
      exact ev_neg hk next
  · refine ev_neg (by omega) (ev_now ?_)
    rw [List.drop_of_length_le (by omega)]; rfl
termination_by xs.length - j
theorem iAbove_ev (a : Int) (b : List Int) (xs : List S49) (i : Int) (hn : wiInodeS xs ≤ 4000000) : Ev (fun k => impl_above.f k a b xs i) (abvT (abv i xs 0)) := by
  unfold impl_above.f
  have := iAb_0 xs i hn 0 (by omega)
  rw [List.drop_zero] at this
  exact this

/-! ### revs -/
theorem revs_l (xs : List ByteArray) (hn : xs.length ≤ 4000000) (i : Nat) (ys : List ByteArray) (hl : ys.length = xs.length) (hi : 2 * i ≤ xs.length + 1) (hy : ∀ p, p < xs.length → ys[p]? = if p < i ∨ xs.length ≤ p + i then xs[xs.length - 1 - p]? else xs[p]?) : Ev (fun k => slices_Reverse_string.l0 k ys i ((xs.length : Int) - 1 - i)) xs.reverse := by
  refine Ev.step (slices_Reverse_string.l0.eq_2 _ _ _) ?_
  by_cases h : (i : Int) < (xs.length : Int) - 1 - i
  · have hq : (xs.length : Int) - 1 - i = ((xs.length - 1 - i : Nat) : Int) := by omega
    refine ev_pos h (ev_pos (by omega) (ev_pos (by omega) (ev_pos (by omega) (ev_pos (by omega) ?_))))
    rw [w64s i (by omega), w64 (x := (xs.length : Int) - 1 - i - 1) (by omega) (by omega), hq, rdOf_at _ ys i (by omega), rdOf_at _ ys (xs.length - 1 - i) (by omega), show ((xs.length - 1 - i : Nat) : Int) - 1 = (xs.length : Int) - 1 - ((i + 1 : Nat) : Int) by omega, Int.toNat_natCast, Int.toNat_natCast]
    refine revs_l xs hn (i + 1) _ (by simp [hl]) (by omega) ?_
    intro p hp
    have e1 := hy i (by omega)
    have e2 := hy (xs.length - 1 - i) (by omega)
    rw [if_neg (by omega)] at e1 e2
    rw [List.getElem?_eq_getElem (by omega)] at e1 e2
    rw [List.getElem?_set]
    by_cases c : xs.length - 1 - i = p
    · subst c
      rw [if_pos rfl, if_pos (by simp; omega), if_pos (by omega), e1]
      congr 1; omega
    · rw [if_neg c, List.getElem?_set]
      by_cases d : i = p
      · subst d
        rw [if_pos rfl, if_pos (by omega), if_pos (by omega), e2]
      · rw [if_neg d, hy p hp]
        by_cases g : p < i ∨ xs.length ≤ p + i
        · rw [if_pos g, if_pos (by omega)]
        · rw [if_neg g, if_neg (by omega)]
  · refine ev_neg h (ev_now ?_)
    apply List.ext_getElem?
    intro p
    by_cases hp : p < xs.length
    · rw [hy p hp, List.getElem?_reverse hp]
      split
      · rfl
      · congr 1; omega
    · rw [List.getElem?_eq_none (by omega), List.getElem?_eq_none (by simp; omega)]
termination_by xs.length - 2 * i
theorem revs_ev (xs : List ByteArray) (hn : xs.length ≤ 4000000) : Ev (fun k => slices_Reverse_string.f k xs) xs.reverse := by
  unfold slices_Reverse_string.f
  rw [w64 (by omega) (by omega)]
  have := revs_l xs hn 0 xs rfl (by omega) (fun p hp => by rw [if_neg (by omega)])
  rw [Int.ofNat_zero, Int.sub_zero] at this
  exact this

/-! ### upwards -/
/-- The names above an inode, where f steps are left. -/
def upw (xs : List S49) (i : Int) (ns : List ByteArray) : Nat → List ByteArray × Bool
  | 0 => if i = 0 then (ns.reverse, true) else ([], false)
  | f + 1 => if i = 0 then (ns.reverse, true) else match abv i xs 0 with | some p => upw xs p.1 (ns ++ [p.2]) f | none => ([], false)
theorem upw_l (a : Int) (b : List Int) (xs : List S49) (hn : wiInodeS xs ≤ 4000000) : ∀ (f : Nat) (i : Int) (ns : List ByteArray), ns.length + f = xs.length → xs.length ≤ 4000000 → Ev (fun k => impl_upwards.l0 k i ns a b xs) (upw xs i ns f)
  | f, i, ns, hf, hx => by
    refine Ev.step (impl_upwards.l0.eq_2 _ _ _ _ _) ?_
    by_cases h : i = 0
    · refine ev_pos h (Ev.bind (revs_ev ns (by omega)) (ev_now ?_))
      cases f <;> simp only [upw, if_pos h]
    · refine ev_neg h (Ev.bind (iAbove_ev a b xs i hn) ?_)
      cases hb : abv i xs 0 with
      | none =>
        refine ev_neg (by simp [abvT]) (ev_now ?_)
        cases f <;> simp only [upw, if_neg h, hb]
      | some p =>
        refine ev_pos rfl ?_
        cases f with
        | zero =>
          refine ev_pos (by omega) (ev_now ?_)
          simp only [upw, if_neg h]
        | succ f =>
          refine ev_neg (by omega) (ev_pos (by omega) (ev_to (upw_l a b xs hn f p.1 (ns ++ [p.2]) (by simp; omega) hx) ?_))
          simp only [upw, if_neg h, hb]
  termination_by f => f
theorem upwards_ev (a : Int) (b : List Int) (xs : List S49) (i : Int) (hn : wiInodeS xs ≤ 4000000) (hx : xs.length ≤ 4000000) : Ev (fun k => impl_upwards.f k a b xs i) (upw xs i [] xs.length) := by
  unfold impl_upwards.f
  exact upw_l a b xs hn xs.length i [] (by simp) hx

/-! ### above_s -/
def abvI (o : Option (Nat × ByteArray)) : Int := match o with | some p => p.1 | none => -1
theorem sAb_1 (xs : List S49) (a : Int) (b : List Int) (i : Int) (hn : wiInodeS xs ≤ 4000000) (j m : Nat) (hj : j < xs.length) (hm : m ≤ xs[j].f5.length) (next : Ev (fun k => spec_l14Above.l0 k i (wrap64 (j + 1)) a b xs) (abvI (abv i (xs.drop (j + 1)) (j + 1)))) : Ev (fun k => spec_l14Above.l1 k i j m a b xs) (abvI (if xs[j].f0 = 2 then (match abE i (xs[j].f5.drop m) with | some e => some (j, e) | none => abv i (xs.drop (j + 1)) (j + 1)) else abv i (xs.drop (j + 1)) (j + 1))) := by
  have hb := wi_len hn j hj
  refine Ev.step (spec_l14Above.l1.eq_2 _ _ _ _ _ _) ?_
  refine ev_pos (by omega) (ev_pos (by omega) ?_)
  rw [rdiInode xs j hj]
  by_cases hk : xs[j].f0 = 2
  · rw [if_pos hk]
    by_cases h : m < xs[j].f5.length
    · refine ev_pos (by omega) ?_
      refine Ev.step (spec_l14Above.j2.eq_2 _ _ _ _ _ _ _) ?_
      refine ev_pos (by simp [hk]) (ev_pos (by omega) (ev_pos (by omega) (ev_pos (by omega) ?_)))
      rw [rdiInode xs j hj]
      refine ev_pos (by omega) ?_
      rw [rdeE' _ m h, w64s m (by omega), drop_at _ m h]
      simp only [abE]
      by_cases he : xs[j].f5[m].f0 = i
      · rw [if_pos he]
        exact ev_pos he (ev_now rfl)
      · rw [if_neg he]
        refine ev_neg he (ev_to (sAb_1 xs a b i hn j (m + 1) hj (by omega) next) ?_)
        rw [if_pos hk]
    · refine ev_neg (by omega) ?_
      refine Ev.step (spec_l14Above.j2.eq_2 _ _ _ _ _ _ _) ?_
      refine ev_neg (by simp) ?_
      rw [List.drop_of_length_le (show xs[j].f5.length ≤ m by omega)]
      exact next
  · rw [if_neg hk]
    by_cases h : m < xs[j].f5.length
    · refine ev_pos (by omega) ?_
      refine Ev.step (spec_l14Above.j2.eq_2 _ _ _ _ _ _ _) ?_
      exact ev_neg (by simp [hk]) next
    · refine ev_neg (by omega) ?_
      refine Ev.step (spec_l14Above.j2.eq_2 _ _ _ _ _ _ _) ?_
      exact ev_neg (by simp) next
termination_by xs[j].f5.length - m
theorem sAb_0 (xs : List S49) (a : Int) (b : List Int) (i : Int) (hn : wiInodeS xs ≤ 4000000) (j : Nat) (hj : j ≤ xs.length) : Ev (fun k => spec_l14Above.l0 k i j a b xs) (abvI (abv i (xs.drop j) j)) := by
  refine Ev.step (spec_l14Above.l0.eq_2 _ _ _ _ _) ?_
  by_cases h : j < xs.length
  · refine ev_pos (by omega) ?_
    rw [drop_at xs j h]
    simp only [abv]
    refine ev_to (sAb_1 xs a b i hn j 0 h (by omega) (by rw [w64s j (by have := (wi_len hn j h).1; omega)]; exact sAb_0 xs a b i hn (j + 1) (by omega))) ?_
    rw [List.drop_zero]
  · refine ev_neg (by omega) (ev_now ?_)
    rw [List.drop_of_length_le (by omega)]; rfl
termination_by xs.length - j
theorem sAbove_ev (a : Int) (b : List Int) (xs : List S49) (i : Int) (hn : wiInodeS xs ≤ 4000000) : Ev (fun k => spec_l14Above.f k a b xs i) (abvI (abv i xs 0)) := by
  unfold spec_l14Above.f
  have := sAb_0 xs a b i hn 0 (by omega)
  rw [List.drop_zero] at this
  exact this

/-! ### depth -/
def dpt (xs : List S49) (i : Int) (n : Nat) : Nat → Int
  | 0 => if i = 0 then n else -1
  | f + 1 => if i = 0 then n else match abv i xs 0 with | some p => dpt xs p.1 (n + 1) f | none => -1
theorem dpt_upw (xs : List S49) : ∀ (f : Nat) (i : Int) (ns : List ByteArray), dpt xs i ns.length f = if (upw xs i ns f).2 = true then ((upw xs i ns f).1.length : Int) else -1
  | 0, i, ns => by
    simp only [dpt, upw]
    by_cases h : i = 0
    · simp [if_pos h]
    · simp [if_neg h]
  | f + 1, i, ns => by
    simp only [dpt, upw]
    by_cases h : i = 0
    · simp [if_pos h]
    · simp only [if_neg h]
      cases hb : abv i xs 0 with
      | none => simp
      | some p => simpa using dpt_upw xs f p.1 (ns ++ [p.2])
theorem sDepth_l (a : Int) (b : List Int) (xs : List S49) (hn : wiInodeS xs ≤ 4000000) : ∀ (f : Nat) (i : Int) (n : Nat), n + f = xs.length → xs.length ≤ 4000000 → Ev (fun k => spec_DepthOf.l0 k i n a b xs) (dpt xs i n f)
  | f, i, n, hf, hx => by
    refine Ev.step (spec_DepthOf.l0.eq_2 _ _ _ _ _) ?_
    refine ev_pos (by omega) ?_
    by_cases h : i = 0
    · refine ev_pos h (ev_now ?_)
      cases f <;> simp only [dpt, if_pos h]
    · refine ev_neg h (Ev.bind (sAbove_ev a b xs i hn) ?_)
      cases hb : abv i xs 0 with
      | none =>
        refine ev_pos (by simp [abvI]) (ev_now ?_)
        cases f <;> simp only [dpt, if_neg h, hb]
      | some p =>
        refine ev_neg (by simp only [abvI]; omega) ?_
        simp only [abvI]
        rw [w64s n (by omega)]
        cases f with
        | zero =>
          refine Ev.step (spec_DepthOf.l0.eq_2 _ _ _ _ _) ?_
          refine ev_neg (by omega) (ev_now ?_)
          simp only [dpt, if_neg h]
        | succ f =>
          refine ev_to (sDepth_l a b xs hn f p.1 (n + 1) (by omega) hx) ?_
          simp only [dpt, if_neg h, hb]
  termination_by f => f
theorem sDepth_ev (a : Int) (b : List Int) (xs : List S49) (i : Int) (hn : wiInodeS xs ≤ 4000000) (hx : xs.length ≤ 4000000) : Ev (fun k => spec_DepthOf.f k a b xs i) (dpt xs i 0 xs.length) := by
  unfold spec_DepthOf.f
  exact sDepth_l a b xs hn xs.length i 0 (by omega) hx


/-! ### joinpath -/
def jn : List ByteArray → List UInt8
  | [] => []
  | x :: r => 47 :: (x.data.toList ++ jn r)
theorem jn_len (xs : List ByteArray) : (jn xs).length = xs.length + sumBy (fun s : ByteArray => s.size) xs := by
  induction xs with
  | nil => rfl
  | cons x r ih => rw [sumBy_cons]; simp [jn, ih]; omega
def jp (xs : List ByteArray) : ByteArray := if xs = [] then ⟨#[47]⟩ else ⟨(jn xs).toArray⟩
theorem jn_join (x : ByteArray) (r : List ByteArray) : jn (x :: r) = 47 :: Lib.join ((x :: r).map (·.data.toList)) [47] := by
  unfold Lib.join
  induction r generalizing x with
  | nil => simp [jn, List.intercalate]
  | cons y s ih =>
    have := ih y
    simp only [jn] at this ⊢
    rw [List.map_cons, List.map_cons, List.intercalate_cons_cons]
    simp only [List.map_cons] at this
    rw [this]
    simp
theorem sJoin_l (xs : List ByteArray) (hn : xs.length + sumBy (fun s : ByteArray => s.size) xs ≤ 100000000000000) : ∀ (i : Nat) (o : ByteArray), i ≤ xs.length → o.size + (jn (xs.drop i)).length ≤ 100000000000000 → Ev (fun k => spec_JoinPath.l0 k xs o i) (⟨(o.data.toList ++ jn (xs.drop i)).toArray⟩)
  | i, o, hi, ho => by
    refine Ev.step (spec_JoinPath.l0.eq_2 _ _ _) ?_
    by_cases h : i < xs.length
    · rw [drop_at xs i h] at ho ⊢
      have hl : (jn (xs[i] :: xs.drop (i + 1))).length = 1 + xs[i].size + (jn (xs.drop (i + 1))).length := by simp [jn]; omega
      have e1 : (⟨#[47]⟩ : ByteArray).size = 1 := rfl
      refine ev_pos (by omega) (ev_pos (by omega) (ev_pos (by omega) ?_))
      rw [rdOf_at _ xs i h, w64s i (by omega)]
      refine ev_pos (by rw [ByteArray.size_append, e1]; omega) (ev_to (sJoin_l xs hn (i + 1) _ (by omega) (by rw [ByteArray.size_append, ByteArray.size_append, e1]; omega)) ?_)
      rw [b_app, b_app]
      simp [jn]
    · refine ev_neg (by omega) (ev_now (b_inj ?_))
      rw [b_mk, List.drop_of_length_le (by omega)]; simp [jn]
  termination_by i => xs.length - i
theorem sJoin_ev (xs : List ByteArray) (hn : xs.length + sumBy (fun s : ByteArray => s.size) xs ≤ 100000000000000) : Ev (fun k => spec_JoinPath.f k xs) (jp xs) := by
  unfold spec_JoinPath.f jp
  by_cases h : xs = []
  · subst h
    exact ev_pos rfl (ev_now rfl)
  · rw [if_neg h]
    refine ev_neg (by have := List.length_pos_iff.2 h; omega) (ev_to (sJoin_l xs hn 0 _ (by omega) (by rw [List.drop_zero, jn_len]; have : (⟨#[]⟩ : ByteArray).size = 0 := rfl; omega)) ?_)
    rfl

theorem iJoin_eq (xs : List ByteArray) (hn : xs.length + sumBy (fun s : ByteArray => s.size) xs ≤ 100000000000000) : impl_JoinPath.f xs = some (jp xs) := by
  unfold impl_JoinPath.f jp
  match xs with
  | [] => rfl
  | x :: r =>
    have hj := jn_join x r
    have hl := jn_len (x :: r)
    have hl2 : (Lib.join ((x :: r).map (·.data.toList)) (⟨#[47]⟩ : ByteArray).data.toList).length + 1 = (jn (x :: r)).length := by rw [hj]; rfl
    rw [if_neg (by simp; omega), if_neg (by simp)]
    unfold strings_Join.f
    rw [if_pos ⟨by omega, by omega⟩, Option.bind_some, if_pos (by rw [b_size]; omega)]
    congr 1
    refine b_inj ?_
    rw [b_app, b_mk, b_mk, hj]; rfl

/-! ### pathto -/
theorem abE_size (i : Int) : ∀ (es : List S59) (nm : ByteArray), abE i es = some nm → nm.size ≤ sumBy wiEntry es
  | [], nm, h => by simp [abE] at h
  | e :: r, nm, h => by
    simp only [abE] at h
    rw [sumBy_cons]
    have e1 : wiEntry e = e.f1.size + 0 := rfl
    split at h
    · injection h with h; subst h; omega
    · have := abE_size i r nm h; omega
theorem abv_at (i : Int) : ∀ (xs : List S49) (b : Nat) (p : Nat × ByteArray), abv i xs b = some p → ∃ (j : Nat) (h : j < xs.length), p.1 = b + j ∧ abE i xs[j].f5 = some p.2
  | [], b, p, h => by simp [abv] at h
  | x :: r, b, p, h => by
    simp only [abv] at h
    split at h
    · split at h
      · rename_i e he
        injection h with h; subst h
        exact ⟨0, by simp, by simp, he⟩
      · obtain ⟨j, hj, e1, e2⟩ := abv_at i r (b + 1) p h
        exact ⟨j + 1, by simp; omega, by omega, e2⟩
    · obtain ⟨j, hj, e1, e2⟩ := abv_at i r (b + 1) p h
      exact ⟨j + 1, by simp; omega, by omega, e2⟩
theorem abv_size (i : Int) (xs : List S49) (hn : wiInodeS xs ≤ 4000000) (p : Nat × ByteArray) (h : abv i xs 0 = some p) : p.2.size ≤ 4000000 := by
  obtain ⟨j, hj, _, he⟩ := abv_at i xs 0 p h
  have h0 := abE_size i _ _ he
  have h1 := sumBy_mem (f := wiInode) (List.getElem_mem hj)
  have h2 : wiInode xs[j] = xs[j].f3.size + (wiRecS xs[j].f4 + (wiEntryS xs[j].f5 + 0)) := rfl
  have h4 : wiEntryS xs[j].f5 = xs[j].f5.length + sumBy wiEntry xs[j].f5 := rfl
  unfold wiInodeS at hn
  omega
theorem sumBy_app {α : Type} (f : α → Nat) (a b : List α) : sumBy f (a ++ b) = sumBy f a + sumBy f b := by simp [sumBy]
theorem sumBy_rev {α : Type} (f : α → Nat) (a : List α) : sumBy f a.reverse = sumBy f a := by
  induction a with
  | nil => rfl
  | cons x r ih => rw [List.reverse_cons, sumBy_app, ih, sumBy_cons, sumBy_cons, sumBy_nil]; omega
theorem upw_size (xs : List S49) (hn : wiInodeS xs ≤ 4000000) : ∀ (f : Nat) (i : Int) (ns : List ByteArray), (upw xs i ns f).1.length ≤ ns.length + f ∧ sumBy (fun s : ByteArray => s.size) (upw xs i ns f).1 ≤ sumBy (fun s : ByteArray => s.size) ns + f * 4000000
  | 0, i, ns => by
    simp only [upw]
    split
    · simp [sumBy_rev]
    · simp [sumBy_nil]
  | f + 1, i, ns => by
    simp only [upw]
    split
    · simp only [List.length_reverse, sumBy_rev]; omega
    · split
      · rename_i p hp
        have h1 := upw_size xs hn f p.1 (ns ++ [p.2])
        have h2 := abv_size i xs hn p hp
        rw [sumBy_app, sumBy_cons, sumBy_nil, List.length_append, List.length_singleton] at h1
        omega
      · simp [sumBy_nil]
theorem sPath_1 (a : Int) (b : List Int) (xs : List S49) (i : Int) (hn : wiInodeS xs ≤ 4000000) (j : Nat) (hj : j < xs.length) (ns : List ByteArray) (hs : ns.length ≤ 4000000) (nm : ByteArray) (R : ByteArray) (next : Ev (fun k => spec_PathTo.l0 k j (nm :: ns) a b xs) R) (m : Nat) (hm : m ≤ xs[j].f5.length) (hab : abE i (xs[j].f5.drop m) = some nm) : Ev (fun k => spec_PathTo.l1 k i ns j m a b xs) R := by
  have hb := wi_len hn j hj
  refine Ev.step (spec_PathTo.l1.eq_2 _ _ _ _ _ _ _) ?_
  refine ev_pos (by omega) (ev_pos (by omega) ?_)
  rw [rdiInode xs j hj]
  by_cases h : m < xs[j].f5.length
  · refine ev_pos (by omega) (ev_pos (by omega) ?_)
    rw [rdeE' _ m h, w64s m (by omega)]
    rw [drop_at _ m h] at hab
    simp only [abE] at hab
    by_cases he : xs[j].f5[m].f0 = i
    · rw [if_pos he] at hab
      injection hab with hab
      subst hab
      exact ev_pos he (Ev.bind (Ev.now _) (ev_pos (by simp only [List.length_singleton]; omega) next))
    · rw [if_neg he] at hab
      exact ev_neg he (sPath_1 a b xs i hn j hj ns hs nm R next (m + 1) (by omega) hab)
  · rw [List.drop_of_length_le (by omega)] at hab
    simp [abE] at hab
termination_by xs[j].f5.length - m
theorem sPath_0 (a : Int) (b : List Int) (xs : List S49) (hn : wiInodeS xs ≤ 4000000) (hx : xs.length ≤ 4000000) : ∀ (f : Nat) (i : Int) (ns : List ByteArray), ns.length + f ≤ 4000000 → sumBy (fun s : ByteArray => s.size) ns + f * 4000000 ≤ 20000000000000 → (upw xs i ns f).2 = true → Ev (fun k => spec_PathTo.l0 k i ns.reverse a b xs) (jp (upw xs i ns f).1)
  | f, i, ns, hf, hs, hu => by
    have hz := upw_size xs hn f i ns
    refine Ev.step (spec_PathTo.l0.eq_2 _ _ _ _ _) ?_
    by_cases h : i = 0
    · have hr : (upw xs i ns f).1 = ns.reverse := by cases f <;> simp only [upw, if_pos h]
      rw [hr] at hz ⊢
      exact ev_pos h (Ev.bind (sJoin_ev _ (by omega)) (ev_now rfl))
    · cases f with
      | zero => simp only [upw, if_neg h] at hu; simp at hu
      | succ f =>
        cases hb : abv i xs 0 with
        | none => simp only [upw, if_neg h, hb] at hu; simp at hu
        | some p =>
          simp only [upw, if_neg h, hb] at hu ⊢
          obtain ⟨j, hj, e1, e2⟩ := abv_at i xs 0 p hb
          have h2 := abv_size i xs hn p hb
          have e3 : p.1 = j := by omega
          refine Ev.bind (sAbove_ev a b xs i hn) ?_
          rw [hb]
          simp only [abvI]
          have next := sPath_0 a b xs hn hx f p.1 (ns ++ [p.2]) (by simp; omega) (by rw [sumBy_app, sumBy_cons, sumBy_nil]; omega) hu
          rw [List.reverse_append, List.reverse_singleton, List.singleton_append] at next
          rw [e3] at next ⊢
          exact sPath_1 a b xs i hn j hj ns.reverse (by simp; omega) p.2 _ next 0 (by omega) (by rw [List.drop_zero]; exact e2)
  termination_by f => f
noncomputable def ptV (xs : List S49) (i : Int) : ByteArray := open Classical in if (upw xs i [] xs.length).2 = true ∧ 0 ≤ i ∧ i ≤ (xs.length : Int) - 1 then jp (upw xs i [] xs.length).1 else ⟨#[]⟩
theorem sPathTo_ev (a : Int) (b : List Int) (xs : List S49) (i : Int) (hn : wiInodeS xs ≤ 4000000) (hx : xs.length ≤ 4000000) : Ev (fun k => spec_PathTo.f k a b xs i) (ptV xs i) := by
  unfold spec_PathTo.f
  rw [w64 (by omega) (by omega)]
  refine Ev.bind (ev_eq (l01In_eq _ _ _)) ?_
  by_cases hi : 0 ≤ i ∧ i ≤ (xs.length : Int) - 1
  · refine ev_pos (by simpa using hi) (Ev.bind (sDepth_ev a b xs i hn hx) ?_)
    refine Ev.step (spec_PathTo.j0.eq_2 _ _ _ _ _) ?_
    have hd := dpt_upw xs xs.length i []
    rw [List.length_nil] at hd
    by_cases hu : (upw xs i [] xs.length).2 = true
    · rw [if_pos hu] at hd
      refine ev_neg (by simp only [decide_eq_true_eq]; omega) ?_
      have := sPath_0 a b xs hn hx xs.length i [] (by simp; omega) (by rw [sumBy_nil]; omega) hu
      rw [List.reverse_nil] at this
      exact ev_to this (by unfold ptV; rw [if_pos ⟨hu, hi⟩])
    · rw [if_neg hu] at hd
      exact ev_pos (by simp only [decide_eq_true_eq]; omega) (ev_now (by unfold ptV; rw [if_neg (fun h => hu h.1)]))
  · refine ev_neg (by simpa using hi) ?_
    refine Ev.step (spec_PathTo.j0.eq_2 _ _ _ _ _) ?_
    exact ev_pos rfl (ev_now (by unfold ptV; rw [if_neg (fun h => hi h.2)]))
theorem iPathTo_ev (a : Int) (b : List Int) (xs : List S49) (i : Int) (hn : wiInodeS xs ≤ 4000000) (hx : xs.length ≤ 4000000) : Ev (fun k => impl_PathTo.f k a b xs i) (ptV xs i) := by
  unfold impl_PathTo.f
  rw [w64 (by omega) (by omega)]
  have hz := upw_size xs hn xs.length i []
  rw [sumBy_nil, List.length_nil] at hz
  refine Ev.bind (upwards_ev a b xs i hn hx) ?_
  by_cases hu : (upw xs i [] xs.length).2 = true
  · refine ev_pos hu (Ev.bind (ev_eq (within_eq _ _ _)) ?_)
    by_cases hi : 0 ≤ i ∧ i ≤ (xs.length : Int) - 1
    · exact ev_pos (by simpa using hi) (Ev.bind (ev_eq (iJoin_eq _ (by omega))) (ev_now (by unfold ptV; rw [if_pos ⟨hu, hi⟩])))
    · exact ev_neg (by simpa using hi) (ev_now (by unfold ptV; rw [if_neg (fun h => hi h.2)]))
  · exact ev_neg hu (ev_now (by unfold ptV; rw [if_neg (fun h => hu h.1)]))

/-! ### items -/
def cvItem (x : S35) : S38 := ⟨x.f0, x.f1, x.f2⟩
def wtItem (x : S35) : Nat := x.f0.size + x.f2.size
theorem rd_itemL (xs : List S35) (i : Nat) (h : i < xs.length) : rd_T35 xs (i : Int) = xs[i] := getD_at _ xs i h
theorem rd_itemI (xs : List S38) (i : Nat) (h : i < xs.length) : rd_T38 xs (i : Int) = xs[i] := getD_at _ xs i h
theorem szItem_eq (x : S35) (hx : Wf35 x) (a : Int) (h0 : 0 ≤ a) (h1 : a ≤ 1048576) : laws_szItem.f x.f0 x.f1 x.f2 a = some (left a (wtItem x)) := by
  obtain ⟨h2, _, h3⟩ := hx
  simp only [laws_szItem.f]
  rw [w64 (x := a - (x.f0.size : Int)) (by omega) (by omega), w64 (x := a - (x.f0.size : Int) - (x.f2.size : Int)) (by omega) (by omega)]
  unfold left wtItem
  split
  · rw [if_neg (by omega)]
  · split
    · rw [if_neg (by omega)]
    · rw [if_pos (by omega)]; congr 1; omega
theorem szItemS_l (xs : List S35) (hn : xs.length ≤ 1048576) (hw : ∀ y ∈ xs, Wf35 y) : ∀ (i : Nat) (a : Int), i ≤ xs.length → 0 ≤ a → a ≤ 1048576 →
    Ev (fun k => laws_szItemS.l0 k xs a i) (left a (sumBy wtItem (xs.drop i)))
  | i, a, hi, h0, h1 => by
    refine Ev.step (laws_szItemS.l0.eq_2 _ _ _) ?_
    by_cases h : i < xs.length
    · refine ev_pos (by omega) (ev_pos (by omega) ?_)
      rw [rd_itemL xs i h, w64s i (by omega)]
      refine Ev.bind (ev_eq (szItem_eq _ (hw _ (List.getElem_mem h)) a h0 h1)) ?_
      rw [drop_at xs i h, sumBy_cons, ← left_add]
      by_cases h2 : left a (wtItem xs[i]) < 0
      · exact ev_pos h2 (ev_now (if_pos h2).symm)
      · obtain ⟨h3, h4⟩ := left_le (a := a) (t := wtItem xs[i]) (by omega)
        refine ev_neg h2 (ev_to (szItemS_l xs hn hw (i + 1) _ (by omega) (by omega) (by omega)) (if_neg h2).symm)
    · refine ev_neg (by omega) (ev_now ?_)
      rw [List.drop_of_length_le (by omega), sumBy_nil, left_zero h0]
  termination_by i => xs.length - i
def wtItemS (xs : List S35) : Nat := xs.length + sumBy wtItem xs
theorem szItemS_ev (xs : List S35) (hb : xs.length ≤ 140737488351232) (hw : ∀ y ∈ xs, Wf35 y) (a : Int) (h0 : 0 ≤ a) (h1 : a ≤ 1048576) : Ev (fun k => laws_szItemS.f k xs a) (left a (wtItemS xs)) := by
  unfold laws_szItemS.f
  rw [w64 (by omega) (by omega)]
  unfold wtItemS
  rw [← left_add]
  by_cases h : a - (xs.length : Int) < 0
  · exact ev_pos h (ev_now (by rw [if_pos]; unfold left; rw [if_neg (by omega)]; omega))
  · have h2 : left a xs.length = a - xs.length := by unfold left; rw [if_pos (by omega)]
    have := szItemS_l xs (by omega) hw 0 (a - xs.length) (by omega) (by omega) (by omega)
    rw [List.drop_zero] at this
    exact ev_neg h (ev_to this (by rw [h2, if_neg h]))
theorem toItemS_l (xs : List S35) (hn : xs.length ≤ 1048576) : ∀ (i : Nat) (ys : List S38), i ≤ xs.length → ys.length = xs.length → ys.take i = (xs.map cvItem).take i →
    Ev (fun k => laws_toItemS.l0 k xs ys i) (xs.map cvItem)
  | i, ys, hi, hl, ht => by
    refine Ev.step (laws_toItemS.l0.eq_2 _ _ _) ?_
    by_cases h : i < xs.length
    · refine ev_pos (by omega) (ev_pos (by omega) ?_)
      rw [rd_itemL xs i h, w64s i (by omega)]
      refine Ev.bind (ev_eq rfl) (ev_pos (by omega) ?_)
      rw [Int.toNat_natCast]
      exact toItemS_l xs hn (i + 1) _ (by omega) (by simp [hl]) (take_set (by simp [hl]) ht (by simpa using h) (by simp [cvItem]))
    · have : i = xs.length := by omega
      subst this
      exact ev_neg (by omega) (ev_now (take_all (by simp [hl]) (by simpa using ht)))
  termination_by i => xs.length - i
theorem toItemS_ev (xs : List S35) (hn : xs.length ≤ 1048576) : Ev (fun k => laws_toItemS.f k xs) (xs.map cvItem) := by
  unfold laws_toItemS.f
  exact ev_pos (by omega) (ev_pos (by omega) (toItemS_l xs hn 0 _ (by omega) (by simp) (by simp)))
theorem eqItem_eq (x : S38) : laws_eqItem.f x.f0 x.f1 x.f2 x.f0 x.f1 x.f2 = some true := by simp [laws_eqItem.f]
theorem eqItemS_l (xs : List S38) (hn : xs.length ≤ 1048576) : ∀ (i : Nat), i ≤ xs.length → Ev (fun k => laws_eqItemS.l0 k xs xs i) true
  | i, hi => by
    refine Ev.step (laws_eqItemS.l0.eq_2 _ _ _) ?_
    by_cases h : i < xs.length
    · refine ev_pos (by omega) (ev_pos (by omega) (ev_pos (by omega) ?_))
      rw [w64s i (by omega)]
      exact Ev.bind (ev_eq (eqItem_eq _)) (ev_pos rfl (eqItemS_l xs hn (i + 1) (by omega)))
    · exact ev_neg (by omega) (ev_now rfl)
  termination_by i => xs.length - i
theorem eqItemS_ev (xs : List S38) (hn : xs.length ≤ 1048576) : Ev (fun k => laws_eqItemS.f k xs xs) true := by
  unfold laws_eqItemS.f
  exact ev_pos rfl (eqItemS_l xs hn 0 (by omega))

/-! ### view -/
theorem szView_ev (xs : List S35) (hb : xs.length * 40 ≤ 140737488351232 ∧ ∀ y ∈ xs, Wf35 y) (a : Int) (h0 : 0 ≤ a) (h1 : a ≤ 1048576) : Ev (fun k => laws_szView.f k xs a) (left a (wtItemS xs)) := by
  unfold laws_szView.f
  refine Ev.bind (szItemS_ev xs (by omega) hb.2 a h0 h1) ev_left
theorem toView_ev (xs : List S35) (hn : xs.length ≤ 1048576) : Ev (fun k => laws_toView.f k xs) (xs.map cvItem) := by
  unfold laws_toView.f
  exact Ev.bind (toItemS_ev xs hn) (ev_now rfl)
theorem eqView_ev (xs : List S38) (hn : xs.length ≤ 1048576) : Ev (fun k => laws_eqView.f k xs xs) true := by
  unfold laws_eqView.f
  exact Ev.bind (eqItemS_ev xs hn) (ev_pos rfl (ev_now rfl))
theorem wtItemS_len {xs : List S35} {a : Int} (h : 0 ≤ left a (wtItemS xs)) (ha : a ≤ 1048576) : xs.length ≤ 1048576 ∧ (∀ y ∈ xs, wtItem y ≤ 1048576) := by
  have h2 := (left_le h).1
  unfold wtItemS at h2
  exact ⟨by omega, fun y hy => by have := sumBy_mem (f := wtItem) hy; omega⟩

/-! ### itemat -/
def itP (p : ByteArray) : S38 → S38 → Bool := fun _ y => y.f0.toList == p.toList
theorem sItemAt_l (xs : List S38) (p : ByteArray) (hn : xs.length ≤ 4000000) : ∀ i : Nat, i ≤ xs.length → Ev (fun k => spec_ItemAt.l0 k p i xs) (Lib.idxByFrom (itP p) z38 (xs.drop i) i)
  | i, hi => by
    refine Ev.step (spec_ItemAt.l0.eq_2 _ _ _) ?_
    by_cases h : i < xs.length
    · refine ev_pos (by omega) (ev_pos (by omega) ?_)
      rw [rd_itemI xs i h, w64s i (by omega), drop_at xs i h]
      by_cases he : (xs[i].f0).toList = p.toList
      · exact ev_pos he (ev_now (by simp [Lib.idxByFrom, itP, he]))
      · refine ev_neg he (ev_to (sItemAt_l xs p hn (i + 1) (by omega)) ?_)
        simp [Lib.idxByFrom, itP, he]
    · refine ev_neg (by omega) (ev_now ?_)
      rw [List.drop_of_length_le (by omega)]; rfl
  termination_by i => xs.length - i
theorem sItemAt_ev (xs : List S38) (p : ByteArray) (hn : xs.length ≤ 4000000) : Ev (fun k => spec_ItemAt.f k xs p) (Lib.idxBy (itP p) xs z38) := by
  unfold spec_ItemAt.f
  have := sItemAt_l xs p hn 0 (by omega)
  rw [List.drop_zero] at this
  exact this
theorem iItemAt_eq (xs : List S38) (p : ByteArray) (hn : xs.length ≤ 4000000) : impl_ItemAt.f xs p = some (Lib.idxBy (itP p) xs z38) := by
  unfold impl_ItemAt.f
  first
    | (rw [if_pos (by omega)]; rfl)
    | (unfold slices_IndexFunc_Item_g120.f; rw [if_pos (by omega)]; rfl)

/-! ### idxlt -/
theorem idxF_lt {α : Type} (p : α → α → Bool) (z : α) : ∀ (xs : List α) (i : Nat), 0 ≤ Lib.idxByFrom p z xs i → Lib.idxByFrom p z xs i < ((i + xs.length : Nat) : Int)
  | [], i, h => by simp [Lib.idxByFrom] at h
  | x :: r, i, h => by
    unfold Lib.idxByFrom at h ⊢
    by_cases hp : p z x = true
    · rw [if_pos hp]; simp; omega
    · rw [if_neg hp] at h ⊢
      have := idxF_lt p z r (i + 1) h
      simp at this ⊢; omega
theorem idx_lt {α : Type} (p : α → α → Bool) (z : α) (xs : List α) (h : ¬ Lib.idxBy p xs z < 0) : 0 ≤ Lib.idxBy p xs z ∧ Lib.idxBy p xs z < (xs.length : Int) := by
  have h0 : 0 ≤ Lib.idxBy p xs z := by omega
  refine ⟨h0, ?_⟩
  have := idxF_lt p z xs 0 h0
  rw [Nat.zero_add] at this
  exact this

/-! ### FnExactFits -/
noncomputable def fitL (xs : List S49) (vs : List S38) : Nat → Nat → Nat → Bool
  | 0, _, n => decide (n = vs.length)
  | f + 1, i, n => if (rd_T49 xs (i : Int)).f0 = 0 then fitL xs vs f (i + 1) n else
    if Lib.idxBy (itP (ptV xs (i : Int))) vs z38 < 0 then false else
    if ((rd_T38 vs (Lib.idxBy (itP (ptV xs (i : Int))) vs z38)).f1 != ((rd_T49 xs (i : Int)).f0 == 2)) = true then false else
    if (rd_T49 xs (i : Int)).f0 = 1 then (if ((rd_T38 vs (Lib.idxBy (itP (ptV xs (i : Int))) vs z38)).f2.size : Int) = (rd_T49 xs (i : Int)).f1 then fitL xs vs f (i + 1) (n + 1) else false) else fitL xs vs f (i + 1) (n + 1)
theorem fit_at (xs : List S49) (vs : List S38) (i n f : Nat) (T : Nat → Option Bool) (hT : Ev T (fitL xs vs f (i + 1) (n + 1))) (P : Nat → Option ByteArray) (hP : Ev P (ptV xs (i : Int))) (I : Nat → ByteArray → Option Int) (hI : Ev (fun k => I k (ptV xs (i : Int))) (Lib.idxBy (itP (ptV xs (i : Int))) vs z38)) :
    Ev (fun k => (P k).bind fun t299 => ((I k t299).bind fun t300 => (if t300 < 0 then (some false) else (if 0 ≤ t300 then (if t300 < (vs.length : Int) then (if (((rd_T38 vs t300).f1) != ((rd_T49 xs (i : Int)).f0 == 2)) = true then (some false) else (if (rd_T49 xs (i : Int)).f0 = 1 then (if (((rd_T38 vs t300).f2).size : Int) = (rd_T49 xs (i : Int)).f1 then T k else (some false)) else T k)) else (none)) else (none)))))
      (if Lib.idxBy (itP (ptV xs (i : Int))) vs z38 < 0 then false else
    if ((rd_T38 vs (Lib.idxBy (itP (ptV xs (i : Int))) vs z38)).f1 != ((rd_T49 xs (i : Int)).f0 == 2)) = true then false else
    if (rd_T49 xs (i : Int)).f0 = 1 then (if ((rd_T38 vs (Lib.idxBy (itP (ptV xs (i : Int))) vs z38)).f2.size : Int) = (rd_T49 xs (i : Int)).f1 then fitL xs vs f (i + 1) (n + 1) else false) else fitL xs vs f (i + 1) (n + 1)) := by
  refine Ev.bind hP (Ev.bind hI ?_)
  by_cases h1 : Lib.idxBy (itP (ptV xs (i : Int))) vs z38 < 0
  · exact ev_to (ev_pos h1 (ev_now rfl)) (if_pos h1).symm
  refine ev_to (ev_neg h1 ?_) (if_neg h1).symm
  have hr := idx_lt _ z38 vs h1
  refine ev_pos hr.1 (ev_pos hr.2 ?_)
  by_cases h2 : ((rd_T38 vs (Lib.idxBy (itP (ptV xs (i : Int))) vs z38)).f1 != ((rd_T49 xs (i : Int)).f0 == 2)) = true
  · exact ev_to (ev_pos h2 (ev_now rfl)) (if_pos h2).symm
  refine ev_to (ev_neg h2 ?_) (if_neg h2).symm
  by_cases h3 : (rd_T49 xs (i : Int)).f0 = 1
  · refine ev_to (ev_pos h3 ?_) (if_pos h3).symm
    by_cases h4 : ((rd_T38 vs (Lib.idxBy (itP (ptV xs (i : Int))) vs z38)).f2.size : Int) = (rd_T49 xs (i : Int)).f1
    · exact ev_to (ev_pos h4 hT) (if_pos h4).symm
    · exact ev_to (ev_neg h4 (ev_now rfl)) (if_neg h4).symm
  · exact ev_to (ev_neg h3 hT) (if_neg h3).symm
theorem sFits_l (a : Int) (b : List Int) (xs : List S49) (vs : List S38) (hn : wiInodeS xs ≤ 4000000) (hx : xs.length ≤ 4000000) (hv : vs.length ≤ 4000000) : ∀ (f i n : Nat), i + f = xs.length → n ≤ i → Ev (fun k => spec_Fits.l0 k (n : Int) (i : Int) a b xs vs) (fitL xs vs f i n)
  | f, i, n, hf, ho => by
    refine Ev.step (spec_Fits.l0.eq_2 _ _ _ _ _ _) ?_
    cases f with
    | zero =>
      refine ev_neg (by omega) (ev_now ?_)
      simp only [fitL]
      rw [Bool.eq_iff_iff, beq_iff_eq, decide_eq_true_eq]; omega
    | succ f =>
      refine ev_pos (by omega) (ev_pos (by omega) ?_)
      unfold fitL
      rw [w64s i (by omega), w64s n (by omega)]
      by_cases h0 : (rd_T49 xs (i : Int)).f0 = 0
      · exact ev_to (ev_pos h0 (sFits_l a b xs vs hn hx hv f (i + 1) n (by omega) (by omega))) (if_pos h0).symm
      · exact ev_to (ev_neg h0 (fit_at xs vs i n f _ (sFits_l a b xs vs hn hx hv f (i + 1) (n + 1) (by omega) (by omega)) _ (sPathTo_ev a b xs _ hn hx) (fun k p => spec_ItemAt.f k vs p) (sItemAt_ev vs _ hv))) (if_neg h0).symm
theorem iFits_l (a : Int) (b : List Int) (xs : List S49) (vs : List S38) (hn : wiInodeS xs ≤ 4000000) (hx : xs.length ≤ 4000000) (hv : vs.length ≤ 4000000) : ∀ (f i n : Nat), 1 ≤ i → i + f = xs.length → n ≤ i → Ev (fun k => impl_Fits.l0 k (n : Int) xs (xs.length : Int) (i : Int) a b xs vs) (fitL xs vs f i n)
  | f, i, n, h1, hf, ho => by
    refine Ev.step (impl_Fits.l0.eq_2 _ _ _ _ _ _ _ _) ?_
    cases f with
    | zero =>
      refine ev_neg (by omega) (ev_now ?_)
      simp only [fitL]
      rw [Bool.eq_iff_iff, beq_iff_eq, decide_eq_true_eq]; omega
    | succ f =>
      refine ev_pos (by omega) (ev_pos (by omega) (ev_pos (by omega) (ev_neg (by omega) ?_)))
      refine Ev.step (impl_Fits.j1.eq_2 _ _ _ _ _ _ _ _ _ _ _ _ _ _ _ _) ?_
      unfold fitL
      rw [w64s i (by omega), w64s n (by omega)]
      by_cases h0 : (rd_T49 xs (i : Int)).f0 = 0
      · exact ev_to (ev_pos (by simp [h0]) (iFits_l a b xs vs hn hx hv f (i + 1) n (by omega) (by omega) (by omega))) (if_pos h0).symm
      · exact ev_to (ev_neg (by simp [h0]) (fit_at xs vs i n f _ (iFits_l a b xs vs hn hx hv f (i + 1) (n + 1) (by omega) (by omega) (by omega)) _ (iPathTo_ev a b xs _ hn hx) (fun k p => impl_ItemAt.f vs p) (ev_eq (iItemAt_eq vs _ hv)))) (if_neg h0).symm
noncomputable def fitV (xs : List S49) (vs : List S38) : Bool := if xs.length = 0 then decide (0 = vs.length) else fitL xs vs (xs.length - 1) 1 0
theorem sFits_ev (a : Int) (b : List Int) (xs : List S49) (vs : List S38) (hn : wiInodeS xs ≤ 4000000) (hx : xs.length ≤ 4000000) (hv : vs.length ≤ 4000000) : Ev (fun k => spec_Fits.f k a b xs vs) (fitV xs vs) := by
  unfold spec_Fits.f fitV
  by_cases h : xs.length = 0
  · rw [if_pos h]
    refine Ev.step (spec_Fits.l0.eq_2 _ _ _ _ _ _) ?_
    refine ev_neg (by omega) (ev_now ?_)
    rw [Bool.eq_iff_iff, beq_iff_eq, decide_eq_true_eq]; omega
  · rw [if_neg h]
    exact sFits_l a b xs vs hn hx hv _ 1 0 (by omega) (by omega)
theorem iFits_ev (a : Int) (b : List Int) (xs : List S49) (vs : List S38) (hn : wiInodeS xs ≤ 4000000) (hx : xs.length ≤ 4000000) (hv : vs.length ≤ 4000000) : Ev (fun k => impl_Fits.f k a b xs vs) (fitV xs vs) := by
  unfold impl_Fits.f fitV
  refine Ev.step (impl_Fits.l0.eq_2 _ _ _ _ _ _ _ _) ?_
  by_cases h : xs.length = 0
  · rw [if_pos h]
    refine ev_neg (by omega) (ev_now ?_)
    rw [Bool.eq_iff_iff, beq_iff_eq, decide_eq_true_eq]; omega
  · rw [if_neg h]
    refine ev_pos (by omega) (ev_pos (by omega) (ev_pos (by omega) (ev_pos rfl ?_)))
    refine Ev.step (impl_Fits.j1.eq_2 _ _ _ _ _ _ _ _ _ _ _ _ _ _ _ _) ?_
    rw [show wrap64 (0 + 1) = ((1 : Nat) : Int) from w64s 0 (by omega)]
    exact ev_pos rfl (iFits_l a b xs vs hn hx hv (xs.length - 1) 1 0 (by omega) (by omega) (by omega))
theorem FnExactFits : laws_FnExactFits.Law := by
  intro a b xs vs _ hb hx hv
  apply Ev.rounds
  unfold laws_FnExactFits.f
  refine Ev.bind (szPart_ev a b xs (by omega) ⟨by omega, hx.2⟩ 1048576 (by omega) (by omega)) ?_
  by_cases h : left 1048576 (wtPart a b xs) < 0
  · exact ev_pos h (ev_now rfl)
  have hw := left_le (a := 1048576) (t := wtPart a b xs) (by omega)
  refine ev_neg h (Ev.bind (szView_ev vs hv _ (by omega) (by omega)) ?_)
  by_cases h2 : left (left 1048576 (wtPart a b xs)) (wtItemS vs) < 0
  · exact ev_pos h2 (ev_now rfl)
  have hb2 := wtItemS_len (xs := vs) (a := left 1048576 (wtPart a b xs)) (by omega) (by omega)
  have nx := hb2.1
  have nm : (vs.map cvItem).length ≤ 1048576 := by simpa using nx
  have hi : wiPart a b (xs.map cvInode) = wtPart a b xs := by simp only [wiPart, wtPart, wiInodeS_cv]
  have hn : wiInodeS (xs.map cvInode) ≤ 4000000 := by rw [wiInodeS_cv]; have := hw.1; unfold wtPart at this; omega
  have hl : (xs.map cvInode).length ≤ 4000000 := by unfold wiInodeS at hn; omega
  have hv2 : (vs.map cvItem).length ≤ 4000000 := by omega
  refine ev_neg h2 ?_
  repeat' first
    | (with_reducible exact ev_now rfl)
    | (with_reducible refine Ev.bind (toPart_ev a b xs (by omega)) ?_)
    | (with_reducible refine Ev.bind (toView_ev vs nx) ?_)
    | (with_reducible refine Ev.bind (sFits_ev _ _ _ _ hn hl hv2) ?_)
    | (with_reducible refine Ev.bind (iFits_ev _ _ _ _ hn hl hv2) ?_)
    | (with_reducible refine Ev.bind (eqPart_ev a b (xs.map cvInode) (by omega)) ?_)
    | (with_reducible refine Ev.bind (eqView_ev _ nm) ?_)
    | (with_reducible refine ev_pos rfl ?_)
    | ((with_reducible refine ev_pos ?c_ ?_); (case c_ => first | rfl | omega | (dsimp only; omega) | (simp only [decide_eq_true_eq]; omega) | (simp; done)))
    | ((with_reducible refine ev_neg ?c_ ?_); (case c_ => first | rfl | omega | (dsimp only; omega) | (simp only [decide_eq_true_eq]; omega) | (simp; done)))
    | ((with_reducible refine ev_now ?c_); (case c_ => first | rfl | (simp; done)))

end Go.Proofs.Ytcdnfkoahajhhaa.Pure
