/- The pure statement of FnExactFindInode is proved: for all arguments within the row's own bounds the Lean function that the law's walk comes to answers true. Conditions: none beyond these bounds. -/
import Derived.Test.YtabgpbmaoelohaaDoorStFnExactFindInode
import Derived.Test.YtabgpbmaoelohaaDoorBase
namespace Go.Proofs.YtabgpbmaoelohaaDoor.Pure
open Go.RowKit Go.Proofs.YtabgpbmaoelohaaDoor.PFnExactFindInode Go.Proofs.YtabgpbmaoelohaaDoorW.PrintWords Go.Proofs.YtabgpbmaoelohaaDoorW.PrintLast Go.Proofs.YtabgpbmaoelohaaDoor.Base
set_option linter.unusedVariables false
set_option linter.unusedSimpArgs false
/-! ### t_Entry -/
def wtEntry (x : S148) : Nat := x.f1.size + (0)
def wiEntry (x : S85) : Nat := x.f1.size + (0)
def wtEntryS (xs : List S148) : Nat := xs.length + sumBy wtEntry xs
def wiEntryS (xs : List S85) : Nat := xs.length + sumBy wiEntry xs
def cvEntry (x : S148) : S85 := ⟨x.f0, x.f1⟩
theorem wiEntry_cv (x : S148) : wiEntry (cvEntry x) = wtEntry x := by simp only [wiEntry, wtEntry, cvEntry]
theorem wiEntryS_cv (xs : List S148) : wiEntryS (xs.map cvEntry) = wtEntryS xs := by
  unfold wiEntryS wtEntryS sumBy
  rw [List.length_map, List.map_map, List.map_congr_left (f := wiEntry ∘ cvEntry) (g := wtEntry) (fun x _ => wiEntry_cv x)]
theorem rdlEntry (xs : List S148) (i : Nat) (h : i < xs.length) : rd_T148 xs (i : Int) = xs[i] := getD_at _ xs i h
theorem rdiEntry (xs : List S85) (i : Nat) (h : i < xs.length) : rd_T85 xs (i : Int) = xs[i] := getD_at _ xs i h
theorem szEntry_ev (x : S148) (hx : Wf148 x) (a : Int) (g0 : 0 ≤ a) (g1 : a ≤ 1048576) : Ev (fun k => laws_szEntry.f x.f0 x.f1 a) (left a (wtEntry x)) := by
  unfold laws_szEntry.f wtEntry
  have b1 := (hx.2)
  rw [w64 (x := a - (x.f1.size : Int)) (by omega) (by omega)]
  refine ev_sub a (by omega) (fun q1 => ?_)
  exact ev_now (left_zero (by omega)).symm
theorem szEntryS_l (xs : List S148) (hn : xs.length ≤ 1048576) (hw : ∀ y ∈ xs, Wf148 y) : ∀ (i : Nat) (a : Int), i ≤ xs.length → 0 ≤ a → a ≤ 1048576 → Ev (fun k => laws_szEntryS.l0 k xs a i) (left a (sumBy wtEntry (xs.drop i)))
  | i, a, hi, h0, h1 => by
    refine Ev.step (laws_szEntryS.l0.eq_2 _ _ _) ?_
    by_cases h : i < xs.length
    · refine ev_pos (by omega) (ev_pos (by omega) ?_)
      rw [rdlEntry xs i h, w64s i (by omega), drop_at xs i h, sumBy_cons]
      refine Ev.bind (szEntry_ev _ (hw _ (List.getElem_mem h)) a h0 h1) (ev_call (fun q => ?_))
      have := left_le q
      exact szEntryS_l xs hn hw (i + 1) _ (by omega) (by omega) (by omega)
    · refine ev_neg (by omega) (ev_now ?_)
      rw [List.drop_of_length_le (by omega), sumBy_nil, left_zero h0]
  termination_by i => xs.length - i
theorem szEntryS_ev (xs : List S148) (hb : xs.length ≤ 140737488351232) (hw : ∀ y ∈ xs, Wf148 y) (a : Int) (h0 : 0 ≤ a) (h1 : a ≤ 1048576) : Ev (fun k => laws_szEntryS.f k xs a) (left a (wtEntryS xs)) := by
  unfold laws_szEntryS.f wtEntryS
  rw [w64 (x := a - (xs.length : Int)) (by omega) (by omega)]
  refine ev_sub a h0 (fun q => ?_)
  have := szEntryS_l xs (by omega) hw 0 (a - xs.length) (by omega) (by omega) (by omega)
  rw [List.drop_zero] at this
  exact this

theorem toEntryS_l (xs : List S148) (hn : wtEntryS xs ≤ 1048576) : ∀ (i : Nat) (ys : List S85), i ≤ xs.length → ys.length = xs.length → ys.take i = (xs.map cvEntry).take i → Ev (fun k => laws_toEntryS.l0 k xs ys i) (xs.map cvEntry)
  | i, ys, hi, hl, ht => by
    have hn2 : xs.length ≤ 1048576 := by unfold wtEntryS at hn; omega
    refine Ev.step (laws_toEntryS.l0.eq_2 _ _ _) ?_
    by_cases h : i < xs.length
    · refine ev_pos (by omega) (ev_pos (by omega) ?_)
      have hx : wtEntry xs[i] ≤ 1048576 := by have := sumBy_mem (f := wtEntry) (List.getElem_mem h); unfold wtEntryS at hn; omega
      rw [rdlEntry xs i h, w64s i (by omega)]
      refine Ev.bind (ev_eq rfl) (ev_pos (by omega) ?_)
      rw [Int.toNat_natCast]
      exact toEntryS_l xs hn (i + 1) _ (by omega) (by simp [hl]) (take_set (by simp [hl]) ht (by simpa using h) (by simp [cvEntry]))
    · have : i = xs.length := by omega
      subst this
      exact ev_neg (by omega) (ev_now (take_all (by simp [hl]) (by simpa using ht)))
  termination_by i => xs.length - i
theorem toEntryS_ev (xs : List S148) (hn : wtEntryS xs ≤ 1048576) : Ev (fun k => laws_toEntryS.f k xs) (xs.map cvEntry) := by
  have hn2 : xs.length ≤ 1048576 := by unfold wtEntryS at hn; omega
  unfold laws_toEntryS.f
  exact ev_pos (by omega) (ev_pos (by omega) (toEntryS_l xs hn 0 _ (by omega) (by simp) (by simp)))

theorem eqEntry_ev (x : S85) : Ev (fun _ => laws_eqEntry.f x.f0 x.f1 x.f0 x.f1) true := ev_eq (by simp [laws_eqEntry.f])
theorem eqEntryS_l (xs : List S85) (hn : wiEntryS xs ≤ 4000000) : ∀ (i : Nat), i ≤ xs.length → Ev (fun k => laws_eqEntryS.l0 k xs xs i) true
  | i, hi => by
    have hn2 : xs.length ≤ 4000000 := by unfold wiEntryS at hn; omega
    refine Ev.step (laws_eqEntryS.l0.eq_2 _ _ _) ?_
    by_cases h : i < xs.length
    · refine ev_pos (by omega) (ev_pos (by omega) (ev_pos (by omega) ?_))
      rw [w64s i (by omega), rdiEntry xs i h]
      exact Ev.bind (eqEntry_ev _) (ev_pos rfl (eqEntryS_l xs hn (i + 1) (by omega)))
    · exact ev_neg (by omega) (ev_now rfl)
  termination_by i => xs.length - i
theorem eqEntryS_ev (xs : List S85) (hn : wiEntryS xs ≤ 4000000) : Ev (fun k => laws_eqEntryS.f k xs xs) true := by
  unfold laws_eqEntryS.f
  exact ev_pos rfl (eqEntryS_l xs hn 0 (by omega))


/-! ### t_Rec -/
def wtRec (x : S146) : Nat := x.f2.size + (0)
def wiRec (x : S149) : Nat := x.f2.size + (0)
def wtRecS (xs : List S146) : Nat := xs.length + sumBy wtRec xs
def wiRecS (xs : List S149) : Nat := xs.length + sumBy wiRec xs
def cvRec (x : S146) : S149 := ⟨x.f0, x.f1, x.f2⟩
theorem wiRec_cv (x : S146) : wiRec (cvRec x) = wtRec x := by simp only [wiRec, wtRec, cvRec]
theorem wiRecS_cv (xs : List S146) : wiRecS (xs.map cvRec) = wtRecS xs := by
  unfold wiRecS wtRecS sumBy
  rw [List.length_map, List.map_map, List.map_congr_left (f := wiRec ∘ cvRec) (g := wtRec) (fun x _ => wiRec_cv x)]
theorem rdlRec (xs : List S146) (i : Nat) (h : i < xs.length) : rd_T146 xs (i : Int) = xs[i] := getD_at _ xs i h
theorem rdiRec (xs : List S149) (i : Nat) (h : i < xs.length) : rd_T149 xs (i : Int) = xs[i] := getD_at _ xs i h
theorem szRec_ev (x : S146) (hx : Wf146 x) (a : Int) (g0 : 0 ≤ a) (g1 : a ≤ 1048576) : Ev (fun k => laws_szRec.f x.f0 x.f1 x.f2 a) (left a (wtRec x)) := by
  unfold laws_szRec.f wtRec
  have b2 := (hx.2.2)
  rw [w64 (x := a - (x.f2.size : Int)) (by omega) (by omega)]
  refine ev_sub a (by omega) (fun q2 => ?_)
  exact ev_now (left_zero (by omega)).symm
theorem szRecS_l (xs : List S146) (hn : xs.length ≤ 1048576) (hw : ∀ y ∈ xs, Wf146 y) : ∀ (i : Nat) (a : Int), i ≤ xs.length → 0 ≤ a → a ≤ 1048576 → Ev (fun k => laws_szRecS.l0 k xs a i) (left a (sumBy wtRec (xs.drop i)))
  | i, a, hi, h0, h1 => by
    refine Ev.step (laws_szRecS.l0.eq_2 _ _ _) ?_
    by_cases h : i < xs.length
    · refine ev_pos (by omega) (ev_pos (by omega) ?_)
      rw [rdlRec xs i h, w64s i (by omega), drop_at xs i h, sumBy_cons]
      refine Ev.bind (szRec_ev _ (hw _ (List.getElem_mem h)) a h0 h1) (ev_call (fun q => ?_))
      have := left_le q
      exact szRecS_l xs hn hw (i + 1) _ (by omega) (by omega) (by omega)
    · refine ev_neg (by omega) (ev_now ?_)
      rw [List.drop_of_length_le (by omega), sumBy_nil, left_zero h0]
  termination_by i => xs.length - i
theorem szRecS_ev (xs : List S146) (hb : xs.length ≤ 140737488351232) (hw : ∀ y ∈ xs, Wf146 y) (a : Int) (h0 : 0 ≤ a) (h1 : a ≤ 1048576) : Ev (fun k => laws_szRecS.f k xs a) (left a (wtRecS xs)) := by
  unfold laws_szRecS.f wtRecS
  rw [w64 (x := a - (xs.length : Int)) (by omega) (by omega)]
  refine ev_sub a h0 (fun q => ?_)
  have := szRecS_l xs (by omega) hw 0 (a - xs.length) (by omega) (by omega) (by omega)
  rw [List.drop_zero] at this
  exact this

theorem toRecS_l (xs : List S146) (hn : wtRecS xs ≤ 1048576) : ∀ (i : Nat) (ys : List S149), i ≤ xs.length → ys.length = xs.length → ys.take i = (xs.map cvRec).take i → Ev (fun k => laws_toRecS.l0 k xs ys i) (xs.map cvRec)
  | i, ys, hi, hl, ht => by
    have hn2 : xs.length ≤ 1048576 := by unfold wtRecS at hn; omega
    refine Ev.step (laws_toRecS.l0.eq_2 _ _ _) ?_
    by_cases h : i < xs.length
    · refine ev_pos (by omega) (ev_pos (by omega) ?_)
      have hx : wtRec xs[i] ≤ 1048576 := by have := sumBy_mem (f := wtRec) (List.getElem_mem h); unfold wtRecS at hn; omega
      rw [rdlRec xs i h, w64s i (by omega)]
      refine Ev.bind (ev_eq rfl) (ev_pos (by omega) ?_)
      rw [Int.toNat_natCast]
      exact toRecS_l xs hn (i + 1) _ (by omega) (by simp [hl]) (take_set (by simp [hl]) ht (by simpa using h) (by simp [cvRec]))
    · have : i = xs.length := by omega
      subst this
      exact ev_neg (by omega) (ev_now (take_all (by simp [hl]) (by simpa using ht)))
  termination_by i => xs.length - i
theorem toRecS_ev (xs : List S146) (hn : wtRecS xs ≤ 1048576) : Ev (fun k => laws_toRecS.f k xs) (xs.map cvRec) := by
  have hn2 : xs.length ≤ 1048576 := by unfold wtRecS at hn; omega
  unfold laws_toRecS.f
  exact ev_pos (by omega) (ev_pos (by omega) (toRecS_l xs hn 0 _ (by omega) (by simp) (by simp)))

theorem eqRec_ev (x : S149) : Ev (fun _ => laws_eqRec.f x.f0 x.f1 x.f2 x.f0 x.f1 x.f2) true := ev_eq (by simp [laws_eqRec.f])
theorem eqRecS_l (xs : List S149) (hn : wiRecS xs ≤ 4000000) : ∀ (i : Nat), i ≤ xs.length → Ev (fun k => laws_eqRecS.l0 k xs xs i) true
  | i, hi => by
    have hn2 : xs.length ≤ 4000000 := by unfold wiRecS at hn; omega
    refine Ev.step (laws_eqRecS.l0.eq_2 _ _ _) ?_
    by_cases h : i < xs.length
    · refine ev_pos (by omega) (ev_pos (by omega) (ev_pos (by omega) ?_))
      rw [w64s i (by omega), rdiRec xs i h]
      exact Ev.bind (eqRec_ev _) (ev_pos rfl (eqRecS_l xs hn (i + 1) (by omega)))
    · exact ev_neg (by omega) (ev_now rfl)
  termination_by i => xs.length - i
theorem eqRecS_ev (xs : List S149) (hn : wiRecS xs ≤ 4000000) : Ev (fun k => laws_eqRecS.f k xs xs) true := by
  unfold laws_eqRecS.f
  exact ev_pos rfl (eqRecS_l xs hn 0 (by omega))


/-! ### t_Inode -/
def wtInode (x : S112) : Nat := x.f3.size + (wtRecS x.f4 + (wtEntryS x.f5 + (0)))
def wiInode (x : S83) : Nat := x.f3.size + (wiRecS x.f4 + (wiEntryS x.f5 + (0)))
def wtInodeS (xs : List S112) : Nat := xs.length + sumBy wtInode xs
def wiInodeS (xs : List S83) : Nat := xs.length + sumBy wiInode xs
def cvInode (x : S112) : S83 := ⟨x.f0, x.f1, x.f2, x.f3, (x.f4.map cvRec), (x.f5.map cvEntry)⟩
theorem wiInode_cv (x : S112) : wiInode (cvInode x) = wtInode x := by simp only [wiInode, wtInode, cvInode, wiRecS_cv, wiEntryS_cv]
theorem wiInodeS_cv (xs : List S112) : wiInodeS (xs.map cvInode) = wtInodeS xs := by
  unfold wiInodeS wtInodeS sumBy
  rw [List.length_map, List.map_map, List.map_congr_left (f := wiInode ∘ cvInode) (g := wtInode) (fun x _ => wiInode_cv x)]
theorem rdlInode (xs : List S112) (i : Nat) (h : i < xs.length) : rd_T112 xs (i : Int) = xs[i] := getD_at _ xs i h
theorem rdiInode (xs : List S83) (i : Nat) (h : i < xs.length) : rd_T83 xs (i : Int) = xs[i] := getD_at _ xs i h
theorem szInode_ev (x : S112) (hx : Wf112 x) (a : Int) (g0 : 0 ≤ a) (g1 : a ≤ 1048576) : Ev (fun k => laws_szInode.f k x.f0 x.f1 x.f2 x.f3 x.f4 x.f5 a) (left a (wtInode x)) := by
  unfold laws_szInode.f wtInode
  have b3 := (hx.2.2.2.1)
  rw [w64 (x := a - (x.f3.size : Int)) (by omega) (by omega)]
  refine ev_sub a (by omega) (fun q3 => ?_)
  refine Ev.bind (szRecS_ev x.f4 (by have := ((hx.2.2.2.2.1)).1; omega) ((hx.2.2.2.2.1)).2 (a - (x.f3.size : Int)) (by omega) (by omega)) (ev_call (fun q4 => ?_))
  have r4 := left_le q4
  refine Ev.bind (szEntryS_ev x.f5 (by have := ((hx.2.2.2.2.2)).1; omega) ((hx.2.2.2.2.2)).2 (left (a - (x.f3.size : Int)) (wtRecS x.f4)) (by omega) (by omega)) (ev_call (fun q5 => ?_))
  have r5 := left_le q5
  exact ev_now (left_zero (by omega)).symm
theorem szInodeS_l (xs : List S112) (hn : xs.length ≤ 1048576) (hw : ∀ y ∈ xs, Wf112 y) : ∀ (i : Nat) (a : Int), i ≤ xs.length → 0 ≤ a → a ≤ 1048576 → Ev (fun k => laws_szInodeS.l0 k xs a i) (left a (sumBy wtInode (xs.drop i)))
  | i, a, hi, h0, h1 => by
    refine Ev.step (laws_szInodeS.l0.eq_2 _ _ _) ?_
    by_cases h : i < xs.length
    · refine ev_pos (by omega) (ev_pos (by omega) ?_)
      rw [rdlInode xs i h, w64s i (by omega), drop_at xs i h, sumBy_cons]
      refine Ev.bind (szInode_ev _ (hw _ (List.getElem_mem h)) a h0 h1) (ev_call (fun q => ?_))
      have := left_le q
      exact szInodeS_l xs hn hw (i + 1) _ (by omega) (by omega) (by omega)
    · refine ev_neg (by omega) (ev_now ?_)
      rw [List.drop_of_length_le (by omega), sumBy_nil, left_zero h0]
  termination_by i => xs.length - i
theorem szInodeS_ev (xs : List S112) (hb : xs.length ≤ 140737488351232) (hw : ∀ y ∈ xs, Wf112 y) (a : Int) (h0 : 0 ≤ a) (h1 : a ≤ 1048576) : Ev (fun k => laws_szInodeS.f k xs a) (left a (wtInodeS xs)) := by
  unfold laws_szInodeS.f wtInodeS
  rw [w64 (x := a - (xs.length : Int)) (by omega) (by omega)]
  refine ev_sub a h0 (fun q => ?_)
  have := szInodeS_l xs (by omega) hw 0 (a - xs.length) (by omega) (by omega) (by omega)
  rw [List.drop_zero] at this
  exact this

theorem toInode_ev (x : S112) (hw : wtInode x ≤ 1048576) : Ev (fun k => laws_toInode.f k x.f0 x.f1 x.f2 x.f3 x.f4 x.f5) (x.f0, x.f1, x.f2, x.f3, (x.f4.map cvRec), (x.f5.map cvEntry)) := by
  unfold wtInode at hw
  unfold laws_toInode.f
  refine Ev.bind (toRecS_ev x.f4 (by omega)) ?_
  refine Ev.bind (toEntryS_ev x.f5 (by omega)) ?_
  exact ev_now rfl
theorem toInodeS_l (xs : List S112) (hn : wtInodeS xs ≤ 1048576) : ∀ (i : Nat) (ys : List S83), i ≤ xs.length → ys.length = xs.length → ys.take i = (xs.map cvInode).take i → Ev (fun k => laws_toInodeS.l0 k xs ys i) (xs.map cvInode)
  | i, ys, hi, hl, ht => by
    have hn2 : xs.length ≤ 1048576 := by unfold wtInodeS at hn; omega
    refine Ev.step (laws_toInodeS.l0.eq_2 _ _ _) ?_
    by_cases h : i < xs.length
    · refine ev_pos (by omega) (ev_pos (by omega) ?_)
      have hx : wtInode xs[i] ≤ 1048576 := by have := sumBy_mem (f := wtInode) (List.getElem_mem h); unfold wtInodeS at hn; omega
      rw [rdlInode xs i h, w64s i (by omega)]
      refine Ev.bind (toInode_ev _ (by omega)) (ev_pos (by omega) ?_)
      rw [Int.toNat_natCast]
      exact toInodeS_l xs hn (i + 1) _ (by omega) (by simp [hl]) (take_set (by simp [hl]) ht (by simpa using h) (by simp [cvInode]))
    · have : i = xs.length := by omega
      subst this
      exact ev_neg (by omega) (ev_now (take_all (by simp [hl]) (by simpa using ht)))
  termination_by i => xs.length - i
theorem toInodeS_ev (xs : List S112) (hn : wtInodeS xs ≤ 1048576) : Ev (fun k => laws_toInodeS.f k xs) (xs.map cvInode) := by
  have hn2 : xs.length ≤ 1048576 := by unfold wtInodeS at hn; omega
  unfold laws_toInodeS.f
  exact ev_pos (by omega) (ev_pos (by omega) (toInodeS_l xs hn 0 _ (by omega) (by simp) (by simp)))

theorem eqInode_ev (x : S83) (hw : wiInode x ≤ 4000000) : Ev (fun k => laws_eqInode.f k x.f0 x.f1 x.f2 x.f3 x.f4 x.f5 x.f0 x.f1 x.f2 x.f3 x.f4 x.f5) true := by
  unfold wiInode at hw
  unfold laws_eqInode.f
  refine ev_pos rfl ?_
  refine ev_pos rfl ?_
  refine ev_pos rfl ?_
  refine ev_pos rfl ?_
  refine Ev.bind (eqRecS_ev x.f4 (by omega)) (ev_pos rfl ?_)
  refine Ev.bind (eqEntryS_ev x.f5 (by omega)) (ev_pos rfl ?_)
  exact ev_now rfl
theorem eqInodeS_l (xs : List S83) (hn : wiInodeS xs ≤ 4000000) : ∀ (i : Nat), i ≤ xs.length → Ev (fun k => laws_eqInodeS.l0 k xs xs i) true
  | i, hi => by
    have hn2 : xs.length ≤ 4000000 := by unfold wiInodeS at hn; omega
    refine Ev.step (laws_eqInodeS.l0.eq_2 _ _ _) ?_
    by_cases h : i < xs.length
    · refine ev_pos (by omega) (ev_pos (by omega) (ev_pos (by omega) ?_))
      rw [w64s i (by omega), rdiInode xs i h]
      exact Ev.bind (eqInode_ev _ (by have := sumBy_mem (f := wiInode) (List.getElem_mem h); unfold wiInodeS at hn; omega)) (ev_pos rfl (eqInodeS_l xs hn (i + 1) (by omega)))
    · exact ev_neg (by omega) (ev_now rfl)
  termination_by i => xs.length - i
theorem eqInodeS_ev (xs : List S83) (hn : wiInodeS xs ≤ 4000000) : Ev (fun k => laws_eqInodeS.f k xs xs) true := by
  unfold laws_eqInodeS.f
  exact ev_pos rfl (eqInodeS_l xs hn 0 (by omega))


/-! ### szints -/
theorem szIntS_ev (xs : List Int) (a : Int) (hb : xs.length ≤ 140737488351232) (h0 : 0 ≤ a) (h1 : a ≤ 1048576) : Ev (fun _ => laws_szIntS.f xs a) (left a xs.length) := by
  unfold laws_szIntS.f
  rw [w64 (x := a - (xs.length : Int)) (by omega) (by omega)]
  exact ev_to (ev_sub a h0 (fun q => ev_now (left_zero q).symm)) rfl


/-! ### toints -/
theorem toIntS_l (xs : List Int) (hn : xs.length ≤ 4000000) : ∀ (i : Nat) (ys : List Int), i ≤ xs.length → ys.length = xs.length → ys.take i = xs.take i →
    Ev (fun k => laws_toIntS.l0 k xs ys i) xs
  | i, ys, hi, hl, ht => by
    refine Ev.step (laws_toIntS.l0.eq_2 _ _ _) ?_
    by_cases h : i < xs.length
    · refine ev_pos (by omega) (ev_pos (by omega) (ev_pos (by omega) ?_))
      rw [rd_at xs i h, w64s i (by omega), Int.toNat_natCast]
      exact toIntS_l xs hn (i + 1) _ (by omega) (by simp [hl]) (take_set hl ht h rfl)
    · have : i = xs.length := by omega
      subst this
      exact ev_neg (by omega) (ev_now (take_all hl ht))
  termination_by i => xs.length - i
theorem toIntS_ev (xs : List Int) (hn : xs.length ≤ 4000000) : Ev (fun k => laws_toIntS.f k xs) xs := by
  unfold laws_toIntS.f
  exact ev_pos (by omega) (ev_pos (by omega) (toIntS_l xs hn 0 _ (by omega) (by simp) (by simp)))


/-! ### ints -/
theorem eqIntS_l (xs : List Int) (hn : xs.length ≤ 4000000) : ∀ (i : Nat), i ≤ xs.length → Ev (fun k => laws_eqIntS.l0 k xs xs i) true
  | i, hi => by
    refine Ev.step (laws_eqIntS.l0.eq_2 _ _ _) ?_
    by_cases h : i < xs.length
    · refine ev_pos (by omega) (ev_pos (by omega) (ev_pos (by omega) (ev_pos rfl ?_)))
      rw [w64s i (by omega)]
      exact eqIntS_l xs hn (i + 1) (by omega)
    · exact ev_neg (by omega) (ev_now rfl)
  termination_by i => xs.length - i
theorem eqIntS_ev (xs : List Int) (hn : xs.length ≤ 4000000) : Ev (fun k => laws_eqIntS.f k xs xs) true := by
  unfold laws_eqIntS.f
  exact ev_pos rfl (eqIntS_l xs hn 0 (by omega))


/-! ### t_Part -/
def wtPart (a0 : Int) (a1 : List Int) (a2 : List S112) : Nat := a1.length + (wtInodeS a2 + (0))
def wiPart (a0 : Int) (a1 : List Int) (a2 : List S83) : Nat := a1.length + (wiInodeS a2 + (0))
theorem szPart_ev (a0 : Int) (a1 : List Int) (a2 : List S112) (h1 : a1.length ≤ 140737488351232) (h2 : a2.length ≤ 140737488351232 ∧ ∀ y ∈ a2, Wf112 y) (a : Int) (g0 : 0 ≤ a) (g1 : a ≤ 1048576) : Ev (fun k => laws_szPart.f k a0 a1 a2 a) (left a (wtPart a0 a1 a2)) := by
  unfold laws_szPart.f wtPart
  have b1 := h1
  refine Ev.bind (szIntS_ev a1 a (by omega) (by omega) (by omega)) (ev_call (fun q1 => ?_))
  have r1 := left_le q1
  refine Ev.bind (szInodeS_ev a2 (by have := (h2).1; omega) (h2).2 (left a a1.length) (by omega) (by omega)) (ev_call (fun q2 => ?_))
  have r2 := left_le q2
  exact ev_now (left_zero (by omega)).symm

theorem toPart_ev (a0 : Int) (a1 : List Int) (a2 : List S112) (hw : wtPart a0 a1 a2 ≤ 1048576) : Ev (fun k => laws_toPart.f k a0 a1 a2) (a0, a1, (a2.map cvInode)) := by
  unfold wtPart at hw
  unfold laws_toPart.f
  refine Ev.bind (toIntS_ev a1 (by omega)) ?_
  refine Ev.bind (toInodeS_ev a2 (by omega)) ?_
  exact ev_now rfl

theorem eqPart_ev (a0 : Int) (a1 : List Int) (a2 : List S83) (hw : wiPart a0 a1 a2 ≤ 4000000) : Ev (fun k => laws_eqPart.f k a0 a1 a2 a0 a1 a2) true := by
  unfold wiPart at hw
  unfold laws_eqPart.f
  refine ev_pos rfl ?_
  refine Ev.bind (eqIntS_ev a1 (by omega)) (ev_pos rfl ?_)
  refine Ev.bind (eqInodeS_ev a2 (by omega)) (ev_pos rfl ?_)
  exact ev_now rfl


/-! ### wilen -/
theorem wi_len {xs : List S83} (hn : wiInodeS xs ≤ 4000000) (i : Nat) (h : i < xs.length) : xs.length ≤ 4000000 ∧ xs[i].f5.length ≤ 4000000 ∧ xs[i].f4.length ≤ 4000000 := by
  have h1 := sumBy_mem (f := wiInode) (List.getElem_mem h)
  have h2 : wiInode xs[i] = xs[i].f3.size + (wiRecS xs[i].f4 + (wiEntryS xs[i].f5 + 0)) := rfl
  have h3 : wiRecS xs[i].f4 = xs[i].f4.length + sumBy wiRec xs[i].f4 := rfl
  have h4 : wiEntryS xs[i].f5 = xs[i].f5.length + sumBy wiEntry xs[i].f5 := rfl
  unfold wiInodeS at hn
  omega

/-! ### above -/
def abE (i : Int) : List S85 → Option ByteArray
  | [] => none
  | e :: r => if e.f0 = i then some e.f1 else abE i r
/-- The first folder that links to an inode, from the inode numbered j on. -/
def abv (i : Int) : List S83 → Nat → Option (Nat × ByteArray)
  | [], _ => none
  | x :: r, j => if x.f0 = 2 then (match abE i x.f5 with | some e => some (j, e) | none => abv i r (j + 1)) else abv i r (j + 1)
theorem rdeE' (xs : List S85) (i : Nat) (h : i < xs.length) : rd_T85 xs (i : Int) = xs[i] := getD_at _ xs i h
theorem abv_lt (i : Int) : ∀ (xs : List S83) (j : Nat) (p : Nat × ByteArray), abv i xs j = some p → p.1 < j + xs.length
  | [], j, p, h => by simp [abv] at h
  | x :: r, j, p, h => by
    simp only [abv] at h
    split at h
    · split at h
      · injection h with h; subst h; simp
      · have := abv_lt i r (j + 1) p h; simp only [List.length_cons]; omega
    · have := abv_lt i r (j + 1) p h; simp only [List.length_cons]; omega

/-! ### split47 -/
/-- Cut at each byte 47. -/
def sp47 : List UInt8 → List (List UInt8)
  | [] => [[]]
  | b :: l => if b = 47 then [] :: sp47 l else match sp47 l with
    | [] => [[b]]
    | p :: r => (b :: p) :: r
theorem sp47_ne (l : List UInt8) : sp47 l ≠ [] := by
  cases l with
  | nil => simp [sp47]
  | cons b l => unfold sp47; split; · simp
                split <;> simp
theorem sp47_len (l : List UInt8) : (sp47 l).length ≤ l.length + 1 := by
  induction l with
  | nil => simp [sp47]
  | cons b l ih =>
    unfold sp47
    split
    · simp; omega
    · split
      · simp
      · rename_i p r h; rw [h] at ih; simp at ih ⊢; omega
theorem sp47_slash (l : List UInt8) : sp47 (47 :: l) = [] :: sp47 l := by simp [sp47]
theorem sp47_other (b : UInt8) (l : List UInt8) (hb : b ≠ 47) (p : List UInt8) (r : List (List UInt8)) (h : sp47 l = p :: r) : sp47 (b :: l) = (b :: p) :: r := by simp [sp47, hb, h]
/-- The pieces of 'l', the first of them begun with 'cur'. -/
def pcs (cur l : List UInt8) : List (List UInt8) := match sp47 l with
  | [] => [cur]
  | p :: r => (cur ++ p) :: r
theorem pcs_nil (l : List UInt8) : pcs [] l = sp47 l := by
  unfold pcs
  split
  · rename_i h; exact absurd h (sp47_ne l)
  · rename_i h; simp [h]
theorem pcs_end (cur : List UInt8) : pcs cur [] = [cur] := by simp [pcs, sp47]
theorem pcs_slash (cur l : List UInt8) : pcs cur (47 :: l) = cur :: sp47 l := by simp [pcs, sp47]
theorem pcs_other (cur : List UInt8) (b : UInt8) (l : List UInt8) (hb : b ≠ 47) : pcs cur (b :: l) = pcs (cur ++ [b]) l := by
  unfold pcs
  obtain ⟨p, r, h⟩ := List.exists_cons_of_ne_nil (sp47_ne l)
  rw [sp47_other b l hb p r h, h]
  simp
theorem index47_cons (b : UInt8) (l : List UInt8) : Lib.index (b :: l) [47] = if b = 47 then 0 else if Lib.index l [47] == -1 then -1 else Lib.index l [47] + 1 := by
  rw [Lib.index]
  by_cases h : b = 47
  · subst h; simp [List.isPrefixOf]
  · have : ([47] : List UInt8).isPrefixOf (b :: l) = false := by simp [List.isPrefixOf]; exact fun e => h e.symm
    rw [this, if_neg h]; rfl
theorem splitK47 : ∀ (l : List UInt8), Lib.splitK [47] 0 (l.count 47) l = sp47 l
  | [] => rfl
  | b :: l => by
    have ih := splitK47 l
    by_cases h : b = 47
    · subst h
      have e : Lib.index (47 :: l) [47] = 0 := by rw [index47_cons]; simp
      rw [List.count_cons_self, Lib.splitK, e]
      simp [sp47, ih]
    · rw [List.count_cons_of_ne (by simpa using h)]
      obtain ⟨p, r, hs⟩ := List.exists_cons_of_ne_nil (sp47_ne l)
      rw [sp47_other b l h p r hs]
      rw [hs] at ih
      cases hc : l.count 47 with
      | zero =>
        rw [hc] at ih
        simp only [Lib.splitK] at ih ⊢
        simp at ih
        obtain ⟨rfl, rfl⟩ := ih
        rfl
      | succ n =>
        rw [hc] at ih
        have hi := index47_cons b l
        rw [if_neg h] at hi
        have hg := Lib.index_ge l [47]
        by_cases hm : Lib.index l [47] = -1
        · rw [hm] at hi
          simp at hi
          rw [Lib.splitK, hm] at ih
          rw [Lib.splitK, hi]
          simp at ih ⊢
          exact ⟨ih.1, ih.2⟩
        · rw [if_neg (by simpa using hm)] at hi
          obtain ⟨j, hj⟩ : ∃ j : Nat, Lib.index l [47] = j := ⟨(Lib.index l [47]).toNat, by omega⟩
          rw [hj] at hi hm
          rw [Lib.splitK, hj, if_neg (by simp)] at ih
          have e2 : ((j : Int) + 1).toNat = j + 1 := by omega
          rw [Lib.splitK, hi, if_neg (by simp; omega), e2]
          simp at ih ⊢
          exact ⟨by rw [← ih.1], by rw [← ih.2]⟩
theorem split47B (s : ByteArray) : (Lib.splitB ⟨#[47]⟩ 0 (Lib.countB s ⟨#[47]⟩) s).map (·.data.toList) = sp47 s.data.toList := by
  rw [Lib.splitB_data]
  have : Lib.countB s ⟨#[47]⟩ = s.data.toList.count 47 := by unfold Lib.countB; exact Lib.count_one 47 _
  rw [this]
  exact splitK47 _
/-- 'l' ends with a 47. -/
def end47 : List UInt8 → Bool
  | [] => false
  | [b] => b == 47
  | _ :: b :: l => end47 (b :: l)
def two47 : List UInt8 → Bool
  | [] => false
  | [_] => false
  | a :: b :: l => (a == 47 && b == 47) || two47 (b :: l)
theorem contains47 : ∀ l : List UInt8, Lib.contains l [47, 47] = two47 l
  | [] => rfl
  | [b] => by simp [Lib.contains, Lib.index, two47, List.isPrefixOf]
  | a :: b :: l => by
    have ih := contains47 (b :: l)
    have hg := Lib.index_ge (b :: l) [47, 47]
    unfold Lib.contains at ih ⊢
    rw [Lib.index, two47]
    by_cases h : a = 47 ∧ b = 47
    · obtain ⟨rfl, rfl⟩ := h; simp [List.isPrefixOf]
    · have e : ([47, 47] : List UInt8).isPrefixOf (a :: b :: l) = false := by
        simp [List.isPrefixOf]; intro h1 h2; exact h ⟨h1.symm, h2.symm⟩
      have e2 : (a == 47 && b == 47) = false := by simp; intro h1; exact fun h2 => h ⟨h1, h2⟩
      rw [e, e2, Bool.false_or, ← ih]
      by_cases hm : Lib.index (b :: l) [47, 47] = -1
      · rw [hm]; rfl
      · rw [if_neg (by simp), if_neg (by simpa using hm)]
        rw [decide_eq_decide]; omega
theorem suffix47 : ∀ l : List UInt8, Lib.hasSuffix l [47] = end47 l
  | [] => rfl
  | [b] => by
    unfold Lib.hasSuffix
    simp [end47, List.isSuffixOf, List.isPrefixOf]
    rw [Bool.eq_iff_iff, beq_iff_eq, beq_iff_eq]; exact eq_comm
  | a :: b :: l => by
    rw [end47, ← suffix47 (b :: l)]
    unfold Lib.hasSuffix
    rw [Bool.eq_iff_iff, List.isSuffixOf_iff_suffix, List.isSuffixOf_iff_suffix]
    constructor
    · rintro ⟨t, ht⟩
      cases t with
      | nil => simp at ht
      | cons c t => simp at ht; exact ⟨t, ht.2⟩
    · rintro ⟨t, ht⟩; exact ⟨a :: t, by simp [ht]⟩
def emp (l : List (List UInt8)) : Bool := l.any (·.isEmpty)
theorem emp_sp : ∀ (l : List UInt8), (∀ b, b ≠ 47 → (two47 (b :: l) || end47 (b :: l)) = emp (sp47 l).tail) ∧ (two47 (47 :: l) || end47 (47 :: l)) = emp (sp47 l)
  | [] => by
    refine ⟨fun b hb => ?_, rfl⟩
    simp [two47, end47, emp, sp47, hb]
  | c :: l => by
    obtain ⟨h1, h2⟩ := emp_sp l
    by_cases hc : c = 47
    · subst hc
      refine ⟨fun b hb => ?_, ?_⟩
      · rw [sp47_slash, List.tail_cons, ← h2, two47, end47]
        simp [show (b == 47) = false from beq_eq_false_iff_ne.2 hb]
      · simp [two47, sp47_slash, emp]
    · obtain ⟨p, r, hs⟩ := List.exists_cons_of_ne_nil (sp47_ne l)
      have := h1 c hc
      rw [hs, List.tail_cons] at this
      refine ⟨fun b hb => ?_, ?_⟩
      · rw [sp47_other c l hc p r hs, List.tail_cons, ← this, two47, end47]; simp [show (b == 47) = false from beq_eq_false_iff_ne.2 hb]
      · rw [sp47_other c l hc p r hs, show emp ((c :: p) :: r) = emp r by simp [emp], ← this, two47, end47]; simp [show (c == 47) = false from beq_eq_false_iff_ne.2 hc]
/-- A byte of a name. -/
def nb (b : UInt8) : Bool := (decide (97 ≤ b.toNat) && decide (b.toNat ≤ 122)) || (decide (48 ≤ b.toNat) && decide (b.toNat ≤ 57))
def badB (b : UInt8) : Bool := !(nb b || b == 47)
theorem decode_low (s : ByteArray) (i : Nat) (h : (s.get! i).toNat < 128) : Utf8.decode s i = ((s.get! i).toNat, 1) := by
  unfold Utf8.decode
  simp only [Nat.add_zero]
  rw [if_pos h]
theorem decode_high (s : ByteArray) (i : Nat) (h : ¬ (s.get! i).toNat < 128) : 128 ≤ (Utf8.decode s i).1 := by
  unfold Utf8.decode
  simp only [Nat.add_zero]
  rw [if_neg h]
  have hr : 128 ≤ Utf8.runeError := by decide
  repeat' (first | exact hr | (split))
  all_goals first | exact hr | assumption | (simp only [ge_iff_le, Bool.and_eq_true, decide_eq_true_eq] at *; omega)
theorem idx_bad (p : Nat → Bool) (hp : ∀ r, p r = !((97 ≤ r && r ≤ 122) || (48 ≤ r && r ≤ 57) || r == 47)) (s : ByteArray) : ∀ (f pos : Nat), s.size ≤ pos + f →
    decide (0 ≤ Lib.idxFuncFrom p true s f pos) = (s.data.toList.drop pos).any badB
  | 0, pos, h => by
    rw [List.drop_of_length_le (by rw [Array.length_toList]; exact h)]
    simp [Lib.idxFuncFrom]
  | f + 1, pos, h => by
    unfold Lib.idxFuncFrom
    by_cases hlt : pos < s.size
    · rw [if_pos hlt]
      have hg : s.get! pos = s.data.toList[pos]'(by rw [Array.length_toList]; exact hlt) := by
        show s.data[pos]! = _
        rw [getElem!_pos s.data pos hlt]; simp
      rw [List.drop_eq_getElem_cons (by rw [Array.length_toList]; exact hlt), List.any_cons, ← hg]
      by_cases hb : (s.get! pos).toNat < 128
      · rw [decode_low s pos hb, hp]
        have e : (!((decide (97 ≤ (s.get! pos).toNat) && decide ((s.get! pos).toNat ≤ 122)) || (decide (48 ≤ (s.get! pos).toNat) && decide ((s.get! pos).toNat ≤ 57)) || (s.get! pos).toNat == 47)) = badB (s.get! pos) := by
          unfold badB nb
          congr 2
          rw [Bool.eq_iff_iff, beq_iff_eq, beq_iff_eq, ← UInt8.toNat_inj]; rfl
        rw [e]
        cases hq : badB (s.get! pos) with
        | true => rw [if_pos rfl]; simp
        | false => rw [if_neg (by simp), Bool.false_or]; exact idx_bad p hp s f (pos + 1) (by omega)
      · have hd := decode_high s pos hb
        have e1 : p (Utf8.decode s pos).1 = true := by
          rw [hp]; simp; omega
        have e2 : badB (s.get! pos) = true := by
          unfold badB nb
          have : (s.get! pos == 47) = false := by
            rw [beq_eq_false_iff_ne]; intro e; rw [e] at hb; exact hb (by decide)
          rw [this]; simp; omega
        rw [if_pos e1, e2]; simp
    · rw [if_neg hlt, List.drop_of_length_le (by rw [Array.length_toList]; exact Nat.le_of_not_lt hlt)]; simp

/-! ### lin -/
theorem l01In_eq (a b c : Int) : spec_l01In.f a b c = some (decide (b ≤ a ∧ a ≤ c)) := by
  unfold spec_l01In.f
  by_cases h : a ≥ b
  · rw [if_pos h]; congr 1; simp; omega
  · rw [if_neg h]; congr 1; simp; omega

/-! ### splitpath -/
def mkB (l : List UInt8) : ByteArray := ⟨l.toArray⟩
theorem mkB_list (l : List UInt8) : (mkB l).data.toList = l := rfl
theorem mkB_size (l : List UInt8) : (mkB l).size = l.length := b_size l
theorem mkB_data (b : ByteArray) : mkB b.data.toList = b := b_inj rfl
theorem mkB_map {xs : List ByteArray} {l : List (List UInt8)} (h : xs.map (·.data.toList) = l) : xs = l.map mkB := by
  rw [← h, List.map_map]
  have : (mkB ∘ fun x : ByteArray => x.data.toList) = id := by funext b; exact mkB_data b
  rw [this, List.map_id]
theorem btn (a : ByteArray) (i : Nat) (h : i < a.data.toList.length) : bt a (i : Int) = ((a.data.toList[i]).toNat : Int) := by
  have h2 : i < a.size := by rw [b_len] at h; exact h
  rw [← bt_at a (i : Int) (by simpa using h2)]
  simp only [Int.toNat_natCast]; rfl
def fin47 (out : List ByteArray) (long : Bool) (cur rest : List UInt8) : List ByteArray × Int :=
  if rest.any badB then ([], 1) else if emp (pcs cur rest) then ([], 1) else if long || (pcs cur rest).any (fun p => decide (7 < p.length)) then ([], 2) else (out ++ (pcs cur rest).map mkB, 0)
theorem nb_i (x : UInt8) : (decide ((97 : Int) ≤ (x.toNat : Int) ∧ (x.toNat : Int) ≤ 122) || decide ((48 : Int) ≤ (x.toNat : Int) ∧ (x.toNat : Int) ≤ 57)) = nb x := by
  unfold nb
  rw [Bool.eq_iff_iff]
  simp
  omega
theorem fin_bad (out : List ByteArray) (long : Bool) (cur rest : List UInt8) (x : UInt8) (h : badB x = true) : fin47 out long cur (x :: rest) = ([], 1) := by
  unfold fin47
  rw [if_pos (by simp [h])]
theorem fin_nb (out : List ByteArray) (long : Bool) (cur rest : List UInt8) (x : UInt8) (h : nb x = true) (h47 : x ≠ 47) : fin47 out long cur (x :: rest) = fin47 out long (cur ++ [x]) rest := by
  unfold fin47
  rw [pcs_other cur x rest h47, List.any_cons, show badB x = false by simp [badB, h], Bool.false_or]
theorem bad47 : badB 47 = false := by decide
theorem fin_empty (out : List ByteArray) (long : Bool) (rest : List UInt8) : fin47 out long [] (47 :: rest) = ([], 1) := by
  unfold fin47
  rw [pcs_slash, show emp ([] :: sp47 rest) = true by simp [emp]]
  split <;> rfl
theorem fin_slash (out : List ByteArray) (long : Bool) (cur rest : List UInt8) (hc : cur ≠ []) : fin47 out long cur (47 :: rest) = fin47 (out ++ [mkB cur]) (long || decide (7 < cur.length)) [] rest := by
  unfold fin47
  rw [pcs_slash, pcs_nil, List.any_cons, bad47, Bool.false_or]
  rw [show emp (cur :: sp47 rest) = emp (sp47 rest) by simp [emp, hc]]
  simp only [List.any_cons, List.map_cons, List.append_assoc, List.singleton_append, Bool.or_assoc]
theorem fin_end0 (out : List ByteArray) (long : Bool) : fin47 out long [] [] = ([], 1) := by
  unfold fin47
  rw [pcs_end]; rfl
theorem fin_end (out : List ByteArray) (long : Bool) (cur : List UInt8) (hc : cur ≠ []) : fin47 out long cur [] = if (long || decide (7 < cur.length)) then ([], 2) else (out ++ [mkB cur], 0) := by
  unfold fin47
  rw [pcs_end]
  simp [emp, hc]
theorem sSplit_l (a : ByteArray) (hn : a.size ≤ 60) : ∀ (i bg : Nat) (out : List ByteArray) (long : Bool), bg ≤ i → i ≤ a.size → out.length ≤ i → Ev (fun k => spec_SplitPath.l0 k a [] out long (bg : Int) (i : Int)) (fin47 out long ((a.data.toList.take i).drop bg) (a.data.toList.drop i))
  | i, bg, out, long, hb, hi, ho => by
    refine Ev.step (spec_SplitPath.l0.eq_2 _ _ _ _ _ _) ?_
    have hl := b_len a
    have hcl : ((a.data.toList.take i).drop bg).length = i - bg := by rw [List.length_drop, List.length_take]; omega
    have hE : a.extract (bg : Int).toNat (i : Int).toNat = mkB ((a.data.toList.take i).drop bg) := b_inj (by rw [b_cut, mkB_list]; rfl)
    have hw : wrap64 ((i : Int) - (bg : Int)) = (i : Int) - bg := w64 (by omega) (by omega)
    have hlim : out.length < 8796093022208 := by omega
    by_cases h : i < a.size
    · have h' : i < a.data.toList.length := by omega
      rw [drop_at a.data.toList i h']
      refine ev_pos (by omega) (ev_pos (by omega) (ev_pos (by omega) ?_))
      refine Ev.step (spec_SplitPath.j2.eq_2 _ _ _ _ _ _ _) ?_
      rw [btn a i h']
      have htk : (a.data.toList.take (i + 1)).drop bg = (a.data.toList.take i).drop bg ++ [a.data.toList[i]] := by
        rw [List.take_succ_eq_append_getElem h', List.drop_append_of_le_length (by rw [List.length_take]; omega)]
      have htk2 : (a.data.toList.take (i + 1)).drop (i + 1) = [] := List.drop_of_length_le (by rw [List.length_take]; omega)
      generalize hx : a.data.toList[i] = x at htk
      by_cases h47 : x = 47
      · subst h47
        refine ev_neg (by decide) ?_
        by_cases hbi : bg = i
        · subst hbi
          refine ev_pos rfl (ev_now ?_)
          rw [show (a.data.toList.take bg).drop bg = [] from List.eq_nil_of_length_eq_zero (by omega), fin_empty]
        · refine ev_neg (by omega) ?_
          rw [fin_slash _ _ _ _ (by intro e; rw [e] at hcl; simp at hcl; omega), hcl]
          have ih := fun lg => sSplit_l a hn (i + 1) (i + 1) (out ++ [mkB ((a.data.toList.take i).drop bg)]) lg (Nat.le_refl _) (by omega) (by simp; omega)
          rw [htk2] at ih
          cases long with
          | true =>
            refine ev_pos rfl (ev_pos (by omega) (ev_pos (by omega) (ev_pos (by omega) (ev_pos hlim ?_))))
            rw [hE, w64s i (by omega)]
            exact ih true
          | false =>
            refine ev_neg (by simp) (ev_pos (by omega) (ev_pos (by omega) (ev_pos (by omega) (ev_pos hlim ?_))))
            rw [hE, w64s i (by omega), hw]
            have e : decide ((i : Int) - (bg : Int) > 7) = decide (7 < i - bg) := by rw [decide_eq_decide]; omega
            rw [e, Bool.false_or]
            exact ih _
      · have hne : (((x.toNat : Int)) != 47) = true := by
          rw [bne_iff_ne]; intro e; exact h47 (UInt8.toNat_inj.1 (by have : x.toNat = 47 := by omega
                                                                     rw [this]; rfl))
        have hxl : x.toNat < 256 := UInt8.toNat_lt x
        refine ev_pos hne (ev_pos (by omega) (ev_pos (by omega) ?_))
        rw [w64 (by omega) (by omega)]
        have hj : ∀ v, v = !nb x → Ev (fun k => spec_SplitPath.j3 k a [] out long (bg : Int) (i : Int) v) (fin47 out long ((a.data.toList.take i).drop bg) (x :: a.data.toList.drop (i + 1))) := by
          intro v hv
          refine Ev.step (spec_SplitPath.j3.eq_2 _ _ _ _ _ _ _) ?_
          cases hq : nb x with
          | false => 
            rw [hq] at hv
            exact ev_pos hv (ev_now (fin_bad _ _ _ _ _ (by simp [badB, hq, h47])).symm)
          | true =>
            rw [hq] at hv
            subst hv
            refine ev_neg (by simp) ?_
            rw [fin_nb _ _ _ _ _ hq h47, w64s i (by omega), ← htk]
            exact sSplit_l a hn (i + 1) bg out long (by omega) (by omega) (by omega)
        have hnb := nb_i x
        refine Ev.bind (ev_eq (l01In_eq _ _ _)) ?_
        by_cases q1 : (97 : Int) ≤ (x.toNat : Int) ∧ (x.toNat : Int) ≤ 122
        · refine ev_pos (by simpa using q1) (hj _ ?_)
          rw [← hnb, decide_eq_true q1]; rfl
        · refine ev_neg (by simpa using q1) (Ev.bind (ev_eq (l01In_eq _ _ _)) (hj _ ?_))
          rw [← hnb, decide_eq_false q1, Bool.false_or]
    · have he : i = a.size := by omega
      refine ev_pos (by omega) (ev_neg (by omega) ?_)
      refine Ev.step (spec_SplitPath.j2.eq_2 _ _ _ _ _ _ _) ?_
      refine ev_neg (by simp) ?_
      rw [List.drop_of_length_le (by omega : a.data.toList.length ≤ i)]
      by_cases hbi : bg = i
      · subst hbi
        refine ev_pos rfl (ev_now ?_)
        rw [show (a.data.toList.take bg).drop bg = [] from List.eq_nil_of_length_eq_zero (by omega), fin_end0]
      · refine ev_neg (by omega) ?_
        rw [fin_end _ _ _ (by intro e; rw [e] at hcl; simp at hcl; omega), hcl]
        have last : ∀ (o : List ByteArray) (lg : Bool), Ev (fun k => spec_SplitPath.l0 k a [] o lg ((i + 1 : Nat) : Int) ((i + 1 : Nat) : Int)) (if lg then ([], 2) else (o, 0)) := by
          intro o lg
          refine Ev.step (spec_SplitPath.l0.eq_2 _ _ _ _ _ _) ?_
          refine ev_neg (by omega) ?_
          cases lg with
          | true => exact ev_pos rfl (ev_now rfl)
          | false => exact ev_neg (by simp) (ev_now rfl)
        cases long with
        | true =>
          refine ev_pos rfl (ev_pos (by omega) (ev_pos (by omega) (ev_pos (by omega) (ev_pos hlim ?_))))
          rw [hE, w64s i (by omega)]
          exact ev_to (last _ _) (by simp)
        | false =>
          refine ev_neg (by simp) (ev_pos (by omega) (ev_pos (by omega) (ev_pos (by omega) (ev_pos hlim ?_))))
          rw [hE, w64s i (by omega), hw]
          have e : decide ((i : Int) - (bg : Int) > 7) = decide (7 < i - bg) := by rw [decide_eq_decide]; omega
          rw [e, Bool.false_or]
          exact last _ _
  termination_by i => a.size + 1 - i
/-- What SplitPath comes to. -/
def spP (a : ByteArray) : List ByteArray × Int :=
  if 60 < a.size then ([], 1) else match a.data.toList with
    | [] => ([], 1)
    | c :: t => if c ≠ 47 then ([], 1) else if t = [] then ([], 0) else fin47 [] false [] t
theorem sSplit_ev (a : ByteArray) : Ev (fun k => spec_SplitPath.f k a) (spP a) := by
  unfold spec_SplitPath.f spP
  simp only [Option.bind_some]
  have hl := b_len a
  have j1 : Ev (fun k => spec_SplitPath.j0 k a [] true) ([], 1) := by
    refine Ev.step (spec_SplitPath.j0.eq_2 _ _ _) ?_
    exact ev_pos rfl (ev_now rfl)
  by_cases h : 60 < a.size
  · rw [if_pos h]; exact ev_pos (by omega) j1
  · rw [if_neg h]
    refine ev_neg (by omega) ?_
    rcases hq : a.data.toList with _ | ⟨c, t⟩
    · rw [hq] at hl; simp at hl
      exact ev_pos (by omega) j1
    · have hl' := hl
      rw [hq] at hl'; simp at hl'
      refine ev_neg (by omega) (ev_pos (by omega) ?_)
      have hb := btn a 0 (by omega)
      have e0 : a.data.toList[0]'(by omega) = c := by simp [hq]
      rw [e0] at hb
      rw [show bt a 0 = (c.toNat : Int) from hb]
      refine Ev.step (spec_SplitPath.j0.eq_2 _ _ _) ?_
      by_cases h47 : c = 47
      · subst h47
        refine ev_neg (by decide) ?_
        rw [b_toList, hq]
        simp only [ne_eq, not_true, if_false]
        by_cases ht : t = []
        · subst ht; exact ev_pos rfl (ev_now rfl)
        · rw [if_neg ht]
          refine ev_neg (by simp [ht]) (ev_to (sSplit_l a (by omega) 1 1 [] false (Nat.le_refl _) (by omega) (by simp)) ?_)
          rw [hq]; simp
      · refine ev_pos ?_ (ev_now (by simp [h47]))
        rw [bne_iff_ne]; intro e; exact h47 (UInt8.toNat_inj.1 (by have : c.toNat = 47 := by omega
                                                                   rw [this]; rfl))
def long7 (xs : List ByteArray) : Bool := xs.any (fun p => decide (7 < p.size))
theorem iIdx_l (xs : List ByteArray) (hn : xs.length ≤ 1000000) : ∀ i : Nat, i ≤ xs.length → ∃ r : Int, Ev (fun k => slices_IndexFunc_string.l0 k xs (xs.length : Int) (i : Int)) r ∧ decide (r ≥ 0) = long7 (xs.drop i)
  | i, hi => by
    by_cases h : i < xs.length
    · rw [drop_at xs i h]
      by_cases hs : 7 < xs[i].size
      · refine ⟨i, ?_, ?_⟩
        · refine Ev.step (slices_IndexFunc_string.l0.eq_2 _ _ _) ?_
          refine ev_pos (by omega) (ev_pos (by omega) (ev_pos (by omega) (Ev.bind (ev_eq rfl) (ev_pos ?_ (ev_now rfl)))))
          rw [rdOf_at _ xs i h]; exact decide_eq_true (by omega)
        · rw [show long7 (xs[i] :: xs.drop (i + 1)) = (decide (7 < xs[i].size) || long7 (xs.drop (i + 1))) from rfl, decide_eq_true hs]; simp
      · obtain ⟨r, hr, he⟩ := iIdx_l xs hn (i + 1) (by omega)
        refine ⟨r, ?_, ?_⟩
        · refine Ev.step (slices_IndexFunc_string.l0.eq_2 _ _ _) ?_
          refine ev_pos (by omega) (ev_pos (by omega) (ev_pos (by omega) (Ev.bind (ev_eq rfl) (ev_neg ?_ ?_))))
          · rw [rdOf_at _ xs i h]; simp; omega
          · rw [w64s i (by omega)]; exact hr
        · rw [he, show long7 (xs[i] :: xs.drop (i + 1)) = (decide (7 < xs[i].size) || long7 (xs.drop (i + 1))) from rfl, decide_eq_false hs]; simp
    · refine ⟨-1, ?_, ?_⟩
      · refine Ev.step (slices_IndexFunc_string.l0.eq_2 _ _ _) ?_
        exact ev_neg (by omega) (ev_now rfl)
      · rw [List.drop_of_length_le (by omega)]; rfl
  termination_by i => xs.length - i
theorem iHas_ev (xs : List ByteArray) (hn : xs.length ≤ 1000000) : Ev (fun k => slices_ContainsFunc_string.f k xs ()) (long7 xs) := by
  unfold slices_ContainsFunc_string.f slices_IndexFunc_string.f
  obtain ⟨r, hr, he⟩ := iIdx_l xs hn 0 (by omega)
  exact Ev.bind hr (ev_now (by rw [he, List.drop_zero]))
theorem iBad (a : ByteArray) : strings_ContainsFunc.f a () = some (a.data.toList.any badB) := by
  unfold strings_ContainsFunc.f
  congr 1
  have := idx_bad (fun r => (impl_SplitPath_1.f (r : Int)).getD false) (fun r => by
    unfold impl_SplitPath_1.f impl_isPathByte.f
    by_cases h1 : (r : Int) ≥ 97 <;> by_cases h2 : (r : Int) ≤ 122 <;> by_cases h3 : (r : Int) ≥ 48 <;> by_cases h4 : (r : Int) ≤ 57 <;> simp only [h1, h2, h3, h4, if_true, if_false, Option.bind_some, Option.getD_some] <;> rw [Bool.eq_iff_iff] <;> simp <;> omega) a a.size 0 (by omega)
  rw [List.drop_zero] at this
  exact this
theorem long7_mk (l : List (List UInt8)) : long7 (l.map mkB) = l.any (fun p => decide (7 < p.length)) := by
  unfold long7
  rw [List.any_map]
  rfl
theorem iSplit_ev (a : ByteArray) (ha : a.size ≤ 140737488351232) : Ev (fun k => impl_SplitPath.f k a) (spP a) := by
  unfold impl_SplitPath.f spP
  have hl := b_len a
  have j1 : Ev (fun k => impl_SplitPath.j0 k a true) ([], 1) := by
    refine Ev.step (impl_SplitPath.j0.eq_2 _ _) ?_
    exact ev_pos rfl (ev_now rfl)
  by_cases h : 60 < a.size
  · rw [if_pos h]; exact ev_pos (by omega) j1
  · rw [if_neg h]
    refine ev_neg (by omega) ?_
    have hC : strings_Contains.f a ⟨#[47, 47]⟩ = some (two47 a.data.toList) := by
      unfold strings_Contains.f
      rw [if_pos (by omega)]
      congr 1
      exact contains47 _
    have hS : strings_HasSuffix.f a ⟨#[47]⟩ = some (end47 a.data.toList) := by
      unfold strings_HasSuffix.f
      rw [if_pos (by omega)]
      congr 1
      exact suffix47 _
    rcases hq : a.data.toList with _ | ⟨c, t⟩
    · refine Ev.bind (ev_eq (show strings_HasPrefix.f a ⟨#[47]⟩ = some false by unfold strings_HasPrefix.f; rw [hq]; rfl)) ?_
      exact ev_neg (by simp) j1
    · have hP : strings_HasPrefix.f a ⟨#[47]⟩ = some (c == 47) := by
        unfold strings_HasPrefix.f
        rw [hq]
        congr 1
        show ([47] : List UInt8).isPrefixOf (c :: t) = _
        simp [List.isPrefixOf]
        rw [Bool.eq_iff_iff, beq_iff_eq, beq_iff_eq]; exact ⟨fun h => h.symm, fun h => h.symm⟩
      refine Ev.bind (ev_eq hP) ?_
      by_cases h47 : c = 47
      · subst h47
        refine ev_pos (by simp) ?_
        rw [b_toList, hC, hS, hq]
        simp only [ne_eq, not_true, if_false]
        have h1 : (1 : Int) ≤ (a.size : Int) := by rw [hq] at hl; simp at hl; omega
        by_cases ht : t = []
        · subst ht
          rw [if_pos rfl]
          refine ev_pos rfl (Ev.bind (ev_eq rfl) ?_)
          refine Ev.step (impl_SplitPath.j0.eq_2 _ _) ?_
          refine ev_neg (by decide) (Ev.bind (ev_eq (iBad a)) ?_)
          rw [hq]
          refine ev_neg (by decide) ?_
          rw [b_toList, hq]
          exact ev_pos rfl (ev_now rfl)
        · rw [if_neg ht]
          refine ev_neg (by simp [ht]) (Ev.bind (ev_eq rfl) ?_)
          have hemp := (emp_sp t).2
          have main : ∀ v, v = two47 (47 :: t) → end47 (47 :: t) = false → Ev (fun k => impl_SplitPath.j0 k a v) (fin47 [] false [] t) := by
            intro v hv he
            rw [he, Bool.or_false] at hemp
            refine Ev.step (impl_SplitPath.j0.eq_2 _ _) ?_
            unfold fin47
            rw [pcs_nil]
            cases hv2 : v with
            | true =>
              refine ev_pos rfl (ev_now ?_)
              rw [← hemp, ← hv, hv2]
              split <;> rfl
            | false =>
              refine ev_neg (by simp) (Ev.bind (ev_eq (iBad a)) ?_)
              rw [hq, List.any_cons, bad47, Bool.false_or, ← hemp, ← hv, hv2]
              cases hb : t.any badB with
              | true => exact ev_pos rfl (ev_now (by simp))
              | false =>
                refine ev_neg (by simp) ?_
                rw [b_toList, hq]
                refine ev_neg (by simp [ht]) (ev_pos h1 ?_)
                have hsz : (a.extract 1 a.size).data.toList = t := by
                  rw [b_cut, ← hl, List.take_length, hq]; rfl
                have hsp : strings_Split.f (a.extract 1 a.size) ⟨#[47]⟩ = some ((sp47 t).map mkB) := by
                  unfold strings_Split.f
                  have hs2 : (a.extract 1 a.size).size < 4294967281 := by
                    rw [← b_len, hsz]; rw [hq] at hl; simp at hl; omega
                  rw [if_pos ⟨hs2, by decide⟩]
                  congr 1
                  refine mkB_map ?_
                  rw [split47B, hsz]
                refine Ev.bind (ev_eq hsp) ?_
                have hln : ((sp47 t).map mkB).length ≤ 1000000 := by
                  have := sp47_len t
                  rw [List.length_map]; rw [hq] at hl; simp at hl; omega
                refine Ev.bind (iHas_ev _ hln) ?_
                rw [long7_mk]
                cases hg : (sp47 t).any (fun p => decide (7 < p.length)) with
                | true => exact ev_pos rfl (ev_now (by simp))
                | false => exact ev_neg (by simp) (ev_now (by simp))
          cases he : end47 (47 :: t) with
          | true =>
            refine ev_pos rfl (ev_to j1 ?_)
            rw [he, Bool.or_true] at hemp
            unfold fin47
            rw [pcs_nil, ← hemp]
            split <;> rfl
          | false =>
            refine ev_neg (by simp) (Ev.bind (ev_eq rfl) ?_)
            exact main _ rfl he
      · refine ev_neg (by simp [h47]) (ev_to j1 ?_)
        simp [h47]

/-! ### splitlen -/
theorem spP_len (a : ByteArray) : (spP a).1.length ≤ 1000 := by
  unfold spP
  split
  · simp
  · rename_i h
    have hl := b_len a
    split
    · simp
    · rename_i c t hq
      split
      · simp
      · split
        · simp
        · unfold fin47
          have := sp47_len t
          rw [hq] at hl; simp at hl
          repeat' (first | (split) | (simp; done))
          rw [pcs_nil]; simp; omega
theorem sumBy_le_append {α : Type} (f : α → Nat) (xs : List α) (n : Nat) : sumBy f (xs.take n) ≤ sumBy f xs := by
  induction xs generalizing n with
  | nil => simp
  | cons x r ih =>
    cases n with
    | zero => simp [sumBy]
    | succ n => rw [List.take_succ_cons, sumBy_cons, sumBy_cons]; have := ih n; omega
theorem sp47_sum : ∀ l : List UInt8, sumBy (fun p : List UInt8 => p.length) (sp47 l) ≤ l.length
  | [] => by simp [sp47, sumBy]
  | b :: l => by
    have ih := sp47_sum l
    by_cases h : b = 47
    · subst h; rw [sp47_slash, sumBy_cons]; simp; omega
    · obtain ⟨p, r, hs⟩ := List.exists_cons_of_ne_nil (sp47_ne l)
      rw [sp47_other b l h p r hs, sumBy_cons]
      rw [hs, sumBy_cons] at ih
      simp; omega
theorem sumBy_mk (l : List (List UInt8)) : sumBy (fun b : ByteArray => b.size) (l.map mkB) = sumBy (fun p : List UInt8 => p.length) l := by
  induction l with
  | nil => rfl
  | cons p r ih => rw [List.map_cons, sumBy_cons, sumBy_cons, ih, mkB_size]
/-- The ways of a good path. -/
theorem spP_ok (a : ByteArray) (h : (spP a).2 = 0) : a.size ≤ 60 ∧ ((a.data.toList = [47] ∧ (spP a).1 = []) ∨ ∃ t, a.data.toList = 47 :: t ∧ t ≠ [] ∧ t.any badB = false ∧ emp (sp47 t) = false ∧ (sp47 t).any (fun p => decide (7 < p.length)) = false ∧ (spP a).1 = (sp47 t).map mkB) := by
  unfold spP at h ⊢
  split at h
  · cases h
  rename_i h60
  rw [if_neg h60]
  refine ⟨by omega, ?_⟩
  split at h
  · cases h
  · rename_i c t hq
    rw [hq]
    split at h
    · cases h
    · rename_i h47
      simp only [ne_eq, Decidable.not_not] at h47
      subst h47
      split at h
      · rename_i ht
        subst ht
        exact Or.inl ⟨rfl, by simp⟩
      · rename_i ht
        right
        refine ⟨t, rfl, ht, ?_⟩
        simp only [ne_eq, not_true, if_false, if_neg ht]
        unfold fin47 at h ⊢
        rw [pcs_nil] at h ⊢
        cases hb : t.any badB with
        | true => rw [hb] at h; cases h
        | false =>
          cases he : emp (sp47 t) with
          | true => rw [hb, he] at h; cases h
          | false =>
            cases hl : (sp47 t).any (fun p => decide (7 < p.length)) with
            | true => rw [hb, he, hl] at h; cases h
            | false => simp
theorem spP_sum (a : ByteArray) : (spP a).1.length + sumBy (fun b : ByteArray => b.size) (spP a).1 ≤ 1000000 := by
  unfold spP
  split
  · simp [sumBy]
  · rename_i h
    have hl := b_len a
    split
    · simp [sumBy]
    · rename_i c t hq
      rw [hq] at hl; simp at hl
      split
      · simp [sumBy]
      · split
        · simp [sumBy]
        · unfold fin47
          have h1 := sp47_len t
          have h2 := sp47_sum t
          repeat' (first | (simp [sumBy]; done) | split)
          rw [pcs_nil, List.nil_append, sumBy_mk, List.length_map]; omega

/-! ### within -/
theorem within_eq (a b c : Int) : impl_within.f a b c = some (decide (b ≤ a ∧ a ≤ c)) := by
  unfold impl_within.f
  by_cases h : a ≥ b
  · rw [if_pos h]; congr 1; simp; omega
  · rw [if_neg h]; congr 1; simp; omega

/-! ### findinode -/
def enP (p : ByteArray) : S85 → S85 → Bool := fun _ y => y.f1.toList == p.toList
theorem enF_lt (p : ByteArray) : ∀ (xs : List S85) (i : Nat), 0 ≤ Lib.idxByFrom (enP p) z85 xs i → Lib.idxByFrom (enP p) z85 xs i < ((i + xs.length : Nat) : Int)
  | [], i, h => by simp [Lib.idxByFrom] at h
  | x :: r, i, h => by
    unfold Lib.idxByFrom at h ⊢
    by_cases hp : enP p z85 x = true
    · rw [if_pos hp]; simp; omega
    · rw [if_neg hp] at h ⊢
      have := enF_lt p r (i + 1) h
      simp at this ⊢; omega
theorem en_lt (p : ByteArray) (xs : List S85) (h : ¬ Lib.idxBy (enP p) xs z85 < 0) : 0 ≤ Lib.idxBy (enP p) xs z85 ∧ Lib.idxBy (enP p) xs z85 < (xs.length : Int) := by
  have h0 : 0 ≤ Lib.idxBy (enP p) xs z85 := by omega
  refine ⟨h0, ?_⟩
  have := enF_lt p xs 0 h0
  rw [Nat.zero_add] at this
  exact this
/-- The number that the entry of a name tells; -1: there is none. -/
def enN (p : ByteArray) : List S85 → Int
  | [] => -1
  | y :: r => if y.f1.toList = p.toList then y.f0 else enN p r
theorem enN_idx (p : ByteArray) (zs : List S85) : ∀ (i : Nat), i ≤ zs.length → enN p (zs.drop i) = if Lib.idxByFrom (enP p) z85 (zs.drop i) i < 0 then -1 else (rd_T85 zs (Lib.idxByFrom (enP p) z85 (zs.drop i) i)).f0
  | i, hi => by
    by_cases h : i < zs.length
    · rw [drop_at zs i h]
      have e1 : Lib.idxByFrom (enP p) z85 (zs[i] :: zs.drop (i + 1)) i = if enP p z85 zs[i] = true then (i : Int) else Lib.idxByFrom (enP p) z85 (zs.drop (i + 1)) (i + 1) := rfl
      have e2 : enN p (zs[i] :: zs.drop (i + 1)) = if zs[i].f1.toList = p.toList then zs[i].f0 else enN p (zs.drop (i + 1)) := rfl
      rw [e1, e2]
      by_cases he : zs[i].f1.toList = p.toList
      · have hp : enP p z85 zs[i] = true := by simpa [enP] using he
        rw [if_pos he, if_pos hp, if_neg (by omega), rdeE' zs i h]
      · have hp : ¬ enP p z85 zs[i] = true := by simpa [enP] using he
        rw [if_neg he, if_neg hp]
        exact enN_idx p zs (i + 1) (by omega)
    · rw [List.drop_of_length_le (by omega)]
      rfl
  termination_by i => zs.length - i
def fiL (xs : List S83) : List ByteArray → Int → Int
  | [], c => c
  | p :: r, c => if (rd_T83 xs c).f0 = 2 then (if 0 ≤ enN p (rd_T83 xs c).f5 ∧ enN p (rd_T83 xs c).f5 ≤ (xs.length : Int) - 1 then fiL xs r (enN p (rd_T83 xs c).f5) else -1) else -1
def fiV (xs : List S83) (a : ByteArray) : Int := if (spP a).2 = 0 then (if xs.length = 0 then -1 else fiL xs (spP a).1 0) else -1
theorem sFi_1 (a : Int) (b : List Int) (xs : List S83) (hn : wiInodeS xs ≤ 4000000) (ps : List ByteArray) (c i : Nat) (hc : c < xs.length) (hi : i < ps.length) (hk : xs[c].f0 = 2) (R : Int)
    (next : Ev (fun k => (spec_l01In.f (enN ps[i] xs[c].f5) 0 (wrap64 ((xs.length : Int) - 1))).bind fun t141 => (if t141 = true then (spec_FindInode.l0 k ps (enN ps[i] xs[c].f5) (wrap64 ((i : Int) + 1)) a b xs) else (some (-1)))) R) : ∀ m : Nat, m ≤ xs[c].f5.length → enN ps[i] (xs[c].f5.drop m) = enN ps[i] xs[c].f5 → Ev (fun k => spec_FindInode.l1 k ps (c : Int) (i : Int) (-1) false (m : Int) a b xs) R
  | m, hm, he => by
    have hb := wi_len hn c hc
    refine Ev.step (spec_FindInode.l1.eq_2 _ _ _ _ _ _ _ _ _) ?_
    refine ev_pos (by omega) (ev_pos (by omega) ?_)
    rw [rdiInode xs c hc]
    by_cases h : m < xs[c].f5.length
    · refine ev_pos (by omega) (ev_pos hk ?_)
      refine Ev.step (spec_FindInode.j3.eq_2 _ _ _ _ _ _ _ _ _ _) ?_
      refine ev_pos rfl (ev_pos (by omega) (ev_pos (by omega) (ev_pos (by omega) ?_)))
      rw [rdiInode xs c hc]
      refine ev_pos (by omega) (ev_pos (by omega) (ev_pos (by omega) ?_))
      rw [rdeE' _ m h, rdOf_at _ ps i hi, w64s m (by omega)]
      rw [drop_at _ m h] at he
      change (if xs[c].f5[m].f1.toList = ps[i].toList then xs[c].f5[m].f0 else enN ps[i] (xs[c].f5.drop (m + 1))) = enN ps[i] xs[c].f5 at he
      by_cases hq : xs[c].f5[m].f1.toList = ps[i].toList
      · rw [if_pos hq] at he
        refine ev_pos hq ?_
        refine Ev.step (spec_FindInode.l1.eq_2 _ _ _ _ _ _ _ _ _) ?_
        refine ev_pos (by omega) (ev_pos (by omega) ?_)
        rw [rdiInode xs c hc]
        have fin : Ev (fun k => spec_FindInode.j3 k ps (c : Int) (i : Int) xs[c].f5[m].f0 true ((m + 1 : Nat) : Int) false a b xs) R := by
          refine Ev.step (spec_FindInode.j3.eq_2 _ _ _ _ _ _ _ _ _ _) ?_
          refine ev_neg (by simp) ?_
          rw [he]; exact next
        by_cases h2 : m + 1 < xs[c].f5.length
        · exact ev_pos (by omega) (ev_pos hk fin)
        · exact ev_neg (by omega) fin
      · rw [if_neg hq] at he
        exact ev_neg hq (sFi_1 a b xs hn ps c i hc hi hk R next (m + 1) (by omega) he)
    · refine ev_neg (by omega) ?_
      refine Ev.step (spec_FindInode.j3.eq_2 _ _ _ _ _ _ _ _ _ _) ?_
      refine ev_neg (by simp) ?_
      have : m = xs[c].f5.length := by omega
      subst this
      rw [List.drop_of_length_le (Nat.le_refl _)] at he
      rw [← he] at next
      exact next
  termination_by m => xs[c].f5.length - m
theorem sFi_l (a : Int) (b : List Int) (xs : List S83) (hn : wiInodeS xs ≤ 4000000) (hl : xs.length ≤ 4000000) (ps : List ByteArray) (hp : ps.length ≤ 1000) : ∀ (i : Nat) (c : Int), i ≤ ps.length → 0 ≤ c → c < (xs.length : Int) → Ev (fun k => spec_FindInode.l0 k ps c (i : Int) a b xs) (fiL xs (ps.drop i) c)
  | i, c, hi, h0, h1 => by
    refine Ev.step (spec_FindInode.l0.eq_2 _ _ _ _ _ _) ?_
    by_cases h : i < ps.length
    · refine ev_pos (by omega) ?_
      obtain ⟨m, rfl⟩ := Int.eq_ofNat_of_zero_le h0
      have hc : m < xs.length := by omega
      rw [drop_at ps i h]
      unfold fiL
      rw [rdiInode xs m hc]
      have hw : wrap64 ((xs.length : Int) - 1) = (xs.length : Int) - 1 := w64 (by omega) (by omega)
      by_cases hk : xs[m].f0 = 2
      · rw [if_pos hk]
        refine sFi_1 a b xs hn ps m i hc h hk _ ?_ 0 (by omega) (by rw [List.drop_zero])
        rw [hw, l01In_eq]
        refine Ev.bind (Ev.now _) ?_
        by_cases hq : 0 ≤ enN ps[i] xs[m].f5 ∧ enN ps[i] xs[m].f5 ≤ (xs.length : Int) - 1
        · rw [w64s i (by omega)]
          exact ev_pos (decide_eq_true hq) (ev_to (sFi_l a b xs hn hl ps hp (i + 1) _ (by omega) hq.1 (by omega)) (if_pos hq).symm)
        · exact ev_neg (by simpa using hq) (ev_now (if_neg hq).symm)
      · rw [if_neg hk]
        have fin : Ev (fun k => spec_FindInode.j3 k ps (m : Int) (i : Int) (-1) false 0 false a b xs) (-1) := by
          refine Ev.step (spec_FindInode.j3.eq_2 _ _ _ _ _ _ _ _ _ _) ?_
          refine ev_neg (by simp) ?_
          rw [l01In_eq]
          refine Ev.bind (Ev.now _) (ev_neg (by simp) (ev_now rfl))
        refine Ev.step (spec_FindInode.l1.eq_2 _ _ _ _ _ _ _ _ _) ?_
        refine ev_pos (by omega) (ev_pos (by omega) ?_)
        rw [rdiInode xs m hc]
        by_cases h2 : (0 : Int) < (xs[m].f5.length : Int)
        · exact ev_pos h2 (ev_neg hk fin)
        · exact ev_neg h2 fin
    · refine ev_neg (by omega) (ev_now ?_)
      rw [List.drop_of_length_le (by omega)]; rfl
  termination_by i => ps.length - i
theorem sFi_ev (a : Int) (b : List Int) (xs : List S83) (p : ByteArray) (hn : wiInodeS xs ≤ 4000000) (hl : xs.length ≤ 4000000) : Ev (fun k => spec_FindInode.f k a b xs p) (fiV xs p) := by
  unfold spec_FindInode.f fiV
  refine Ev.bind (sSplit_ev p) ?_
  have hp := spP_len p
  by_cases h : (spP p).2 = 0
  · rw [if_pos h]
    refine ev_pos h ?_
    refine Ev.step (spec_FindInode.j0.eq_2 _ _ _ _ _) ?_
    by_cases h0 : xs.length = 0
    · rw [if_pos h0]; exact ev_pos (by simp [h0]) (ev_now rfl)
    · rw [if_neg h0]
      exact ev_neg (by rw [beq_iff_eq]; omega) (sFi_l a b xs hn hl _ hp 0 0 (by omega) (by omega) (by omega))
  · rw [if_neg h]
    refine ev_neg h ?_
    refine Ev.step (spec_FindInode.j0.eq_2 _ _ _ _ _) ?_
    exact ev_pos rfl (ev_now rfl)
theorem iIdxE_eq (xs : List S85) (p : ByteArray) (hn : xs.length ≤ 4000000) : slices_IndexFunc_Entry_g71.f xs p = some (Lib.idxBy (enP p) xs z85) := by
  unfold slices_IndexFunc_Entry_g71.f
  rw [if_pos (by omega)]; rfl
theorem iFi_l (a : Int) (b : List Int) (xs : List S83) (hn : wiInodeS xs ≤ 4000000) (hl : xs.length ≤ 4000000) (ps : List ByteArray) (hp : ps.length ≤ 1000) : ∀ (i : Nat) (c : Int), i ≤ ps.length → 0 ≤ c → c < (xs.length : Int) → Ev (fun k => impl_FindInode.l0 k c ps (ps.length : Int) (i : Int) a b xs) (fiL xs (ps.drop i) c)
  | i, c, hi, h0, h1 => by
    refine Ev.step (impl_FindInode.l0.eq_2 _ _ _ _ _ _ _) ?_
    by_cases h : i < ps.length
    · obtain ⟨m, rfl⟩ := Int.eq_ofNat_of_zero_le h0
      have hc : m < xs.length := by omega
      have hb := wi_len hn m hc
      refine ev_pos (by omega) (ev_pos (by omega) (ev_pos (by omega) (ev_pos (by omega) (ev_pos (by omega) ?_))))
      rw [drop_at ps i h, rdOf_at _ ps i h]
      unfold fiL
      rw [rdiInode xs m hc]
      refine Ev.bind (ev_eq (iIdxE_eq _ _ (by omega))) ?_
      have hw : wrap64 ((xs.length : Int) - 1) = (xs.length : Int) - 1 := w64 (by omega) (by omega)
      have hE := enN_idx ps[i] xs[m].f5 0 (by omega)
      rw [List.drop_zero] at hE
      change enN ps[i] xs[m].f5 = if Lib.idxBy (enP ps[i]) xs[m].f5 z85 < 0 then -1 else (rd_T85 xs[m].f5 (Lib.idxBy (enP ps[i]) xs[m].f5 z85)).f0 at hE
      by_cases hk : xs[m].f0 = 2
      · rw [if_pos hk]
        refine ev_pos hk ?_
        by_cases hq : Lib.idxBy (enP ps[i]) xs[m].f5 z85 < 0
        · rw [if_pos hq] at hE
          rw [hE]
          exact ev_pos hq (ev_now (by rw [if_neg (by omega)]))
        · rw [if_neg hq] at hE
          have hr := en_lt ps[i] xs[m].f5 hq
          refine ev_neg hq (ev_pos hr.1 (ev_pos hr.2 ?_))
          rw [← hE, hw, within_eq]
          refine Ev.bind (Ev.now _) ?_
          by_cases hq2 : 0 ≤ enN ps[i] xs[m].f5 ∧ enN ps[i] xs[m].f5 ≤ (xs.length : Int) - 1
          · rw [w64s i (by omega)]
            exact ev_pos (decide_eq_true hq2) (ev_to (iFi_l a b xs hn hl ps hp (i + 1) _ (by omega) hq2.1 (by omega)) (if_pos hq2).symm)
          · exact ev_neg (by simpa using hq2) (ev_now (if_neg hq2).symm)
      · rw [if_neg hk]; exact ev_neg hk (ev_now rfl)
    · refine ev_neg (by omega) (ev_now ?_)
      rw [List.drop_of_length_le (by omega)]; rfl
  termination_by i => ps.length - i
theorem iFi_ev (a : Int) (b : List Int) (xs : List S83) (p : ByteArray) (hp0 : p.size ≤ 140737488351232) (hn : wiInodeS xs ≤ 4000000) (hl : xs.length ≤ 4000000) : Ev (fun k => impl_FindInode.f k a b xs p) (fiV xs p) := by
  unfold impl_FindInode.f fiV
  refine Ev.bind (iSplit_ev p hp0) ?_
  have hp := spP_len p
  by_cases h : (spP p).2 = 0
  · rw [if_pos h]
    refine ev_pos h ?_
    refine Ev.step (impl_FindInode.j0.eq_2 _ _ _ _ _) ?_
    by_cases h0 : xs.length = 0
    · rw [if_pos h0]; exact ev_pos (by simp [h0]) (ev_now rfl)
    · rw [if_neg h0]
      exact ev_neg (by rw [beq_iff_eq]; omega) (iFi_l a b xs hn hl _ hp 0 0 (by omega) (by omega) (by omega))
  · rw [if_neg h]
    refine ev_neg h ?_
    refine Ev.step (impl_FindInode.j0.eq_2 _ _ _ _ _) ?_
    exact ev_pos rfl (ev_now rfl)

/-! ### FnExactFindInode -/
theorem FnExactFindInode : laws_FnExactFindInode.Law := by
  intro a b xs p _ hb hx hp
  apply Ev.rounds
  unfold laws_FnExactFindInode.f
  by_cases h0 : (p.size : Int) > 1048576
  · exact ev_pos h0 (ev_now rfl)
  refine ev_neg h0 (Ev.bind (szPart_ev a b xs (by omega) ⟨by omega, hx.2⟩ 1048576 (by omega) (by omega)) ?_)
  by_cases h : left 1048576 (wtPart a b xs) < 0
  · exact ev_pos h (ev_now rfl)
  have hw := (left_le (a := 1048576) (t := wtPart a b xs) (by omega)).1
  have hi : wiPart a b (xs.map cvInode) = wtPart a b xs := by simp only [wiPart, wtPart, wiInodeS_cv]
  have hn : wiInodeS (xs.map cvInode) ≤ 4000000 := by rw [wiInodeS_cv]; unfold wtPart at hw; omega
  have hl : (xs.map cvInode).length ≤ 4000000 := by unfold wiInodeS at hn; omega
  refine ev_neg h ?_
  repeat' first
    | (with_reducible exact ev_now rfl)
    | (with_reducible refine Ev.bind (toPart_ev a b xs (by omega)) ?_)
    | (with_reducible refine Ev.bind (sFi_ev _ _ _ _ hn hl) ?_)
    | (with_reducible refine Ev.bind (iFi_ev _ _ _ _ (by omega) hn hl) ?_)
    | (with_reducible refine Ev.bind (eqPart_ev a b (xs.map cvInode) (by omega)) ?_)
    | (with_reducible refine ev_pos rfl ?_)
    | ((with_reducible refine ev_pos ?c_ ?_); (case c_ => first | rfl | omega | (dsimp only; omega) | (simp only [decide_eq_true_eq]; omega) | (simp; done)))
    | ((with_reducible refine ev_neg ?c_ ?_); (case c_ => first | rfl | omega | (dsimp only; omega) | (simp only [decide_eq_true_eq]; omega) | (simp; done)))
    | ((with_reducible refine ev_now ?c_); (case c_ => first | rfl | (simp; done)))

end Go.Proofs.YtabgpbmaoelohaaDoor.Pure
