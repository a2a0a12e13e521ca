/- The pure statement of FnExactInodeWords is proved: for all arguments within the row's own bounds the Lean function that the law's walk comes to answers true. Conditions: none beyond these bounds. -/
import Derived.Test.YtcdnfkoahajhhaaStFnExactInodeWords
import Derived.Test.YtcdnfkoahajhhaaBase
namespace Go.Proofs.Ytcdnfkoahajhhaa.Pure
open Go.RowKit Go.Proofs.Ytcdnfkoahajhhaa.PFnExactInodeWords Go.Proofs.YtcdnfkoahajhhaaW.PrintWords Go.Proofs.YtcdnfkoahajhhaaW.PrintLast Go.Proofs.Ytcdnfkoahajhhaa.Base
set_option linter.unusedVariables false
set_option linter.unusedSimpArgs false
/-! ### t_Rec -/
def wtRec (x : S181) : Nat := x.f2.size + (0)
def wiRec (x : S170) : Nat := x.f2.size + (0)
def wtRecS (xs : List S181) : Nat := xs.length + sumBy wtRec xs
def wiRecS (xs : List S170) : Nat := xs.length + sumBy wiRec xs
def cvRec (x : S181) : S170 := ⟨x.f0, x.f1, x.f2⟩
theorem wiRec_cv (x : S181) : wiRec (cvRec x) = wtRec x := by simp only [wiRec, wtRec, cvRec]
theorem wiRecS_cv (xs : List S181) : wiRecS (xs.map cvRec) = wtRecS xs := by
  unfold wiRecS wtRecS sumBy
  rw [List.length_map, List.map_map, List.map_congr_left (f := wiRec ∘ cvRec) (g := wtRec) (fun x _ => wiRec_cv x)]
theorem rdlRec (xs : List S181) (i : Nat) (h : i < xs.length) : rd_T181 xs (i : Int) = xs[i] := getD_at _ xs i h
theorem rdiRec (xs : List S170) (i : Nat) (h : i < xs.length) : rd_T170 xs (i : Int) = xs[i] := getD_at _ xs i h
theorem szRec_ev (x : S181) (hx : Wf181 x) (a : Int) (g0 : 0 ≤ a) (g1 : a ≤ 1048576) : Ev (fun k => laws_szRec.f x.f0 x.f1 x.f2 a) (left a (wtRec x)) := by
  unfold laws_szRec.f wtRec
  have b2 := (hx.2.2)
  rw [w64 (x := a - (x.f2.size : Int)) (by omega) (by omega)]
  refine ev_sub a (by omega) (fun q2 => ?_)
  exact ev_now (left_zero (by omega)).symm
theorem szRecS_l (xs : List S181) (hn : xs.length ≤ 1048576) (hw : ∀ y ∈ xs, Wf181 y) : ∀ (i : Nat) (a : Int), i ≤ xs.length → 0 ≤ a → a ≤ 1048576 → Ev (fun k => laws_szRecS.l0 k xs a i) (left a (sumBy wtRec (xs.drop i)))
  | i, a, hi, h0, h1 => by
    refine Ev.step (laws_szRecS.l0.eq_2 _ _ _) ?_
    by_cases h : i < xs.length
    · refine ev_pos (by omega) (ev_pos (by omega) ?_)
      rw [rdlRec xs i h, w64s i (by omega), drop_at xs i h, sumBy_cons]
      refine Ev.bind (szRec_ev _ (hw _ (List.getElem_mem h)) a h0 h1) (ev_call (fun q => ?_))
      have := left_le q
      exact szRecS_l xs hn hw (i + 1) _ (by omega) (by omega) (by omega)
    · refine ev_neg (by omega) (ev_now ?_)
      rw [List.drop_of_length_le (by omega), sumBy_nil, left_zero h0]
  termination_by i => xs.length - i
theorem szRecS_ev (xs : List S181) (hb : xs.length ≤ 140737488351232) (hw : ∀ y ∈ xs, Wf181 y) (a : Int) (h0 : 0 ≤ a) (h1 : a ≤ 1048576) : Ev (fun k => laws_szRecS.f k xs a) (left a (wtRecS xs)) := by
  unfold laws_szRecS.f wtRecS
  rw [w64 (x := a - (xs.length : Int)) (by omega) (by omega)]
  refine ev_sub a h0 (fun q => ?_)
  have := szRecS_l xs (by omega) hw 0 (a - xs.length) (by omega) (by omega) (by omega)
  rw [List.drop_zero] at this
  exact this

theorem toRecS_l (xs : List S181) (hn : wtRecS xs ≤ 1048576) : ∀ (i : Nat) (ys : List S170), i ≤ xs.length → ys.length = xs.length → ys.take i = (xs.map cvRec).take i → Ev (fun k => laws_toRecS.l0 k xs ys i) (xs.map cvRec)
  | i, ys, hi, hl, ht => by
    have hn2 : xs.length ≤ 1048576 := by unfold wtRecS at hn; omega
    refine Ev.step (laws_toRecS.l0.eq_2 _ _ _) ?_
    by_cases h : i < xs.length
    · refine ev_pos (by omega) (ev_pos (by omega) ?_)
      have hx : wtRec xs[i] ≤ 1048576 := by have := sumBy_mem (f := wtRec) (List.getElem_mem h); unfold wtRecS at hn; omega
      rw [rdlRec xs i h, w64s i (by omega)]
      refine Ev.bind (ev_eq rfl) (ev_pos (by omega) ?_)
      rw [Int.toNat_natCast]
      exact toRecS_l xs hn (i + 1) _ (by omega) (by simp [hl]) (take_set (by simp [hl]) ht (by simpa using h) (by simp [cvRec]))
    · have : i = xs.length := by omega
      subst this
      exact ev_neg (by omega) (ev_now (take_all (by simp [hl]) (by simpa using ht)))
  termination_by i => xs.length - i
theorem toRecS_ev (xs : List S181) (hn : wtRecS xs ≤ 1048576) : Ev (fun k => laws_toRecS.f k xs) (xs.map cvRec) := by
  have hn2 : xs.length ≤ 1048576 := by unfold wtRecS at hn; omega
  unfold laws_toRecS.f
  exact ev_pos (by omega) (ev_pos (by omega) (toRecS_l xs hn 0 _ (by omega) (by simp) (by simp)))

theorem eqRec_ev (x : S170) : Ev (fun _ => laws_eqRec.f x.f0 x.f1 x.f2 x.f0 x.f1 x.f2) true := ev_eq (by simp [laws_eqRec.f])
theorem eqRecS_l (xs : List S170) (hn : wiRecS xs ≤ 4000000) : ∀ (i : Nat), i ≤ xs.length → Ev (fun k => laws_eqRecS.l0 k xs xs i) true
  | i, hi => by
    have hn2 : xs.length ≤ 4000000 := by unfold wiRecS at hn; omega
    refine Ev.step (laws_eqRecS.l0.eq_2 _ _ _) ?_
    by_cases h : i < xs.length
    · refine ev_pos (by omega) (ev_pos (by omega) (ev_pos (by omega) ?_))
      rw [w64s i (by omega), rdiRec xs i h]
      exact Ev.bind (eqRec_ev _) (ev_pos rfl (eqRecS_l xs hn (i + 1) (by omega)))
    · exact ev_neg (by omega) (ev_now rfl)
  termination_by i => xs.length - i
theorem eqRecS_ev (xs : List S170) (hn : wiRecS xs ≤ 4000000) : Ev (fun k => laws_eqRecS.f k xs xs) true := by
  unfold laws_eqRecS.f
  exact ev_pos rfl (eqRecS_l xs hn 0 (by omega))


/-! ### t_Entry -/
def wtEntry (x : S56) : Nat := x.f1.size + (0)
def wiEntry (x : S59) : Nat := x.f1.size + (0)
def wtEntryS (xs : List S56) : Nat := xs.length + sumBy wtEntry xs
def wiEntryS (xs : List S59) : Nat := xs.length + sumBy wiEntry xs
def cvEntry (x : S56) : S59 := ⟨x.f0, x.f1⟩
theorem wiEntry_cv (x : S56) : wiEntry (cvEntry x) = wtEntry x := by simp only [wiEntry, wtEntry, cvEntry]
theorem wiEntryS_cv (xs : List S56) : wiEntryS (xs.map cvEntry) = wtEntryS xs := by
  unfold wiEntryS wtEntryS sumBy
  rw [List.length_map, List.map_map, List.map_congr_left (f := wiEntry ∘ cvEntry) (g := wtEntry) (fun x _ => wiEntry_cv x)]
theorem rdlEntry (xs : List S56) (i : Nat) (h : i < xs.length) : rd_T56 xs (i : Int) = xs[i] := getD_at _ xs i h
theorem rdiEntry (xs : List S59) (i : Nat) (h : i < xs.length) : rd_T59 xs (i : Int) = xs[i] := getD_at _ xs i h
theorem szEntry_ev (x : S56) (hx : Wf56 x) (a : Int) (g0 : 0 ≤ a) (g1 : a ≤ 1048576) : Ev (fun k => laws_szEntry.f x.f0 x.f1 a) (left a (wtEntry x)) := by
  unfold laws_szEntry.f wtEntry
  have b1 := (hx.2)
  rw [w64 (x := a - (x.f1.size : Int)) (by omega) (by omega)]
  refine ev_sub a (by omega) (fun q1 => ?_)
  exact ev_now (left_zero (by omega)).symm
theorem szEntryS_l (xs : List S56) (hn : xs.length ≤ 1048576) (hw : ∀ y ∈ xs, Wf56 y) : ∀ (i : Nat) (a : Int), i ≤ xs.length → 0 ≤ a → a ≤ 1048576 → Ev (fun k => laws_szEntryS.l0 k xs a i) (left a (sumBy wtEntry (xs.drop i)))
  | i, a, hi, h0, h1 => by
    refine Ev.step (laws_szEntryS.l0.eq_2 _ _ _) ?_
    by_cases h : i < xs.length
    · refine ev_pos (by omega) (ev_pos (by omega) ?_)
      rw [rdlEntry xs i h, w64s i (by omega), drop_at xs i h, sumBy_cons]
      refine Ev.bind (szEntry_ev _ (hw _ (List.getElem_mem h)) a h0 h1) (ev_call (fun q => ?_))
      have := left_le q
      exact szEntryS_l xs hn hw (i + 1) _ (by omega) (by omega) (by omega)
    · refine ev_neg (by omega) (ev_now ?_)
      rw [List.drop_of_length_le (by omega), sumBy_nil, left_zero h0]
  termination_by i => xs.length - i
theorem szEntryS_ev (xs : List S56) (hb : xs.length ≤ 140737488351232) (hw : ∀ y ∈ xs, Wf56 y) (a : Int) (h0 : 0 ≤ a) (h1 : a ≤ 1048576) : Ev (fun k => laws_szEntryS.f k xs a) (left a (wtEntryS xs)) := by
  unfold laws_szEntryS.f wtEntryS
  rw [w64 (x := a - (xs.length : Int)) (by omega) (by omega)]
  refine ev_sub a h0 (fun q => ?_)
  have := szEntryS_l xs (by omega) hw 0 (a - xs.length) (by omega) (by omega) (by omega)
  rw [List.drop_zero] at this
  exact this

theorem toEntryS_l (xs : List S56) (hn : wtEntryS xs ≤ 1048576) : ∀ (i : Nat) (ys : List S59), i ≤ xs.length → ys.length = xs.length → ys.take i = (xs.map cvEntry).take i → Ev (fun k => laws_toEntryS.l0 k xs ys i) (xs.map cvEntry)
  | i, ys, hi, hl, ht => by
    have hn2 : xs.length ≤ 1048576 := by unfold wtEntryS at hn; omega
    refine Ev.step (laws_toEntryS.l0.eq_2 _ _ _) ?_
    by_cases h : i < xs.length
    · refine ev_pos (by omega) (ev_pos (by omega) ?_)
      have hx : wtEntry xs[i] ≤ 1048576 := by have := sumBy_mem (f := wtEntry) (List.getElem_mem h); unfold wtEntryS at hn; omega
      rw [rdlEntry xs i h, w64s i (by omega)]
      refine Ev.bind (ev_eq rfl) (ev_pos (by omega) ?_)
      rw [Int.toNat_natCast]
      exact toEntryS_l xs hn (i + 1) _ (by omega) (by simp [hl]) (take_set (by simp [hl]) ht (by simpa using h) (by simp [cvEntry]))
    · have : i = xs.length := by omega
      subst this
      exact ev_neg (by omega) (ev_now (take_all (by simp [hl]) (by simpa using ht)))
  termination_by i => xs.length - i
theorem toEntryS_ev (xs : List S56) (hn : wtEntryS xs ≤ 1048576) : Ev (fun k => laws_toEntryS.f k xs) (xs.map cvEntry) := by
  have hn2 : xs.length ≤ 1048576 := by unfold wtEntryS at hn; omega
  unfold laws_toEntryS.f
  exact ev_pos (by omega) (ev_pos (by omega) (toEntryS_l xs hn 0 _ (by omega) (by simp) (by simp)))

theorem eqEntry_ev (x : S59) : Ev (fun _ => laws_eqEntry.f x.f0 x.f1 x.f0 x.f1) true := ev_eq (by simp [laws_eqEntry.f])
theorem eqEntryS_l (xs : List S59) (hn : wiEntryS xs ≤ 4000000) : ∀ (i : Nat), i ≤ xs.length → Ev (fun k => laws_eqEntryS.l0 k xs xs i) true
  | i, hi => by
    have hn2 : xs.length ≤ 4000000 := by unfold wiEntryS at hn; omega
    refine Ev.step (laws_eqEntryS.l0.eq_2 _ _ _) ?_
    by_cases h : i < xs.length
    · refine ev_pos (by omega) (ev_pos (by omega) (ev_pos (by omega) ?_))
      rw [w64s i (by omega), rdiEntry xs i h]
      exact Ev.bind (eqEntry_ev _) (ev_pos rfl (eqEntryS_l xs hn (i + 1) (by omega)))
    · exact ev_neg (by omega) (ev_now rfl)
  termination_by i => xs.length - i
theorem eqEntryS_ev (xs : List S59) (hn : wiEntryS xs ≤ 4000000) : Ev (fun k => laws_eqEntryS.f k xs xs) true := by
  unfold laws_eqEntryS.f
  exact ev_pos rfl (eqEntryS_l xs hn 0 (by omega))


/-! ### f_inode -/
theorem szI_ev (kd sz ct : Int) (mk : ByteArray) (rs : List S181) (es : List S56) (b3 : mk.size ≤ 140737488351232) (hr : rs.length * 32 ≤ 140737488351232 ∧ ∀ y ∈ rs, Wf181 y) (he : es.length * 24 ≤ 140737488351232 ∧ ∀ y ∈ es, Wf56 y) (a : Int) (g0 : 0 ≤ a) (g1 : a ≤ 1048576) : Ev (fun k => laws_szInode.f k kd sz ct mk rs es a) (left a (mk.size + (wtRecS rs + (wtEntryS es + 0)))) := by
  unfold laws_szInode.f
  rw [w64 (x := a - (mk.size : Int)) (by omega) (by omega)]
  refine ev_sub a (by omega) (fun q3 => ?_)
  refine Ev.bind (szRecS_ev rs (by omega) hr.2 (a - (mk.size : Int)) (by omega) (by omega)) (ev_call (fun q4 => ?_))
  have r4 := left_le q4
  refine Ev.bind (szEntryS_ev es (by omega) he.2 (left (a - (mk.size : Int)) (wtRecS rs)) (by omega) (by omega)) (ev_call (fun q5 => ?_))
  have r5 := left_le q5
  exact ev_now (left_zero (by omega)).symm
theorem toI_ev (kd sz ct : Int) (mk : ByteArray) (rs : List S181) (es : List S56) (hw : mk.size + (wtRecS rs + (wtEntryS es + 0)) ≤ 1048576) : Ev (fun k => laws_toInode.f k kd sz ct mk rs es) (kd, sz, ct, mk, (rs.map cvRec), (es.map cvEntry)) := by
  unfold laws_toInode.f
  refine Ev.bind (toRecS_ev rs (by omega)) ?_
  refine Ev.bind (toEntryS_ev es (by omega)) ?_
  exact ev_now rfl
theorem eqI_ev (kd sz ct : Int) (mk : ByteArray) (rs : List S170) (es : List S59) (hr : wiRecS rs ≤ 4000000) (he : wiEntryS es ≤ 4000000) : Ev (fun k => laws_eqInode.f k kd sz ct mk rs es kd sz ct mk rs es) true := by
  unfold laws_eqInode.f
  refine ev_pos rfl ?_
  refine ev_pos rfl ?_
  refine ev_pos rfl ?_
  refine ev_pos rfl ?_
  refine Ev.bind (eqRecS_ev rs (by omega)) (ev_pos rfl ?_)
  refine Ev.bind (eqEntryS_ev es (by omega)) (ev_pos rfl ?_)
  exact ev_now rfl

/-! ### lin -/
theorem l01In_eq (a b c : Int) : spec_l01In.f a b c = some (decide (b ≤ a ∧ a ≤ c)) := by
  unfold spec_l01In.f
  by_cases h : a ≥ b
  · rw [if_pos h]; congr 1; simp; omega
  · rw [if_neg h]; congr 1; simp; omega

/-! ### within -/
theorem within_eq (a b c : Int) : impl_within.f a b c = some (decide (b ≤ a ∧ a ≤ c)) := by
  unfold impl_within.f
  by_cases h : a ≥ b
  · rw [if_pos h]; congr 1; simp; omega
  · rw [if_neg h]; congr 1; simp; omega

/-! ### numtext -/
theorem u64w (x : Int) (h0 : 0 ≤ x) (h1 : x < 18446744073709551616) : IntKind.u64.wrap x = x := by
  have b : IntKind.u64.bits = 64 := rfl
  have s : IntKind.u64.signed = false := rfl
  simp only [IntKind.wrap, b, s, Bool.false_and, Bool.false_eq_true, if_false]
  omega
def dg (n : Int) (i : Nat) : Int := n / 2 ^ (8 * i) % 256
def dn (n : Int) : Nat → List Int
  | 0 => []
  | i + 1 => dg n i :: dn n i
theorem dn_len (n : Int) (w : Nat) : (dn n w).length = w := by
  induction w with
  | zero => rfl
  | succ w ih => simp [dn, ih]
theorem dn_get (n : Int) : ∀ (w p : Nat) (h : p < (dn n w).length), (dn n w)[p] = dg n (w - 1 - p)
  | 0, p, h => by simp [dn] at h
  | w + 1, 0, h => by simp [dn]
  | w + 1, p + 1, h => by
    simp only [dn, List.getElem_cons_succ]
    rw [dn_get n w p (by simpa [dn] using h)]
    congr 1; omega
theorem shr_eq (n : Int) (i : Nat) (h : i ≤ 7) (y : Int) (hy : y = 8 * (i : Int)) : shr .i64 n y = n / 2 ^ (8 * i) := by
  subst hy
  have e : (8 * (i : Int)).toNat = 8 * i := by omega
  have b : IntKind.i64.bits = 64 := rfl
  unfold shr
  rw [e, b, Nat.min_eq_left (by omega)]
def ntOk (n : Int) (w : Nat) : Prop := 0 ≤ n ∧ 1 ≤ w ∧ w ≤ 7 ∧ n < 2 ^ (8 * w)
open Classical in
noncomputable def nt (n : Int) (w : Nat) : ByteArray := if ntOk n w then strOfNums (dn n w) else ⟨#[]⟩
theorem sNum_l (n : Int) (w : Nat) (hw : w ≤ 7) : ∀ (i : Nat) (o : List Int), i ≤ w → o.length ≤ 7 → o.length + i ≤ 7 → Ev (fun k => spec_NumText.l0 k n o ((i : Int) - 1)) (strOfNums (o ++ dn n i))
  | 0, o, hi, ho, hs => by
    refine Ev.step (spec_NumText.l0.eq_2 _ _ _) ?_
    refine ev_neg (by omega) (ev_now ?_)
    simp [dn]
  | i + 1, o, hi, ho, hs => by
    refine Ev.step (spec_NumText.l0.eq_2 _ _ _) ?_
    have e : ((i + 1 : Nat) : Int) - 1 = (i : Int) := by omega
    rw [e, u64w (i : Int) (by omega) (by omega), u64w (8 * (i : Int)) (by omega) (by omega), shr_eq n i (by omega) _ rfl, w64 (x := (i : Int) - 1) (by omega) (by omega)]
    refine ev_pos (by omega) (ev_pos (by omega) (ev_pos (by omega) (ev_to (sNum_l n w hw i _ (by omega) (by simp; omega) (by simp; omega)) ?_)))
    simp [dn, dg]
theorem pow_le (w : Nat) (h : w ≤ 7) : (1 : Int) ≤ 2 ^ (8 * w) ∧ (2 : Int) ^ (8 * w) ≤ 72057594037927936 := by
  have : w = 0 ∨ w = 1 ∨ w = 2 ∨ w = 3 ∨ w = 4 ∨ w = 5 ∨ w = 6 ∨ w = 7 := by omega
  rcases this with h | h | h | h | h | h | h | h <;> subst h <;> decide
theorem div_pos (n : Int) (w : Nat) (hw : w ≤ 7) (h0 : 0 ≤ n) : n / 2 ^ (8 * w) > 0 ↔ ¬ n < 2 ^ (8 * w) := by
  have hp := pow_le w hw
  constructor
  · intro h hl
    have := Int.ediv_eq_zero_of_lt h0 hl
    omega
  · intro h
    exact (Int.le_ediv_iff_mul_le (by omega)).2 (by omega)
theorem sNum_ev (n : Int) (w : Nat) (hw : w ≤ 7) (h1 : 1 ≤ w) : Ev (fun k => spec_NumText.f k n (w : Int)) (nt n w) := by
  unfold spec_NumText.f
  have bad : ¬ ntOk n w → Ev (fun k => spec_NumText.j0 k n w true) (nt n w) := by
    intro h
    unfold nt
    rw [if_neg h]
    refine Ev.step (spec_NumText.j0.eq_2 _ _ _) ?_
    exact ev_pos rfl (ev_now rfl)
  by_cases h0 : n < 0
  · exact ev_pos h0 (bad (fun h => by have := h.1; omega))
  · refine ev_neg h0 (Ev.bind (ev_eq (l01In_eq _ _ _)) (ev_pos (by simp; omega) ?_))
    rw [u64w (w : Int) (by omega) (by omega), u64w (8 * (w : Int)) (by omega) (by omega), shr_eq n w hw _ rfl]
    refine ev_pos (by omega) ?_
    by_cases hl : n < 2 ^ (8 * w)
    · have hz : ¬ n / 2 ^ (8 * w) > 0 := fun h => (div_pos n w hw (by omega)).1 h hl
      rw [decide_eq_false hz]
      refine Ev.step (spec_NumText.j0.eq_2 _ _ _) ?_
      refine ev_neg (by simp) ?_
      rw [w64 (by omega) (by omega)]
      refine ev_to (sNum_l n w hw w [] (Nat.le_refl _) (by simp) (by simp; omega)) ?_
      unfold nt
      rw [if_pos ⟨by omega, h1, hw, hl⟩]
      simp
    · have hz : n / 2 ^ (8 * w) > 0 := (div_pos n w hw (by omega)).2 hl
      rw [decide_eq_true hz]
      exact bad (fun h => hl h.2.2.2)
theorem iNum_l (n : Int) (w : Nat) (hw : w ≤ 7) : ∀ (p : Nat) (ys : List Int), p ≤ w → ys.length = w → ys.take p = (dn n w).take p → Ev (fun k => impl_NumText.l0 k n w ys w p) (strOfNums (dn n w))
  | p, ys, hp, hl, ht => by
    have hd := dn_len n w
    refine Ev.step (impl_NumText.l0.eq_2 _ _ _ _ _) ?_
    by_cases h : p < w
    · rw [w64 (x := (w : Int) - 1) (by omega) (by omega), w64 (x := (w : Int) - 1 - p) (by omega) (by omega), w64 (x := 8 * ((w : Int) - 1 - p)) (by omega) (by omega), w64s p (by omega), shr_eq n (w - 1 - p) (by omega) _ (by omega), Int.toNat_natCast]
      refine ev_pos (by omega) (ev_pos (by omega) (ev_pos (by omega) (ev_pos (by omega) ?_)))
      exact iNum_l n w hw (p + 1) _ (by omega) (by simp [hl]) (take_set (by omega) ht (by omega) (by rw [dn_get]; rfl))
    · have : p = w := by omega
      subst this
      refine ev_neg (by omega) (ev_now ?_)
      rw [show ys = dn n p from take_all (xs := dn n p) (by omega) (by rw [hd]; exact ht)]
  termination_by p => w - p
theorem shl_eq (w : Nat) (hw : w ≤ 7) : shl .i64 1 (8 * (w : Int)) = 2 ^ (8 * w) := by
  have : w = 0 ∨ w = 1 ∨ w = 2 ∨ w = 3 ∨ w = 4 ∨ w = 5 ∨ w = 6 ∨ w = 7 := by omega
  rcases this with h | h | h | h | h | h | h | h <;> subst h <;> decide
theorem iNum_ev (n : Int) (w : Nat) (hw : w ≤ 7) (h1 : 1 ≤ w) : Ev (fun k => impl_NumText.f k n (w : Int)) (nt n w) := by
  unfold impl_NumText.f
  have bad : ¬ ntOk n w → Ev (fun k => impl_NumText.j0 k n w true) (nt n w) := by
    intro h
    unfold nt
    rw [if_neg h]
    refine Ev.step (impl_NumText.j0.eq_2 _ _ _) ?_
    exact ev_pos rfl (ev_now rfl)
  by_cases h0 : n < 0
  · exact ev_pos h0 (bad (fun h => by have := h.1; omega))
  · refine ev_neg h0 (Ev.bind (ev_eq (within_eq _ _ _)) (ev_pos (by simp; omega) ?_))
    rw [w64 (x := 8 * (w : Int)) (by omega) (by omega), shl_eq w hw]
    refine ev_pos (by omega) ?_
    by_cases hl : n < 2 ^ (8 * w)
    · rw [decide_eq_false (by omega)]
      refine Ev.step (impl_NumText.j0.eq_2 _ _ _) ?_
      refine ev_neg (by simp) (ev_pos (by omega) (ev_pos (by omega) (Ev.bind (Ev.now _) ?_)))
      rw [Int.toNat_natCast]
      have := iNum_l n w hw 0 (List.replicate w 0) (by omega) (by simp) (by simp)
      rw [List.length_replicate]
      refine ev_to this ?_
      unfold nt
      rw [if_pos ⟨by omega, h1, hw, hl⟩]
    · rw [decide_eq_true (by omega)]
      exact bad (fun h => hl h.2.2.2)
theorem nt_size (n : Int) (w : Nat) : (nt n w).size ≤ w := by
  unfold nt
  split
  · have := dn_len n w
    unfold strOfNums
    rw [b_size, List.length_map]; omega
  · show 0 ≤ w; omega

/-! ### recword -/
noncomputable def recV (a b : Int) (t : ByteArray) : ByteArray := if (1 ≤ a ∧ a ≤ 12) ∧ (1 ≤ b ∧ b ≤ 16777215) ∧ t.size = 4 then nt a 1 ++ nt b 3 ++ t else ⟨#[]⟩
theorem sRec_j (a b : Int) (t : ByteArray) (ht : t.size ≤ 4000000) (z : Bool) : Ev (fun k => spec_RecWord.j0 k z a b t) (if z = true then ⟨#[]⟩ else nt a 1 ++ nt b 3 ++ t) := by
  refine Ev.step (spec_RecWord.j0.eq_2 _ _ _ _) ?_
  have z1 := nt_size a 1
  have z3 := nt_size b 3
  cases z with
  | true => exact ev_pos rfl (ev_now rfl)
  | false => exact ev_neg (by simp) (Ev.bind (sNum_ev a 1 (by omega) (by omega)) (Ev.bind (sNum_ev b 3 (by omega) (by omega)) (ev_pos (by omega) (ev_pos (by rw [ByteArray.size_append]; omega) (ev_now rfl)))))
theorem sRec_ev (a b : Int) (t : ByteArray) (ht : t.size ≤ 4000000) : Ev (fun k => spec_RecWord.f k a b t) (recV a b t) := by
  unfold spec_RecWord.f recV
  rw [l01In_eq]
  refine Ev.bind (Ev.now _) ?_
  by_cases h1 : 1 ≤ a ∧ a ≤ 12
  · rw [l01In_eq]
    refine ev_pos (decide_eq_true h1) (Ev.bind (Ev.now _) ?_)
    by_cases h2 : 1 ≤ b ∧ b ≤ 16777215
    · refine ev_pos (decide_eq_true h2) (ev_to (sRec_j a b t ht _) ?_)
      by_cases h3 : t.size = 4
      · rw [if_neg (by simp [h3]), if_pos ⟨h1, h2, h3⟩]
      · rw [if_pos (by simp; omega), if_neg (fun h => h3 h.2.2)]
    · exact ev_neg (by simpa using h2) (ev_to (sRec_j a b t ht true) (by rw [if_pos rfl, if_neg (fun h => h2 h.2.1)]))
  · exact ev_neg (by simpa using h1) (ev_to (sRec_j a b t ht true) (by rw [if_pos rfl, if_neg (fun h => h1 h.1)]))
theorem iRec_j (a b : Int) (t : ByteArray) (ht : t.size ≤ 4000000) (z : Bool) : Ev (fun k => impl_RecWord.j0 k z a b t) (if z = true then ⟨#[]⟩ else nt a 1 ++ nt b 3 ++ t) := by
  refine Ev.step (impl_RecWord.j0.eq_2 _ _ _ _) ?_
  have z1 := nt_size a 1
  have z3 := nt_size b 3
  cases z with
  | true => exact ev_pos rfl (ev_now rfl)
  | false => exact ev_neg (by simp) (Ev.bind (iNum_ev a 1 (by omega) (by omega)) (Ev.bind (iNum_ev b 3 (by omega) (by omega)) (ev_pos (by omega) (ev_pos (by rw [ByteArray.size_append]; omega) (ev_now rfl)))))
theorem iRec_ev (a b : Int) (t : ByteArray) (ht : t.size ≤ 4000000) : Ev (fun k => impl_RecWord.f k a b t) (recV a b t) := by
  unfold impl_RecWord.f recV
  rw [within_eq]
  refine Ev.bind (Ev.now _) ?_
  by_cases h1 : 1 ≤ a ∧ a ≤ 12
  · rw [within_eq]
    refine ev_pos (decide_eq_true h1) (Ev.bind (Ev.now _) ?_)
    by_cases h2 : 1 ≤ b ∧ b ≤ 16777215
    · refine ev_pos (decide_eq_true h2) (ev_to (iRec_j a b t ht _) ?_)
      by_cases h3 : t.size = 4
      · rw [if_neg (by simp [h3]), if_pos ⟨h1, h2, h3⟩]
      · rw [if_pos (by simp; omega), if_neg (fun h => h3 h.2.2)]
    · exact ev_neg (by simpa using h2) (ev_to (iRec_j a b t ht true) (by rw [if_pos rfl, if_neg (fun h => h2 h.2.1)]))
  · exact ev_neg (by simpa using h1) (ev_to (iRec_j a b t ht true) (by rw [if_pos rfl, if_neg (fun h => h1 h.1)]))

/-! ### zerotext -/
theorem long_l (n : Nat) (hn : n ≤ 1048576) : ∀ (i : Nat) (ys : List Int), i ≤ n → ys.length = n → (∀ y ∈ ys, y = 0) → Ev (fun k => spec_l01Long.l0 k n 0 ys i) (strOfNums ys)
  | i, ys, hi, hl, hz => by
    refine Ev.step (spec_l01Long.l0.eq_2 _ _ _ _) ?_
    by_cases h : i < n
    · refine ev_pos (by omega) (ev_pos (by omega) (ev_pos (by omega) ?_))
      rw [w64s i (by omega), Int.toNat_natCast]
      have e : ys.set i 0 = ys := by
        apply List.ext_getElem (by simp)
        intro j h1 h2
        rw [List.getElem_set]
        split
        · exact (hz _ (List.getElem_mem h2)).symm
        · rfl
      rw [e]
      exact long_l n hn (i + 1) ys (by omega) hl hz
    · exact ev_neg (by omega) (ev_now rfl)
  termination_by i => n - i
theorem long_ev (n : Nat) (hn : n ≤ 1048576) : Ev (fun k => spec_l01Long.f k n 0) (zb n) := by
  unfold spec_l01Long.f
  refine ev_pos (by omega) (ev_pos (by omega) (ev_to (long_l n hn 0 _ (by omega) (by simp) (by simp)) ?_))
  simp [strOfNums, zb]
theorem zeroText_ev (n : Nat) (hn : n ≤ 20000) : Ev (fun k => spec_ZeroText.f k (n : Int)) (zb n) := by
  unfold spec_ZeroText.f
  exact Ev.bind (ev_eq (l01In_eq _ _ _)) (ev_pos (by simp; omega) (Ev.bind (long_ev n (by omega)) (ev_now rfl)))

/-! ### padded -/
theorem repeat_eq (n : Nat) (h : n ≤ 1048576) : strings_Repeat.f (⟨#[0]⟩ : ByteArray) (n : Int) = some (zb n) := by
  unfold strings_Repeat.f
  have h1 : (⟨#[0]⟩ : ByteArray).size = 1 := rfl
  rw [if_pos ⟨by omega, by omega, by rw [Int.toNat_natCast, h1]; omega⟩]
  congr 1
  unfold zb
  rw [← repeat_zero, Int.toNat_natCast]
theorem padded_eq (s : ByteArray) (n : Int) (h0 : 0 ≤ n) (h1 : n ≤ 1048576) (hs : s.size ≤ 4000000) : impl_padded.f s n = some (s ++ zb (n - s.size).toNat) := by
  unfold impl_padded.f
  rw [w64 (by omega) (by omega)]
  have hm : mx 0 (n - (s.size : Int)) = (((n - s.size).toNat : Nat) : Int) := by
    show (if (0 : Int) < n - (s.size : Int) then n - (s.size : Int) else 0) = _
    split <;> omega
  rw [hm, repeat_eq _ (by omega), Option.bind_some, if_pos (by rw [zb_size]; omega)]

/-! ### wordtext -/
def wdT (s : ByteArray) : ByteArray := if s.size > 8 then ⟨#[]⟩ else s ++ zb (8 - s.size)
theorem sWord_ev (s : ByteArray) (hs : s.size ≤ 4000000) : Ev (fun k => spec_WordText.f k s) (wdT s) := by
  unfold spec_WordText.f wdT
  by_cases h : s.size > 8
  · rw [if_pos h]; exact ev_pos (by omega) (ev_now rfl)
  · rw [if_neg h]
    refine ev_neg (by omega) ?_
    rw [show (8 : Int) - (s.size : Int) = ((8 - s.size : Nat) : Int) by omega]
    exact Ev.bind (zeroText_ev _ (by omega)) (ev_pos (by rw [zb_size]; omega) (ev_now rfl))
theorem iWord_eq (s : ByteArray) (hs : s.size ≤ 4000000) : impl_WordText.f s = some (wdT s) := by
  unfold impl_WordText.f wdT
  by_cases h : s.size > 8
  · rw [if_pos h, if_pos (by omega)]
  · rw [if_neg h, if_neg (by omega), padded_eq s 8 (by omega) (by omega) hs, Option.bind_some, show ((8 : Int) - (s.size : Int)).toNat = 8 - s.size by omega]

/-! ### btn -/
theorem btn (a : ByteArray) (i : Nat) (h : i < a.data.toList.length) : bt a (i : Int) = ((a.data.toList[i]).toNat : Int) := by
  have h2 : i < a.size := by rw [b_len] at h; exact h
  rw [← bt_at a (i : Int) (by simpa using h2)]
  simp only [Int.toNat_natCast]; rfl

/-! ### entryword -/
def nmB (b : Int) : Bool := decide (97 ≤ b ∧ b ≤ 122) || decide (48 ≤ b ∧ b ≤ 57)
def nmV (a : ByteArray) : Bool := a.data.toList.all (fun x => nmB (x.toNat : Int)) && decide (1 ≤ (a.size : Int) ∧ (a.size : Int) ≤ 7)
theorem nm_step (a : ByteArray) (i : Nat) (h : i < a.data.toList.length) : (a.data.toList.drop i).all (fun x => nmB (x.toNat : Int)) = (nmB (bt a (i : Int)) && (a.data.toList.drop (i + 1)).all (fun x => nmB (x.toNat : Int))) := by
  rw [btn a i h]
  rw [show a.data.toList.drop i = a.data.toList[i] :: a.data.toList.drop (i + 1) from List.drop_eq_getElem_cons h, List.all_cons]
theorem bt_byte (a : ByteArray) (i : Nat) (h : i < a.data.toList.length) : 0 ≤ bt a (i : Int) ∧ bt a (i : Int) ≤ 255 := by
  rw [btn a i h]
  have := (a.data.toList[i]).toNat_lt
  omega
theorem sName_l (a : ByteArray) (ha : a.size ≤ 4000000) : ∀ i : Nat, i ≤ a.size → Ev (fun k => spec_NameOk.l0 k a (i : Int)) ((a.data.toList.drop i).all (fun x => nmB (x.toNat : Int)) && decide (1 ≤ (a.size : Int) ∧ (a.size : Int) ≤ 7))
  | i, hi => by
    have hl := b_len a
    refine Ev.step (spec_NameOk.l0.eq_2 _ _) ?_
    by_cases h : i < a.size
    · have hb := bt_byte a i (by omega)
      rw [nm_step a i (by omega)]
      refine ev_pos (by omega) (ev_pos (by omega) ?_)
      rw [w64 (x := bt a (i : Int)) (by omega) (by omega), l01In_eq, w64s i (by omega)]
      refine Ev.bind (Ev.now _) ?_
      have ih := sName_l a ha (i + 1) (by omega)
      unfold nmB at ih ⊢
      by_cases h1 : 97 ≤ bt a (i : Int) ∧ bt a (i : Int) ≤ 122
      · exact ev_pos (decide_eq_true h1) (ev_to ih (by simp [h1]))
      · rw [l01In_eq]
        refine ev_neg (by simpa using h1) (Ev.bind (Ev.now _) ?_)
        by_cases h2 : 48 ≤ bt a (i : Int) ∧ bt a (i : Int) ≤ 57
        · exact ev_pos (decide_eq_true h2) (ev_to ih (by simp [h2]))
        · exact ev_neg (by simpa using h2) (ev_now (by rw [decide_eq_false h1, decide_eq_false h2]; simp))
    · rw [l01In_eq (a.size : Int) 1 7, List.drop_of_length_le (by omega)]
      exact ev_neg (by omega) (Ev.bind (Ev.now _) (ev_now (by simp)))
  termination_by i => a.size - i
theorem sName_ev (a : ByteArray) (ha : a.size ≤ 4000000) : Ev (fun k => spec_NameOk.f k a) (nmV a) := by
  unfold spec_NameOk.f nmV
  exact ev_to (sName_l a ha 0 (by omega)) (by rw [List.drop_zero])
theorem iName_l (a : ByteArray) (ha : a.size ≤ 4000000) : ∀ i : Nat, i ≤ a.size → Ev (fun k => impl_NameOk.l0 k a (a.size : Int) (i : Int)) ((a.data.toList.drop i).all (fun x => nmB (x.toNat : Int)) && decide (1 ≤ (a.size : Int) ∧ (a.size : Int) ≤ 7))
  | i, hi => by
    have hl := b_len a
    refine Ev.step (impl_NameOk.l0.eq_2 _ _ _) ?_
    by_cases h : i < a.size
    · have hb := bt_byte a i (by omega)
      rw [nm_step a i (by omega)]
      refine ev_pos (by omega) (ev_pos (by omega) (ev_pos (by omega) ?_))
      rw [w64s i (by omega)]
      have ih := iName_l a ha (i + 1) (by omega)
      unfold nmB at ih ⊢
      have low : Ev (fun k => if bt a (i : Int) ≥ 48 then (if bt a (i : Int) ≤ 57 then impl_NameOk.l0 k a (a.size : Int) ((i + 1 : Nat) : Int) else some false) else some false) (decide (48 ≤ bt a (i : Int) ∧ bt a (i : Int) ≤ 57) && ((a.data.toList.drop (i + 1)).all (fun x => decide (97 ≤ (x.toNat : Int) ∧ (x.toNat : Int) ≤ 122) || decide (48 ≤ (x.toNat : Int) ∧ (x.toNat : Int) ≤ 57)) && decide (1 ≤ (a.size : Int) ∧ (a.size : Int) ≤ 7))) := by
        by_cases h1 : bt a (i : Int) ≥ 48
        · by_cases h2 : bt a (i : Int) ≤ 57
          · exact ev_pos h1 (ev_pos h2 (ev_to ih (by rw [decide_eq_true (show 48 ≤ bt a (i : Int) ∧ bt a (i : Int) ≤ 57 from ⟨h1, h2⟩), Bool.true_and])))
          · exact ev_pos h1 (ev_neg h2 (ev_now (by rw [decide_eq_false (fun hc => h2 hc.2), Bool.false_and])))
        · exact ev_neg h1 (ev_now (by rw [decide_eq_false (fun hc => h1 hc.1), Bool.false_and]))
      by_cases h1 : bt a (i : Int) ≥ 97
      · by_cases h2 : bt a (i : Int) ≤ 122
        · exact ev_pos h1 (ev_pos h2 (ev_to ih (by rw [decide_eq_true (show 97 ≤ bt a (i : Int) ∧ bt a (i : Int) ≤ 122 from ⟨h1, h2⟩), Bool.true_or, Bool.true_and])))
        · exact ev_pos h1 (ev_neg h2 (ev_to low (by rw [decide_eq_false (show ¬ (97 ≤ bt a (i : Int) ∧ bt a (i : Int) ≤ 122) from fun hc => h2 hc.2), Bool.false_or, Bool.and_assoc])))
      · exact ev_neg h1 (ev_to low (by rw [decide_eq_false (show ¬ (97 ≤ bt a (i : Int) ∧ bt a (i : Int) ≤ 122) from fun hc => h1 hc.1), Bool.false_or, Bool.and_assoc]))
    · rw [within_eq, List.drop_of_length_le (by omega)]
      exact ev_neg (by omega) (Ev.bind (Ev.now _) (ev_now (by simp)))
  termination_by i => a.size - i
theorem iName_ev (a : ByteArray) (ha : a.size ≤ 4000000) : Ev (fun k => impl_NameOk.f k a) (nmV a) := by
  unfold impl_NameOk.f nmV
  exact ev_to (iName_l a ha 0 (by omega)) (by rw [List.drop_zero])
noncomputable def enV (a : Int) (t : ByteArray) : ByteArray := if (1 ≤ a ∧ a ≤ 5) ∧ nmV t = true then wdT (nt a 1 ++ t) else ⟨#[]⟩
theorem sEnt_j (a : Int) (t : ByteArray) (ht : t.size ≤ 2000000) (z : Bool) : Ev (fun k => spec_EntryWord.j0 k z a t) (if z = true then ⟨#[]⟩ else wdT (nt a 1 ++ t)) := by
  refine Ev.step (spec_EntryWord.j0.eq_2 _ _ _) ?_
  have z1 := nt_size a 1
  cases z with
  | true => exact ev_pos rfl (ev_now rfl)
  | false => exact ev_neg (by simp) (Ev.bind (sNum_ev a 1 (by omega) (by omega)) (ev_pos (by omega) (Ev.bind (sWord_ev _ (by rw [ByteArray.size_append]; omega)) (ev_now rfl))))
theorem sEnt_ev (a : Int) (t : ByteArray) (ht : t.size ≤ 2000000) : Ev (fun k => spec_EntryWord.f k a t) (enV a t) := by
  unfold spec_EntryWord.f enV
  rw [l01In_eq]
  refine Ev.bind (Ev.now _) ?_
  by_cases h1 : 1 ≤ a ∧ a ≤ 5
  · refine ev_pos (decide_eq_true h1) (Ev.bind (sName_ev t (by omega)) (ev_to (sEnt_j a t ht _) ?_))
    by_cases h2 : nmV t = true
    · rw [if_neg (by simp [h2]), if_pos ⟨h1, h2⟩]
    · rw [if_pos (by simp at h2; simp [h2]), if_neg (fun h => h2 h.2)]
  · exact ev_neg (by simpa using h1) (ev_to (sEnt_j a t ht true) (by rw [if_pos rfl, if_neg (fun h => h1 h.1)]))
theorem iEnt_j (a : Int) (t : ByteArray) (ht : t.size ≤ 2000000) (z : Bool) : Ev (fun k => impl_EntryWord.j0 k z a t) (if z = true then ⟨#[]⟩ else wdT (nt a 1 ++ t)) := by
  refine Ev.step (impl_EntryWord.j0.eq_2 _ _ _) ?_
  have z1 := nt_size a 1
  cases z with
  | true => exact ev_pos rfl (ev_now rfl)
  | false => exact ev_neg (by simp) (Ev.bind (iNum_ev a 1 (by omega) (by omega)) (ev_pos (by omega) (Ev.bind (ev_eq (iWord_eq _ (by rw [ByteArray.size_append]; omega))) (ev_now rfl))))
theorem iEnt_ev (a : Int) (t : ByteArray) (ht : t.size ≤ 2000000) : Ev (fun k => impl_EntryWord.f k a t) (enV a t) := by
  unfold impl_EntryWord.f enV
  rw [within_eq]
  refine Ev.bind (Ev.now _) ?_
  by_cases h1 : 1 ≤ a ∧ a ≤ 5
  · refine ev_pos (decide_eq_true h1) (Ev.bind (iName_ev t (by omega)) (ev_to (iEnt_j a t ht _) ?_))
    by_cases h2 : nmV t = true
    · rw [if_neg (by simp [h2]), if_pos ⟨h1, h2⟩]
    · rw [if_pos (by simp at h2; simp [h2]), if_neg (fun h => h2 h.2)]
  · exact ev_neg (by simpa using h1) (ev_to (iEnt_j a t ht true) (by rw [if_pos rfl, if_neg (fun h => h1 h.1)]))

/-! ### pagesfor -/
def pgF (n : Int) : Int := if n ≤ 0 then 0 else (n - 1) / 32 + 1
theorem sPagesFor_eq (n : Int) (h : 0 ≤ n) (h1 : n ≤ 1048576) : spec_PagesFor.f n = some (pgF n) := by
  unfold spec_PagesFor.f pgF
  split
  · rfl
  · rw [w64 (x := n - 1) (by omega) (by omega), Int.tdiv_eq_ediv_of_nonneg (by omega), w64 (x := (n - 1) / 32) (by omega) (by omega), w64 (by omega) (by omega)]
theorem iPagesFor_eq (n : Int) (h : 0 ≤ n) (h1 : n ≤ 1048576) : impl_PagesFor.f n = some (pgF n) := by
  unfold impl_PagesFor.f pgF
  rw [if_neg (by omega), Int.tdiv_eq_ediv_of_nonneg h, Int.tmod_eq_emod_of_nonneg h, w64 (x := n / 32) (by omega) (by omega), w64 (x := n / 32 + 1) (by omega) (by omega)]
  split <;> split <;> congr 1 <;> omega
theorem pgF_le (n : Int) (h1 : n ≤ 1048576) : 0 ≤ pgF n ∧ pgF n ≤ 32768 := by
  unfold pgF
  split <;> omega

/-! ### inodeok -/
def dupR (rs : List S170) (i : Nat) : Bool := (rs.take i).any (fun y => y.f0 == (rd_T170 rs (i : Int)).f0)
noncomputable def rcAll (rs : List S170) : Nat → Nat → Bool
  | 0, _ => true
  | f + 1, i => if (recV (rd_T170 rs (i : Int)).f0 (rd_T170 rs (i : Int)).f1 (rd_T170 rs (i : Int)).f2).toList = ([] : List UInt8) then false else if dupR rs i = true then false else rcAll rs f (i + 1)
def ascE (es : List S59) (i : Nat) : Bool := if (i : Int) > 0 then Op.bytesLess ((rd_T59 es ((i : Int) - 1)).f1).toList ((rd_T59 es (i : Int)).f1).toList else true
noncomputable def enAll (es : List S59) : Nat → Nat → Bool
  | 0, _ => true
  | f + 1, i => if (enV (rd_T59 es (i : Int)).f0 (rd_T59 es (i : Int)).f1).toList = ([] : List UInt8) then false else if ascE es i = true then enAll es f (i + 1) else false
noncomputable def okI (kd sz ct : Int) (mk : ByteArray) (rs : List S170) (es : List S59) : Bool :=
  decide (0 ≤ ct ∧ ct ≤ 65535) && (if kd = 0 then decide (sz = 0 ∧ mk.toList = [] ∧ rs.length = 0 ∧ es.length = 0)
    else if kd = 1 then decide ((0 ≤ sz ∧ sz ≤ 128) ∧ (mk.size : Int) = 8 ∧ (rs.length : Int) = pgF sz ∧ es.length = 0) && rcAll rs rs.length 0
    else if kd = 2 then decide (sz = 0 ∧ mk.toList = [] ∧ rs.length = 0 ∧ es.length ≤ 6) && enAll es es.length 0
    else false)
theorem drop_any (rs : List S170) (i j : Nat) (hj : j < i) (hi : i < rs.length) (p : S170 → Bool) : ((rs.take i).drop j).any p = (p rs[j] || ((rs.take i).drop (j + 1)).any p) := by
  have hl : (rs.take i).length = i := by rw [List.length_take]; omega
  rw [List.drop_eq_getElem_cons (by omega), List.any_cons, List.getElem_take]
theorem sOk_l1 (kd sz ct : Int) (mk : ByteArray) (rs : List S170) (es : List S59) (hr : rs.length ≤ 4000000) (i : Nat) (hi : i < rs.length) (N : Bool) (next : Ev (fun k => spec_InodeOk.l0 k ((i + 1 : Nat) : Int) kd sz ct mk rs es) N) : ∀ j : Nat, j ≤ i → Ev (fun k => spec_InodeOk.l1 k (i : Int) (j : Int) kd sz ct mk rs es) (if ((rs.take i).drop j).any (fun y => y.f0 == (rd_T170 rs (i : Int)).f0) = true then false else N)
  | j, hj => by
    refine Ev.step (spec_InodeOk.l1.eq_2 _ _ _ _ _ _ _ _) ?_
    by_cases h : j < i
    · refine ev_pos (by omega) (ev_pos (by omega) (ev_pos (by omega) (ev_pos (by omega) (ev_pos (by omega) ?_))))
      rw [drop_any rs i j h hi, rdiRec rs j (by omega), w64s j (by omega)]
      by_cases he : rs[j].f0 = (rd_T170 rs (i : Int)).f0
      · exact ev_pos he (ev_now (by rw [if_pos (by simp [he])]))
      · refine ev_neg he (ev_to (sOk_l1 kd sz ct mk rs es hr i hi N next (j + 1) (by omega)) ?_)
        rw [beq_false_of_ne he, Bool.false_or]
    · have : j = i := by omega
      subst this
      rw [w64s j (by omega)]
      refine ev_neg (by omega) (ev_to next ?_)
      rw [List.drop_of_length_le (by rw [List.length_take]; omega)]
      simp
  termination_by j => i - j
theorem sOk_l0 (kd sz ct : Int) (mk : ByteArray) (rs : List S170) (es : List S59) (hr : rs.length ≤ 4000000) (hs : ∀ y ∈ rs, y.f2.size ≤ 4000000) : ∀ (f i : Nat), i + f = rs.length → Ev (fun k => spec_InodeOk.l0 k (i : Int) kd sz ct mk rs es) (rcAll rs f i)
  | f, i, hf => by
    refine Ev.step (spec_InodeOk.l0.eq_2 _ _ _ _ _ _ _) ?_
    cases f with
    | zero => exact ev_neg (by omega) (ev_now rfl)
    | succ f =>
      have hz : (rd_T170 rs (i : Int)).f2.size ≤ 4000000 := by rw [rdiRec rs i (by omega)]; exact hs _ (List.getElem_mem _)
      refine ev_pos (by omega) (ev_pos (by omega) (Ev.bind (sRec_ev _ _ _ hz) ?_))
      unfold rcAll
      by_cases h : (recV (rd_T170 rs (i : Int)).f0 (rd_T170 rs (i : Int)).f1 (rd_T170 rs (i : Int)).f2).toList = ([] : List UInt8)
      · exact ev_to (ev_pos h (ev_now rfl)) (if_pos h).symm
      · refine ev_to (ev_neg h (sOk_l1 kd sz ct mk rs es hr i (by omega) _ (sOk_l0 kd sz ct mk rs es hr hs f (i + 1) (by omega)) 0 (by omega))) ?_
        rw [if_neg h]
        unfold dupR
        rw [List.drop_zero]
theorem sOk_l2 (kd sz ct : Int) (mk : ByteArray) (rs : List S170) (es : List S59) (hr : es.length ≤ 4000000) (hs : ∀ y ∈ es, y.f1.size ≤ 2000000) : ∀ (f i : Nat), i + f = es.length → Ev (fun k => spec_InodeOk.l2 k (i : Int) kd sz ct mk rs es) (enAll es f i)
  | f, i, hf => by
    refine Ev.step (spec_InodeOk.l2.eq_2 _ _ _ _ _ _ _) ?_
    cases f with
    | zero => exact ev_neg (by omega) (ev_now rfl)
    | succ f =>
      have hz : (rd_T59 es (i : Int)).f1.size ≤ 2000000 := by rw [rdiEntry es i (by omega)]; exact hs _ (List.getElem_mem _)
      refine ev_pos (by omega) (ev_pos (by omega) (Ev.bind (sEnt_ev _ _ hz) ?_))
      unfold enAll
      have ih := sOk_l2 kd sz ct mk rs es hr hs f (i + 1) (by omega)
      rw [w64s i (by omega)]
      by_cases h : (enV (rd_T59 es (i : Int)).f0 (rd_T59 es (i : Int)).f1).toList = ([] : List UInt8)
      · exact ev_to (ev_pos h (ev_now rfl)) (if_pos h).symm
      · refine ev_to (ev_neg h ?_) (if_neg h).symm
        unfold ascE
        by_cases h0 : (i : Int) > 0
        · rw [if_pos h0, w64 (x := (i : Int) - 1) (by omega) (by omega)]
          refine ev_pos h0 (ev_pos (by omega) (ev_pos (by omega) ?_))
          by_cases h2 : Op.bytesLess ((rd_T59 es ((i : Int) - 1)).f1).toList ((rd_T59 es (i : Int)).f1).toList = true
          · exact ev_to (ev_pos h2 ih) (if_pos h2).symm
          · exact ev_to (ev_neg h2 (ev_now rfl)) (if_neg h2).symm
        · rw [if_neg h0]
          exact ev_to (ev_neg h0 ih) (by simp)
theorem sOkI_ev (kd sz ct : Int) (mk : ByteArray) (rs : List S170) (es : List S59) (hr : rs.length ≤ 4000000) (he : es.length ≤ 4000000) (hs : ∀ y ∈ rs, y.f2.size ≤ 4000000) (hz : ∀ y ∈ es, y.f1.size ≤ 2000000) : Ev (fun k => spec_InodeOk.f k kd sz ct mk rs es) (okI kd sz ct mk rs es) := by
  unfold spec_InodeOk.f okI
  rw [l01In_eq]
  refine Ev.bind (Ev.now _) ?_
  by_cases h0 : 0 ≤ ct ∧ ct ≤ 65535
  · rw [decide_eq_true h0, Bool.true_and]
    refine ev_pos rfl ?_
    by_cases k0 : kd = 0
    · refine ev_to (ev_pos k0 ?_) (if_pos k0).symm
      by_cases a1 : sz = 0
      · by_cases a2 : mk.toList = ([] : List UInt8)
        · by_cases a3 : (rs.length : Int) = 0
          · refine ev_pos a1 (ev_pos a2 (ev_pos a3 (ev_now ?_)))
            rw [Bool.eq_iff_iff, beq_iff_eq, decide_eq_true_eq]
            exact ⟨fun h => ⟨a1, a2, by omega, by omega⟩, fun h => by have := h.2.2.2; omega⟩
          · exact ev_pos a1 (ev_pos a2 (ev_neg a3 (ev_now (by rw [decide_eq_false (fun h => a3 (by have := h.2.2.1; omega))]))))
        · exact ev_pos a1 (ev_neg a2 (ev_now (by rw [decide_eq_false (fun h => a2 h.2.1)])))
      · exact ev_neg a1 (ev_now (by rw [decide_eq_false (fun h => a1 h.1)]))
    refine ev_to (ev_neg k0 ?_) (if_neg k0).symm
    by_cases k1 : kd = 1
    · refine ev_to (ev_pos k1 ?_) (if_pos k1).symm
      have bad : ¬ ((0 ≤ sz ∧ sz ≤ 128) ∧ (mk.size : Int) = 8 ∧ (rs.length : Int) = pgF sz ∧ es.length = 0) → ∀ z : Bool, z = true → Ev (fun k => spec_InodeOk.j0 k z kd sz ct mk rs es) (decide ((0 ≤ sz ∧ sz ≤ 128) ∧ (mk.size : Int) = 8 ∧ (rs.length : Int) = pgF sz ∧ es.length = 0) && rcAll rs rs.length 0) := by
        intro hc z hz
        rw [decide_eq_false hc, Bool.false_and]
        refine Ev.step (spec_InodeOk.j0.eq_2 _ _ _ _ _ _ _) ?_
        exact ev_pos hz (ev_now rfl)
      rw [l01In_eq]
      refine Ev.bind (Ev.now _) ?_
      by_cases b1 : 0 ≤ sz ∧ sz ≤ 128
      · refine ev_pos (decide_eq_true b1) ?_
        by_cases b2 : (mk.size : Int) = 8
        · refine ev_pos b2 (Ev.bind (ev_eq (sPagesFor_eq sz b1.1 (by omega))) ?_)
          by_cases b3 : (rs.length : Int) = pgF sz
          · refine ev_pos b3 ?_
            by_cases b4 : (es.length : Int) > 0
            · exact bad (fun h => by have := h.2.2.2; omega) _ (decide_eq_true b4)
            · rw [decide_eq_true (show (0 ≤ sz ∧ sz ≤ 128) ∧ (mk.size : Int) = 8 ∧ (rs.length : Int) = pgF sz ∧ es.length = 0 from ⟨b1, b2, b3, by omega⟩), Bool.true_and]
              refine Ev.step (spec_InodeOk.j0.eq_2 _ _ _ _ _ _ _) ?_
              exact ev_neg (by simpa using b4) (sOk_l0 kd sz ct mk rs es hr hs rs.length 0 (by omega))
          · exact ev_neg b3 (bad (fun h => b3 h.2.2.1) _ rfl)
        · exact ev_neg b2 (bad (fun h => b2 h.2.1) _ rfl)
      · exact ev_neg (by simpa using b1) (bad (fun h => b1 h.1) _ rfl)
    refine ev_to (ev_neg k1 ?_) (if_neg k1).symm
    by_cases k2 : kd = 2
    · refine ev_to (ev_pos k2 ?_) (if_pos k2).symm
      have bad : ¬ (sz = 0 ∧ mk.toList = [] ∧ rs.length = 0 ∧ es.length ≤ 6) → ∀ z : Bool, z = true → Ev (fun k => spec_InodeOk.j3 k z kd sz ct mk rs es) (decide (sz = 0 ∧ mk.toList = [] ∧ rs.length = 0 ∧ es.length ≤ 6) && enAll es es.length 0) := by
        intro hc z hz
        rw [decide_eq_false hc, Bool.false_and]
        refine Ev.step (spec_InodeOk.j3.eq_2 _ _ _ _ _ _ _) ?_
        exact ev_pos hz (ev_now rfl)
      by_cases b1 : sz = 0
      · refine ev_pos b1 ?_
        by_cases b2 : mk.toList = ([] : List UInt8)
        · refine ev_pos b2 ?_
          by_cases b3 : (rs.length : Int) > 0
          · exact ev_pos b3 (bad (fun h => by have := h.2.2.1; omega) _ rfl)
          · refine ev_neg b3 ?_
            by_cases b4 : (es.length : Int) > 6
            · exact bad (fun h => by have := h.2.2.2; omega) _ (decide_eq_true b4)
            · rw [decide_eq_true (show sz = 0 ∧ mk.toList = [] ∧ rs.length = 0 ∧ es.length ≤ 6 from ⟨b1, b2, by omega, by omega⟩), Bool.true_and]
              refine Ev.step (spec_InodeOk.j3.eq_2 _ _ _ _ _ _ _) ?_
              exact ev_neg (by rw [decide_eq_true_eq]; exact b4) (sOk_l2 kd sz ct mk rs es he hz es.length 0 (by omega))
        · exact ev_neg b2 (bad (fun h => b2 h.2.1) _ rfl)
      · exact ev_neg b1 (bad (fun h => b1 h.1) _ rfl)
    · exact ev_to (ev_neg k2 (ev_now rfl)) (if_neg k2).symm
  · exact ev_neg (by simpa using h0) (ev_now (by rw [decide_eq_false h0, Bool.false_and]))
theorem idx_any (rs : List S170) (p : S170 → Bool) : ∀ i : Nat, decide (Lib.idxByFrom (fun _ y => p y) z170 rs i ≥ 0) = rs.any p := by
  induction rs with
  | nil => intro i; simp [Lib.idxByFrom]
  | cons x r ih =>
    intro i
    unfold Lib.idxByFrom
    rw [List.any_cons]
    by_cases h : p x = true
    · rw [if_pos h, h, Bool.true_or]; first | (simp; done) | (simp; omega)
    · rw [if_neg h, ih (i + 1)]; simp at h; rw [h, Bool.false_or]
theorem iCont_eq (rs : List S170) (a b : Int) (t : ByteArray) (hn : rs.length ≤ 4000000) : slices_ContainsFunc_Rec_g227.f rs a b t = some (rs.any (fun y => y.f0 == a)) := by
  unfold slices_ContainsFunc_Rec_g227.f
  rw [if_pos (by omega)]
  congr 1
  exact idx_any rs (fun y => y.f0 == a) 0
theorem iFile_l (kd sz ct : Int) (mk : ByteArray) (rs : List S170) (es : List S59) (hr : rs.length ≤ 4000000) (hs : ∀ y ∈ rs, y.f2.size ≤ 4000000) (N : Bool) (fin : Ev (fun k => (impl_within.f sz 0 128).bind fun t246 => (if t246 = true then (if (mk.size : Int) = 8 then ((impl_PagesFor.f sz).bind fun t247 => (if (rs.length : Int) = t247 then (some ((es.length : Int) == 0)) else (some false))) else (some false)) else (some false))) N) : ∀ (f i : Nat), i + f = rs.length → Ev (fun k => impl_isFile.l0 k rs (rs.length : Int) (i : Int) kd sz ct mk rs es) (rcAll rs f i && N)
  | f, i, hf => by
    refine Ev.step (impl_isFile.l0.eq_2 _ _ _ _ _ _ _ _ _) ?_
    cases f with
    | zero => exact ev_neg (by omega) (ev_to fin (by simp [rcAll]))
    | succ f =>
      have hz : (rd_T170 rs (i : Int)).f2.size ≤ 4000000 := by rw [rdiRec rs i (by omega)]; exact hs _ (List.getElem_mem _)
      refine ev_pos (by omega) (ev_pos (by omega) (ev_pos (by omega) (Ev.bind (iRec_ev _ _ _ hz) ?_)))
      unfold rcAll
      rw [w64s i (by omega), Int.toNat_natCast]
      by_cases h : (recV (rd_T170 rs (i : Int)).f0 (rd_T170 rs (i : Int)).f1 (rd_T170 rs (i : Int)).f2).toList = ([] : List UInt8)
      · exact ev_pos h (ev_now (by rw [if_pos h, Bool.false_and]))
      · refine ev_neg h (ev_pos (by omega) (Ev.bind (ev_eq (iCont_eq (rs.take i) _ _ _ (by rw [List.length_take]; omega))) ?_))
        rw [if_neg h]
        unfold dupR
        by_cases hd : ((rs.take i).any fun y => y.f0 == (rd_T170 rs (i : Int)).f0) = true
        · exact ev_pos hd (ev_now (by rw [if_pos hd, Bool.false_and]))
        · exact ev_neg hd (ev_to (iFile_l kd sz ct mk rs es hr hs N fin f (i + 1) (by omega)) (by rw [if_neg hd]))
theorem iFile_ev (kd sz ct : Int) (mk : ByteArray) (rs : List S170) (es : List S59) (hr : rs.length ≤ 4000000) (hs : ∀ y ∈ rs, y.f2.size ≤ 4000000) : Ev (fun k => impl_isFile.f k kd sz ct mk rs es) (decide ((0 ≤ sz ∧ sz ≤ 128) ∧ (mk.size : Int) = 8 ∧ (rs.length : Int) = pgF sz ∧ es.length = 0) && rcAll rs rs.length 0) := by
  unfold impl_isFile.f
  refine ev_to (iFile_l kd sz ct mk rs es hr hs (decide ((0 ≤ sz ∧ sz ≤ 128) ∧ (mk.size : Int) = 8 ∧ (rs.length : Int) = pgF sz ∧ es.length = 0)) ?_ rs.length 0 (by omega)) (Bool.and_comm _ _)
  rw [within_eq]
  refine Ev.bind (Ev.now _) ?_
  by_cases b1 : 0 ≤ sz ∧ sz ≤ 128
  · refine ev_pos (decide_eq_true b1) ?_
    by_cases b2 : (mk.size : Int) = 8
    · refine ev_pos b2 (Ev.bind (ev_eq (iPagesFor_eq sz b1.1 (by omega))) ?_)
      by_cases b3 : (rs.length : Int) = pgF sz
      · refine ev_pos b3 (ev_now ?_)
        rw [Bool.eq_iff_iff, beq_iff_eq, decide_eq_true_eq]
        exact ⟨fun h => ⟨b1, b2, b3, by omega⟩, fun h => by have := h.2.2.2; omega⟩
      · exact ev_neg b3 (ev_now (by rw [decide_eq_false (fun h => b3 h.2.2.1)]))
    · exact ev_neg b2 (ev_now (by rw [decide_eq_false (fun h => b2 h.2.1)]))
  · exact ev_neg (by simpa using b1) (ev_now (by rw [decide_eq_false (fun h => b1 h.1)]))
theorem iDir_l (kd sz ct : Int) (mk : ByteArray) (rs : List S170) (es : List S59) (hr : es.length ≤ 4000000) (hs : ∀ y ∈ es, y.f1.size ≤ 2000000) : ∀ (f i : Nat), i + f = es.length → Ev (fun k => impl_isDir.l0 k es (es.length : Int) (i : Int) kd sz ct mk rs es) (enAll es f i && decide (sz = 0 ∧ mk.toList = [] ∧ rs.length = 0 ∧ es.length ≤ 6))
  | f, i, hf => by
    refine Ev.step (impl_isDir.l0.eq_2 _ _ _ _ _ _ _ _ _) ?_
    cases f with
    | zero =>
      refine ev_neg (by omega) ?_
      rw [show enAll es 0 i = true from rfl, Bool.true_and]
      by_cases b1 : sz = 0
      · by_cases b2 : mk.toList = ([] : List UInt8)
        · by_cases b3 : (rs.length : Int) = 0
          · refine ev_pos b1 (ev_pos b2 (ev_pos b3 (ev_now ?_)))
            rw [Bool.eq_iff_iff, decide_eq_true_eq, decide_eq_true_eq]
            exact ⟨fun h => ⟨b1, b2, by omega, by omega⟩, fun h => by have := h.2.2.2; omega⟩
          · exact ev_pos b1 (ev_pos b2 (ev_neg b3 (ev_now (by rw [decide_eq_false (fun h => b3 (by have := h.2.2.1; omega))]))))
        · exact ev_pos b1 (ev_neg b2 (ev_now (by rw [decide_eq_false (fun h => b2 h.2.1)])))
      · exact ev_neg b1 (ev_now (by rw [decide_eq_false (fun h => b1 h.1)]))
    | succ f =>
      have hz : (rd_T59 es (i : Int)).f1.size ≤ 2000000 := by rw [rdiEntry es i (by omega)]; exact hs _ (List.getElem_mem _)
      refine ev_pos (by omega) (ev_pos (by omega) (ev_pos (by omega) (Ev.bind (iEnt_ev _ _ hz) ?_)))
      unfold enAll
      have ih := iDir_l kd sz ct mk rs es hr hs f (i + 1) (by omega)
      rw [w64s i (by omega)]
      by_cases h : (enV (rd_T59 es (i : Int)).f0 (rd_T59 es (i : Int)).f1).toList = ([] : List UInt8)
      · exact ev_pos h (ev_now (by rw [if_pos h, Bool.false_and]))
      · refine ev_neg h ?_
        rw [if_neg h]
        unfold ascE
        by_cases h0 : (i : Int) > 0
        · rw [if_pos h0, w64 (x := (i : Int) - 1) (by omega) (by omega)]
          refine ev_pos h0 (ev_pos (by omega) (ev_pos (by omega) ?_))
          by_cases h2 : Op.bytesLess ((rd_T59 es ((i : Int) - 1)).f1).toList ((rd_T59 es (i : Int)).f1).toList = true
          · exact ev_pos h2 (ev_to ih (by rw [if_pos h2]))
          · exact ev_neg h2 (ev_now (by rw [if_neg h2, Bool.false_and]))
        · rw [if_neg h0]
          exact ev_neg h0 (ev_to ih (by rw [if_pos rfl]))
theorem iOkI_ev (kd sz ct : Int) (mk : ByteArray) (rs : List S170) (es : List S59) (hr : rs.length ≤ 4000000) (he : es.length ≤ 4000000) (hs : ∀ y ∈ rs, y.f2.size ≤ 4000000) (hz : ∀ y ∈ es, y.f1.size ≤ 2000000) : Ev (fun k => impl_InodeOk.f k kd sz ct mk rs es) (okI kd sz ct mk rs es) := by
  unfold impl_InodeOk.f okI
  rw [within_eq]
  refine Ev.bind (Ev.now _) ?_
  by_cases h0 : 0 ≤ ct ∧ ct ≤ 65535
  · rw [decide_eq_true h0, Bool.true_and]
    refine ev_pos rfl ?_
    by_cases k0 : kd = 0
    · refine ev_to (ev_pos k0 ?_) (if_pos k0).symm
      by_cases a1 : sz = 0
      · by_cases a2 : mk.toList = ([] : List UInt8)
        · by_cases a3 : (rs.length : Int) = 0
          · refine ev_pos a1 (ev_pos a2 (ev_pos a3 (ev_now ?_)))
            rw [Bool.eq_iff_iff, beq_iff_eq, decide_eq_true_eq]
            exact ⟨fun h => ⟨a1, a2, by omega, by omega⟩, fun h => by have := h.2.2.2; omega⟩
          · exact ev_pos a1 (ev_pos a2 (ev_neg a3 (ev_now (by rw [decide_eq_false (fun h => a3 (by have := h.2.2.1; omega))]))))
        · exact ev_pos a1 (ev_neg a2 (ev_now (by rw [decide_eq_false (fun h => a2 h.2.1)])))
      · exact ev_neg a1 (ev_now (by rw [decide_eq_false (fun h => a1 h.1)]))
    refine ev_to (ev_neg k0 ?_) (if_neg k0).symm
    by_cases k1 : kd = 1
    · exact ev_to (ev_pos k1 (Ev.bind (iFile_ev kd sz ct mk rs es hr hs) (ev_now rfl))) (if_pos k1).symm
    refine ev_to (ev_neg k1 ?_) (if_neg k1).symm
    by_cases k2 : kd = 2
    · refine ev_to (ev_pos k2 (Ev.bind ?_ (ev_now rfl))) (if_pos k2).symm
      unfold impl_isDir.f
      exact ev_to (iDir_l kd sz ct mk rs es he hz es.length 0 (by omega)) (Bool.and_comm _ _)
    · exact ev_to (ev_neg k2 (ev_now rfl)) (if_neg k2).symm
  · exact ev_neg (by simpa using h0) (ev_now (by rw [decide_eq_false h0, Bool.false_and]))

/-! ### inodewords -/
def fil8 : List ByteArray → List ByteArray := fun ws => ws ++ List.replicate (8 - ws.length) (zb 8)
noncomputable def rcW (rs : List S170) : List ByteArray := rs.map (fun y => recV y.f0 y.f1 y.f2)
noncomputable def enW (es : List S59) : List ByteArray := es.map (fun y => enV y.f0 y.f1)
noncomputable def iwV (kd sz ct : Int) (mk : ByteArray) (rs : List S170) (es : List S59) : List ByteArray := if okI kd sz ct mk rs es = true then fil8 ([wdT (nt kd 1 ++ nt sz 2 ++ nt ct 2), wdT mk] ++ rcW rs ++ enW es) else []
theorem fil8_step (ws : List ByteArray) (h : ws.length < 8) : fil8 (ws ++ [zb 8]) = fil8 ws := by
  unfold fil8
  rw [show 8 - ws.length = (8 - (ws ++ [zb 8]).length) + 1 by simp; omega, List.replicate_succ, List.append_assoc, List.singleton_append]
theorem sIW_l2 : ∀ (f : Nat) (ws : List ByteArray), ws.length ≤ 8000008 → 8 ≤ f + ws.length → Ev (fun k => spec_InodeWords.l2 k ws) (fil8 ws)
  | f, ws, hb, hf => by
    refine Ev.step (spec_InodeWords.l2.eq_2 _) ?_
    by_cases h : (ws.length : Int) < 8
    · cases f with
      | zero => omega
      | succ f => exact ev_pos h (Ev.bind (zeroText_ev 8 (by omega)) (ev_pos (by omega) (ev_to (sIW_l2 f (ws ++ [zb 8]) (by simp; omega) (by simp; omega)) (fil8_step ws (by omega)))))
    · refine ev_neg h (ev_now ?_)
      unfold fil8
      rw [show 8 - ws.length = 0 by omega]; simp
theorem sIW_l1 (kd sz ct : Int) (mk : ByteArray) (rs : List S170) (es : List S59) (hr : es.length ≤ 4000000) (hs : ∀ y ∈ es, y.f1.size ≤ 2000000) : ∀ (i : Nat) (ws : List ByteArray), i ≤ es.length → ws.length ≤ 4000002 + i → Ev (fun k => spec_InodeWords.l1 k ws (i : Int) kd sz ct mk rs es) (fil8 (ws ++ enW (es.drop i)))
  | i, ws, hi, hw => by
    refine Ev.step (spec_InodeWords.l1.eq_2 _ _ _ _ _ _ _ _) ?_
    by_cases h : i < es.length
    · refine ev_pos (by omega) (ev_pos (by omega) ?_)
      rw [rdiEntry es i h, w64s i (by omega), drop_at es i h]
      refine Ev.bind (sEnt_ev _ _ (hs _ (List.getElem_mem _))) (ev_pos (by omega) (ev_to (sIW_l1 kd sz ct mk rs es hr hs (i + 1) _ (by omega) (by simp; omega)) ?_))
      unfold enW; rw [List.map_cons, List.append_assoc, List.singleton_append]
    · refine ev_neg (by omega) (ev_to (sIW_l2 8 ws (by omega) (by omega)) ?_)
      rw [List.drop_of_length_le (by omega)]; simp [enW]
  termination_by i => es.length - i
theorem sIW_l0 (kd sz ct : Int) (mk : ByteArray) (rs : List S170) (es : List S59) (hr : rs.length ≤ 4000000) (he : es.length ≤ 4000000) (hs : ∀ y ∈ rs, y.f2.size ≤ 4000000) (hz : ∀ y ∈ es, y.f1.size ≤ 2000000) : ∀ (i : Nat) (ws : List ByteArray), i ≤ rs.length → ws.length ≤ 2 + i → Ev (fun k => spec_InodeWords.l0 k ws (i : Int) kd sz ct mk rs es) (fil8 (ws ++ rcW (rs.drop i) ++ enW es))
  | i, ws, hi, hw => by
    refine Ev.step (spec_InodeWords.l0.eq_2 _ _ _ _ _ _ _ _) ?_
    by_cases h : i < rs.length
    · refine ev_pos (by omega) (ev_pos (by omega) ?_)
      rw [rdiRec rs i h, w64s i (by omega), drop_at rs i h]
      refine Ev.bind (sRec_ev _ _ _ (hs _ (List.getElem_mem _))) (ev_pos (by omega) (ev_to (sIW_l0 kd sz ct mk rs es hr he hs hz (i + 1) _ (by omega) (by simp; omega)) ?_))
      unfold rcW; rw [List.map_cons, List.append_assoc ws, List.singleton_append]
    · refine ev_neg (by omega) (ev_to (sIW_l1 kd sz ct mk rs es he hz 0 ws (Nat.zero_le _) (by omega)) ?_)
      rw [List.drop_zero, List.drop_of_length_le (show rs.length ≤ i by omega)]; simp [rcW]
  termination_by i => rs.length - i
theorem sIW_ev (kd sz ct : Int) (mk : ByteArray) (rs : List S170) (es : List S59) (hm : mk.size ≤ 4000000) (hr : rs.length ≤ 4000000) (he : es.length ≤ 4000000) (hs : ∀ y ∈ rs, y.f2.size ≤ 4000000) (hz : ∀ y ∈ es, y.f1.size ≤ 2000000) : Ev (fun k => spec_InodeWords.f k kd sz ct mk rs es) (iwV kd sz ct mk rs es) := by
  unfold spec_InodeWords.f iwV
  refine Ev.bind (sOkI_ev kd sz ct mk rs es hr he hs hz) ?_
  by_cases h : okI kd sz ct mk rs es = true
  · have z1 := nt_size kd 1
    have z2 := nt_size sz 2
    have z3 := nt_size ct 2
    rw [if_pos h]
    refine ev_pos h (Ev.bind (sNum_ev kd 1 (by omega) (by omega)) (Ev.bind (sNum_ev sz 2 (by omega) (by omega)) (ev_pos (by omega) (Ev.bind (sNum_ev ct 2 (by omega) (by omega)) (ev_pos (by rw [ByteArray.size_append]; omega) (Ev.bind (sWord_ev _ (by rw [ByteArray.size_append, ByteArray.size_append]; omega)) (Ev.bind (sWord_ev mk hm) ?_)))))))
    exact ev_to (sIW_l0 kd sz ct mk rs es hr he hs hz 0 _ (by omega) (by simp)) (by rw [List.drop_zero])
  · rw [if_neg h]; exact ev_neg h (ev_now rfl)
theorem zeroWord_eq : impl_zeroWord.f = some (zb 8) := by
  unfold impl_zeroWord.f
  rw [padded_eq _ 8 (by omega) (by omega) (by decide), Option.bind_some]
  congr 1
theorem iIW_l2 : ∀ (f : Nat) (ws : List ByteArray), ws.length ≤ 8000008 → 8 ≤ f + ws.length → Ev (fun k => impl_inodeText.l2 k ws) (fil8 ws)
  | f, ws, hb, hf => by
    refine Ev.step (impl_inodeText.l2.eq_2 _) ?_
    by_cases h : (ws.length : Int) < 8
    · cases f with
      | zero => omega
      | succ f => exact ev_pos h (Ev.bind (ev_eq zeroWord_eq) (ev_pos (by omega) (ev_to (iIW_l2 f (ws ++ [zb 8]) (by simp; omega) (by simp; omega)) (fil8_step ws (by omega)))))
    · refine ev_neg h (ev_now ?_)
      unfold fil8
      rw [show 8 - ws.length = 0 by omega]; simp
theorem iIW_l1 (es : List S59) (hr : es.length ≤ 4000000) (hs : ∀ y ∈ es, y.f1.size ≤ 2000000) : ∀ (i : Nat) (ws : List ByteArray), i ≤ es.length → ws.length ≤ 4000002 + i → Ev (fun k => impl_inodeText.l1 k ws es (es.length : Int) (i : Int)) (fil8 (ws ++ enW (es.drop i)))
  | i, ws, hi, hw => by
    refine Ev.step (impl_inodeText.l1.eq_2 _ _ _ _) ?_
    by_cases h : i < es.length
    · refine ev_pos (by omega) (ev_pos (by omega) (ev_pos (by omega) ?_))
      rw [rdiEntry es i h, w64s i (by omega), drop_at es i h]
      refine Ev.bind (iEnt_ev _ _ (hs _ (List.getElem_mem _))) (ev_pos (by omega) (ev_to (iIW_l1 es hr hs (i + 1) _ (by omega) (by simp; omega)) ?_))
      unfold enW; rw [List.map_cons, List.append_assoc, List.singleton_append]
    · refine ev_neg (by omega) (ev_to (iIW_l2 8 ws (by omega) (by omega)) ?_)
      rw [List.drop_of_length_le (by omega)]; simp [enW]
  termination_by i => es.length - i
theorem iIW_l0 (kd sz ct : Int) (mk : ByteArray) (rs : List S170) (es : List S59) (hr : rs.length ≤ 4000000) (he : es.length ≤ 4000000) (hs : ∀ y ∈ rs, y.f2.size ≤ 4000000) (hz : ∀ y ∈ es, y.f1.size ≤ 2000000) : ∀ (i : Nat) (ws : List ByteArray), i ≤ rs.length → ws.length ≤ 2 + i → Ev (fun k => impl_inodeText.l0 k ws rs (rs.length : Int) (i : Int) kd sz ct mk rs es) (fil8 (ws ++ rcW (rs.drop i) ++ enW es))
  | i, ws, hi, hw => by
    refine Ev.step (impl_inodeText.l0.eq_2 _ _ _ _ _ _ _ _ _ _) ?_
    by_cases h : i < rs.length
    · refine ev_pos (by omega) (ev_pos (by omega) (ev_pos (by omega) ?_))
      rw [rdiRec rs i h, w64s i (by omega), drop_at rs i h]
      refine Ev.bind (iRec_ev _ _ _ (hs _ (List.getElem_mem _))) (ev_pos (by omega) (ev_to (iIW_l0 kd sz ct mk rs es hr he hs hz (i + 1) _ (by omega) (by simp; omega)) ?_))
      unfold rcW; rw [List.map_cons, List.append_assoc ws, List.singleton_append]
    · refine ev_neg (by omega) (ev_to (iIW_l1 es he hz 0 ws (Nat.zero_le _) (by omega)) ?_)
      rw [List.drop_zero, List.drop_of_length_le (show rs.length ≤ i by omega)]; simp [rcW]
  termination_by i => rs.length - i
theorem iIW_ev (kd sz ct : Int) (mk : ByteArray) (rs : List S170) (es : List S59) (hm : mk.size ≤ 4000000) (hr : rs.length ≤ 4000000) (he : es.length ≤ 4000000) (hs : ∀ y ∈ rs, y.f2.size ≤ 4000000) (hz : ∀ y ∈ es, y.f1.size ≤ 2000000) : Ev (fun k => impl_InodeWords.f k kd sz ct mk rs es) (iwV kd sz ct mk rs es) := by
  unfold impl_InodeWords.f iwV
  refine Ev.bind (iOkI_ev kd sz ct mk rs es hr he hs hz) ?_
  by_cases h : okI kd sz ct mk rs es = true
  · have z1 := nt_size kd 1
    have z2 := nt_size sz 2
    have z3 := nt_size ct 2
    rw [if_pos h]
    refine ev_pos h (Ev.bind ?_ (ev_now rfl))
    unfold impl_inodeText.f
    refine Ev.bind (iNum_ev kd 1 (by omega) (by omega)) (Ev.bind (iNum_ev sz 2 (by omega) (by omega)) (ev_pos (by omega) (Ev.bind (iNum_ev ct 2 (by omega) (by omega)) (ev_pos (by rw [ByteArray.size_append]; omega) (Ev.bind (ev_eq (iWord_eq _ (by rw [ByteArray.size_append, ByteArray.size_append]; omega))) (Ev.bind (ev_eq (iWord_eq mk hm)) ?_))))))
    exact ev_to (iIW_l0 kd sz ct mk rs es hr he hs hz 0 _ (by omega) (by simp)) (by rw [List.drop_zero])
  · rw [if_neg h]; exact ev_neg h (ev_now rfl)
theorem iwV_len (kd sz ct : Int) (mk : ByteArray) (rs : List S170) (es : List S59) : (iwV kd sz ct mk rs es).length ≤ 10 + rs.length + es.length := by
  unfold iwV
  split
  · unfold fil8 rcW enW; simp; omega
  · simp
theorem iwV_len2 (kd sz ct : Int) (mk : ByteArray) (rs : List S170) (es : List S59) (h : mk.size + rs.length + es.length ≤ 1048576) : (iwV kd sz ct mk rs es).length ≤ 1048576 := by
  unfold iwV
  split
  · rename_i hok
    have hb : rs.length + es.length ≤ 1048570 := by
      unfold okI at hok
      rw [Bool.and_eq_true] at hok
      have h2 := hok.2
      split at h2
      · have := of_decide_eq_true h2; omega
      · split at h2
        · rw [Bool.and_eq_true] at h2; have := of_decide_eq_true h2.1; omega
        · split at h2
          · rw [Bool.and_eq_true] at h2; have := of_decide_eq_true h2.1; omega
          · cases h2
    unfold fil8 rcW enW; simp; omega
  · simp

/-! ### markstrings -/
theorem mt_l (n : Nat) : ∀ o : ByteArray, o.size + 40 * (n + 1) ≤ 4000000000000000 → ∃ r : ByteArray, Ev (fun k => laws_markText.l0 k n o) r := by
  induction n using Nat.strongRecOn with
  | _ n ih =>
    intro o ho
    by_cases h : (n : Int) > 0
    · have hd : wrap64 (Int.tdiv (n : Int) 10) = ((n / 10 : Nat) : Int) := by
        rw [Int.tdiv_eq_ediv_of_nonneg (by omega), w64 (by omega) (by omega)]; omega
      obtain ⟨r, hr⟩ := ih (n / 10) (by omega) (strOfNums [wrap64 (48 + Int.tmod (n : Int) 10) % 256] ++ o) (by rw [ByteArray.size_append, strOfNums_size]; simp only [List.length_singleton]; omega)
      refine ⟨r, ?_⟩
      refine Ev.step (laws_markText.l0.eq_2 _ _) ?_
      refine ev_pos h (Ev.bind (Ev.now _) (ev_pos (by rw [strOfNums_size]; simp only [List.length_singleton]; omega) ?_))
      rw [hd]
      exact hr
    · refine ⟨(⟨#[109]⟩ : ByteArray) ++ o, ?_⟩
      refine Ev.step (laws_markText.l0.eq_2 _ _) ?_
      exact ev_neg h (ev_pos (by omega) (ev_now rfl))
noncomputable def mtx (n : Nat) : ByteArray := evv ⟨#[]⟩ (fun k => laws_markText.f k (n : Int))
theorem mtx_ev (n : Nat) (hn : n ≤ 4000000) : Ev (fun k => laws_markText.f k (n : Int)) (mtx n) := by
  unfold mtx
  apply evv_ev
  by_cases h : (n : Int) ≤ 0
  · exact ⟨_, by unfold laws_markText.f; exact ev_pos h (Ev.now _)⟩
  · have e0 : (⟨#[]⟩ : ByteArray).size = 0 := rfl
    obtain ⟨r, hr⟩ := mt_l n ⟨#[]⟩ (by omega)
    exact ⟨r, by unfold laws_markText.f; exact ev_neg h hr⟩
noncomputable def smarks (a n : Nat) : List ByteArray := (List.range' a n).map mtx
theorem smarks_len (a n : Nat) : (smarks a n).length = n := by simp [smarks]
theorem markStringS_l (n a : Nat) (hn : n ≤ 1048576) (ha : a ≤ 1048576) : ∀ (i : Nat) (ys : List ByteArray), i ≤ n → ys.length = n →
    Ev (fun k => laws_markStringS.l0 k ys ((a + i : Nat) : Int) i) (((a + n : Nat) : Int), ys.take i ++ smarks (a + i) (n - i))
  | i, ys, hi, hl => by
    refine Ev.step (laws_markStringS.l0.eq_2 _ _ _) ?_
    by_cases h : i < n
    · refine ev_pos (by omega) (Ev.bind (mtx_ev (a + i) (by omega)) (ev_pos (by omega) ?_))
      rw [w64s i (by omega), w64s (a + i) (by omega), Int.toNat_natCast]
      refine ev_to (markStringS_l n a hn ha (i + 1) (ys.set i _) (by omega) (by simp [hl])) ?_
      congr 1
      rw [List.take_succ_eq_append_getElem (by simp; omega)]
      simp only [List.getElem_set_self, List.append_assoc, List.take_set_of_le (Nat.le_refl i)]
      congr 1
      unfold smarks
      rw [show n - i = (n - (i + 1)) + 1 by omega, List.range'_succ]
      simp [Nat.add_assoc]
    · have : i = n := by omega
      subst this
      refine ev_neg (by omega) (ev_now ?_)
      simp [smarks, ← hl]
  termination_by i => n - i
theorem markStringS_ev (xs : List ByteArray) (a : Nat) (hn : xs.length ≤ 1048576) (ha : a ≤ 1048576) : Ev (fun k => laws_markStringS.f k xs (a : Int)) (((a + xs.length : Nat) : Int), smarks a xs.length) := by
  unfold laws_markStringS.f
  have := markStringS_l xs.length a hn ha 0 xs (by omega) rfl
  simpa using this

theorem heldStringS_l (n a : Nat) (hn : n ≤ 1048576) (ha : a ≤ 1048576) : ∀ (i : Nat), i ≤ n → Ev (fun k => laws_heldStringS.l0 k (smarks a n) ((a + i : Nat) : Int) i) ((a + n : Nat) : Int)
  | i, hi => by
    refine Ev.step (laws_heldStringS.l0.eq_2 _ _ _) ?_
    have hl := smarks_len a n
    by_cases h : i < n
    · have he : rdOf ByteArray.empty (smarks a n) (i : Int) = mtx (a + i) := by
        rw [rdOf_at _ _ i (by omega)]; simp [smarks]
      rw [he]
      refine ev_pos (by omega) (ev_pos (by omega) (Ev.bind (mtx_ev (a + i) (by omega)) (ev_pos rfl ?_)))
      rw [w64s i (by omega), w64s (a + i) (by omega)]
      exact heldStringS_l n a hn ha (i + 1) (by omega)
    · have : i = n := by omega
      subst this
      exact ev_neg (by omega) (ev_now rfl)
  termination_by i => n - i
theorem heldStringS_ev (n a : Nat) (hn : n ≤ 1048576) (ha : a ≤ 1048576) : Ev (fun k => laws_heldStringS.f k (smarks a n) (a : Int)) ((a + n : Nat) : Int) := by
  unfold laws_heldStringS.f
  have := heldStringS_l n a hn ha 0 (by omega)
  simpa using this


/-! ### markinode -/
theorem exb {α β : Type} {F : Nat → Option α} {y : α} {G : Nat → α → Option β} {P : β → Prop} (h : Ev F y) (e : ∃ r, Ev (fun k => G k y) r ∧ P r) : ∃ r, Ev (fun k => (F k).bind (G k)) r ∧ P r := by
  obtain ⟨r, hr, hp⟩ := e
  exact ⟨r, Ev.bind h hr, hp⟩
theorem exp {β : Type} {c : Prop} [Decidable c] {f g : Nat → Option β} {P : β → Prop} (h : c) (e : ∃ r, Ev f r ∧ P r) : ∃ r, Ev (fun k => if c then f k else g k) r ∧ P r := by
  obtain ⟨r, hr, hp⟩ := e
  exact ⟨r, ev_pos h hr, hp⟩
theorem exs {β : Type} {F G : Nat → Option β} {P : β → Prop} (h : ∀ k, F (k + 1) = G k) (e : ∃ r, Ev G r ∧ P r) : ∃ r, Ev F r ∧ P r := by
  obtain ⟨r, hr, hp⟩ := e
  exact ⟨r, Ev.step h hr, hp⟩
theorem markRecS_l (n a : Nat) (hn : a + 3 * n ≤ 4000000) : ∀ (i : Nat) (ys : List S170), i ≤ n → ys.length = n →
    ∃ r : Int × List S170, Ev (fun k => laws_markRecS.l0 k ys ((a + 3 * i : Nat) : Int) (i : Int)) r ∧ (r.1 = ((a + 3 * n : Nat) : Int) ∧ r.2.length = n)
  | i, ys, hi, hl => by
    refine exs (laws_markRecS.l0.eq_2 _ _ _) ?_
    by_cases h : i < n
    · have e1 : wrap64 (((a + 3 * i : Nat) : Int) + 1) = ((a + 3 * i + 1 : Nat) : Int) := w64s _ (by omega)
      have e2 : wrap64 (((a + 3 * i + 1 : Nat) : Int) + 1) = ((a + 3 * i + 2 : Nat) : Int) := w64s _ (by omega)
      have e3 : wrap64 (((a + 3 * i + 2 : Nat) : Int) + 1) = ((a + 3 * (i + 1) : Nat) : Int) := by rw [show a + 3 * (i + 1) = a + 3 * i + 2 + 1 by omega]; exact w64s _ (by omega)
      refine exp (by omega) (exp (by omega) (exb (Ev.now _) (exb (Ev.now _) ?_)))
      rw [e1, e2, e3, Int.toNat_natCast, w64s i (by omega)]
      exact exb (mtx_ev _ (by omega)) (markRecS_l n a hn (i + 1) _ (by omega) (by simp [hl]))
    · have : i = n := by omega
      subst this
      exact ⟨_, ev_neg (by omega) (ev_now rfl), rfl, hl⟩
  termination_by i => n - i
theorem markEntryS_l (n a : Nat) (hn : a + 2 * n ≤ 4000000) : ∀ (i : Nat) (ys : List S59), i ≤ n → ys.length = n →
    ∃ r : Int × List S59, Ev (fun k => laws_markEntryS.l0 k ys ((a + 2 * i : Nat) : Int) (i : Int)) r ∧ (r.1 = ((a + 2 * n : Nat) : Int) ∧ r.2.length = n)
  | i, ys, hi, hl => by
    refine exs (laws_markEntryS.l0.eq_2 _ _ _) ?_
    by_cases h : i < n
    · have e1 : wrap64 (((a + 2 * i : Nat) : Int) + 1) = ((a + 2 * i + 1 : Nat) : Int) := w64s _ (by omega)
      have e2 : wrap64 (((a + 2 * i + 1 : Nat) : Int) + 1) = ((a + 2 * (i + 1) : Nat) : Int) := by rw [show a + 2 * (i + 1) = a + 2 * i + 1 + 1 by omega]; exact w64s _ (by omega)
      refine exp (by omega) (exp (by omega) (exb (Ev.now _) ?_))
      rw [e1, e2, Int.toNat_natCast, w64s i (by omega)]
      exact exb (mtx_ev _ (by omega)) (markEntryS_l n a hn (i + 1) _ (by omega) (by simp [hl]))
    · have : i = n := by omega
      subst this
      exact ⟨_, ev_neg (by omega) (ev_now rfl), rfl, hl⟩
  termination_by i => n - i
theorem markInode_ev (kd sz ct : Int) (mk : ByteArray) (rs : List S170) (es : List S59) (hre : rs.length + es.length ≤ 1048576) : ∃ (n : Nat) (rz : List S170) (ez : List S59), Ev (fun k => laws_markInode.f k kd sz ct mk rs es 1) ((n : Int), rz, ez) := by
  obtain ⟨⟨m, rz⟩, h1, h2, h3⟩ := markRecS_l rs.length 1 (by omega) 0 rs (by omega) rfl
  obtain ⟨⟨m2, ez⟩, h4, h5, h6⟩ := markEntryS_l es.length (1 + 3 * rs.length) (by omega) 0 es (by omega) rfl
  simp only at h2 h5
  subst h2
  subst h5
  refine ⟨1 + 3 * rs.length + 2 * es.length, rz, ez, ?_⟩
  unfold laws_markInode.f laws_markRecS.f laws_markEntryS.f
  exact Ev.bind h1 (Ev.bind h4 (ev_now rfl))

/-! ### eqstrings -/
theorem eqStringS_l (xs : List ByteArray) (hn : xs.length ≤ 1048576) : ∀ (i : Nat), i ≤ xs.length → Ev (fun k => laws_eqStringS.l0 k xs xs i) true
  | i, hi => by
    refine Ev.step (laws_eqStringS.l0.eq_2 _ _ _) ?_
    by_cases h : i < xs.length
    · refine ev_pos (by omega) (ev_pos (by omega) (ev_pos (by omega) (ev_pos rfl ?_)))
      rw [w64s i (by omega)]
      exact eqStringS_l xs hn (i + 1) (by omega)
    · exact ev_neg (by omega) (ev_now rfl)
  termination_by i => xs.length - i
theorem eqStringS_ev (xs : List ByteArray) (hn : xs.length ≤ 1048576) : Ev (fun k => laws_eqStringS.f k xs xs) true := by
  unfold laws_eqStringS.f
  exact ev_pos rfl (eqStringS_l xs hn 0 (by omega))

/-! ### FnExactInodeWords -/
theorem FnExactInodeWords : laws_FnExactInodeWords.Law := by
  intro kd sz ct mk rs es w0 w1 w2 w3 hr he
  apply Ev.rounds
  unfold laws_FnExactInodeWords.f
  refine Ev.bind (szI_ev kd sz ct mk rs es w3 hr he 1048576 (by omega) (by omega)) ?_
  by_cases h : left 1048576 (mk.size + (wtRecS rs + (wtEntryS es + 0))) < 0
  · exact ev_pos h (ev_now rfl)
  have hw := (left_le (a := 1048576) (t := mk.size + (wtRecS rs + (wtEntryS es + 0))) (by omega)).1
  have hto := toI_ev kd sz ct mk rs es (by omega)
  have heq := eqI_ev kd sz ct mk (rs.map cvRec) (es.map cvEntry) (by rw [wiRecS_cv]; omega) (by rw [wiEntryS_cv]; omega)
  have hp := hw
  unfold wtRecS wtEntryS at hp
  have lr : (rs.map cvRec).length ≤ 1048576 := by rw [List.length_map]; omega
  have le : (es.map cvEntry).length ≤ 1048576 := by rw [List.length_map]; omega
  have hs : ∀ y ∈ rs.map cvRec, y.f2.size ≤ 4000000 := by
    intro y hy
    obtain ⟨x, hx, rfl⟩ := List.mem_map.1 hy
    have := sumBy_mem (f := wtRec) hx
    simp only [wtRec] at this
    simp only [cvRec]
    omega
  have hz : ∀ y ∈ es.map cvEntry, y.f1.size ≤ 2000000 := by
    intro y hy
    obtain ⟨x, hx, rfl⟩ := List.mem_map.1 hy
    have := sumBy_mem (f := wtEntry) hx
    simp only [wtEntry] at this
    simp only [cvEntry]
    omega
  have hm : mk.size ≤ 4000000 := by omega
  obtain ⟨n, rz, ez, hmk⟩ := markInode_ev kd sz ct mk (rs.map cvRec) (es.map cvEntry) (by rw [List.length_map, List.length_map]; omega)
  have hl2 := iwV_len2 kd sz ct mk (rs.map cvRec) (es.map cvEntry) (by rw [List.length_map, List.length_map]; omega)
  refine ev_neg h ?_
  repeat' first
    | (with_reducible exact ev_now rfl)
    | (with_reducible refine Ev.bind (hto) ?_)
    | (with_reducible refine Ev.bind (sIW_ev kd sz ct mk _ _ hm (by omega) (by omega) hs hz) ?_)
    | (with_reducible refine Ev.bind (iIW_ev kd sz ct mk _ _ hm (by omega) (by omega) hs hz) ?_)
    | (with_reducible refine Ev.bind (heq) ?_)
    | (with_reducible refine Ev.bind (hmk) ?_)
    | (with_reducible refine Ev.bind (eqStringS_ev _ (by omega)) ?_)
    | (with_reducible refine Ev.bind (markStringS_ev _ 1 (by omega) (by omega)) ?_)
    | (with_reducible refine Ev.bind (heldStringS_ev _ 1 (by omega) (by omega)) ?_)
    | (with_reducible refine ev_pos rfl ?_)
    | ((with_reducible refine ev_pos ?c_ ?_); (case c_ => first | rfl | omega | (dsimp only; omega) | (simp only [decide_eq_true_eq]; omega) | (simp; done)))
    | ((with_reducible refine ev_neg ?c_ ?_); (case c_ => first | rfl | omega | (dsimp only; omega) | (simp only [decide_eq_true_eq]; omega) | (simp; done)))
    | (refine Ev.step (laws_FnExactInodeWords.j0.eq_2 _ _ _ _ _ _) ?_)
    | (refine Ev.step (laws_FnExactInodeWords.j1.eq_2 _ _ _ _ _ _ _ _ _ _ _ _ _ _) ?_)
    | (refine Ev.step (laws_FnExactInodeWords.j2.eq_2 _ _ _ _ _ _ _ _ _ _ _ _ _ _) ?_)
    | (refine Ev.step (laws_FnExactInodeWords.j3.eq_2 _ _ _ _ _ _ _ _ _) ?_)
    | (refine Ev.step (laws_FnExactInodeWords.j4.eq_2 _ _ _ _ _ _ _ _) ?_)
    | (refine Ev.step (laws_FnExactInodeWords.j5.eq_2 _ _ _ _ _ _ _ _ _ _) ?_)
    | (refine Ev.step (laws_FnExactInodeWords.j6.eq_2 _ _ _ _ _ _ _ _ _) ?_)
    | (refine Ev.step (laws_FnExactInodeWords.j7.eq_2 _ _) ?_)
    | ((with_reducible refine ev_now ?c_); (case c_ => first | rfl | (simp; done)))
    | (dsimp only)

end Go.Proofs.Ytcdnfkoahajhhaa.Pure
