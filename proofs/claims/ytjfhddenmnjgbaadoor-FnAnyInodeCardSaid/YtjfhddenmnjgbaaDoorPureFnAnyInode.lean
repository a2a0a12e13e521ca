/- The pure statement of FnAnyInode is proved: for all arguments within the row's own bounds the Lean function that the law's walk comes to answers true. Conditions: none beyond these bounds. -/
import Derived.Test.YtjfhddenmnjgbaaDoorStFnAnyInode
import Derived.Test.YtjfhddenmnjgbaaDoorBase
namespace Go.Proofs.YtjfhddenmnjgbaaDoor.Pure
open Go.RowKit Go.Proofs.YtjfhddenmnjgbaaDoor.PFnAnyInode Go.Proofs.YtjfhddenmnjgbaaDoorW.PrintWords Go.Proofs.YtjfhddenmnjgbaaDoorW.PrintLast Go.Proofs.YtjfhddenmnjgbaaDoor.Base
set_option linter.unusedVariables false
set_option linter.unusedSimpArgs false
/-! ### draw -/
theorem and255 (x : Int) : 0 ≤ Go.bits .and .i64 x 255 ∧ Go.bits .and .i64 x 255 ≤ 255 := by
  have h : (BitVec.ofInt IntKind.i64.bits x &&& BitVec.ofInt IntKind.i64.bits 255).toNat ≤ 255 := by
    rw [BitVec.toNat_and]
    exact Nat.le_trans Nat.and_le_right (by decide)
  show 0 ≤ IntKind.i64.wrap (((BitVec.ofInt IntKind.i64.bits x &&& BitVec.ofInt IntKind.i64.bits 255).toNat : Nat) : Int) ∧ IntKind.i64.wrap (((BitVec.ofInt IntKind.i64.bits x &&& BitVec.ofInt IntKind.i64.bits 255).toNat : Nat) : Int) ≤ 255
  generalize (BitVec.ofInt IntKind.i64.bits x &&& BitVec.ofInt IntKind.i64.bits 255).toNat = m at h
  rw [IntKind.wrap_i64]
  omega
theorem new_l (xs : List Int) (hn : xs.length ≤ 4000000) : ∀ (i : Nat) (h : Int), i ≤ xs.length → ∃ r, Ev (fun k => spec_l01New.l0 k xs h i) (xs, 0, r)
  | i, h, hi => by
    by_cases c : i < xs.length
    · by_cases c2 : (i : Int) < 4000
      · obtain ⟨r, hr⟩ := new_l xs hn (i + 1) (Go.bits .and .i64 (wrap64 ((wrap64 ((wrap64 (h * 131)) + (wrap64 (rd xs i)))) + 7)) 1073741823) (by omega)
        refine ⟨r, ?_⟩
        refine Ev.step (spec_l01New.l0.eq_2 _ _ _) ?_
        refine ev_pos (by omega) (ev_pos c2 (ev_pos (by omega) ?_))
        rw [w64s i (by omega)]
        exact hr
      · refine ⟨h, ?_⟩
        refine Ev.step (spec_l01New.l0.eq_2 _ _ _) ?_
        exact ev_pos (by omega) (ev_neg c2 (ev_now rfl))
    · refine ⟨h, ?_⟩
      refine Ev.step (spec_l01New.l0.eq_2 _ _ _) ?_
      exact ev_neg (by omega) (ev_now rfl)
  termination_by i => xs.length - i
theorem new_ev (xs : List Int) (hn : xs.length ≤ 4000000) : ∃ r, Ev (fun k => spec_l01New.f k xs) (xs, 0, r) := by
  unfold spec_l01New.f
  exact new_l xs hn 0 _ (by omega)
/-- A cursor's place: right, and no further than n. -/
def crs (n i : Int) : Prop := 0 ≤ i ∧ i ≤ n
theorem byte_eq (xs : List Int) (hn : xs.length ≤ 4000000) (i h : Int) (hi : crs 4000000 i) : ∃ b i' h', spec_l01Byte.f xs i h = some (b, i', h') ∧ 0 ≤ b ∧ b ≤ 255 ∧ crs 4000000 i' := by
  unfold spec_l01Byte.f
  obtain ⟨h0, h1⟩ := hi
  by_cases c : i < (xs.length : Int)
  · refine ⟨_, _, _, by rw [if_pos c, if_pos h0], (and255 _).1, (and255 _).2, ?_⟩
    rw [w64 (by omega) (by omega)]
    exact ⟨by omega, by omega⟩
  · exact ⟨_, _, _, by rw [if_neg c], (and255 _).1, (and255 _).2, h0, h1⟩
theorem below_eq (xs : List Int) (hn : xs.length ≤ 4000000) (i h : Int) (hi : crs 4000000 i) (n : Int) (h0 : 0 < n) (h1 : n ≤ 256) : ∃ b i' h', spec_l01Below.f xs i h n = some (b, i', h') ∧ 0 ≤ b ∧ b < n ∧ crs 4000000 i' := by
  unfold spec_l01Below.f
  obtain ⟨b, i', h', e, b0, b1, hi'⟩ := byte_eq xs hn i h hi
  refine ⟨Int.tmod b n, i', h', ?_, ?_, ?_, hi'⟩
  · rw [if_neg (by omega), if_pos h1, e, Option.bind_some, if_neg (by omega)]
  · rw [Int.tmod_eq_emod_of_nonneg b0]; exact Int.emod_nonneg _ (by omega)
  · rw [Int.tmod_eq_emod_of_nonneg b0]; exact Int.emod_lt_of_pos _ h0
theorem pick_eq (xs : List Int) (hn : xs.length ≤ 4000000) (i h : Int) (hi : crs 4000000 i) (l : List Int) (h0 : 0 < l.length) (h1 : l.length ≤ 256) : ∃ x i' h', spec_l01PickInt.f xs i h l = some (x, i', h') ∧ x ∈ l ∧ crs 4000000 i' := by
  unfold spec_l01PickInt.f
  obtain ⟨b, i', h', e, b0, b1, hi'⟩ := below_eq xs hn i h hi (l.length : Int) (by omega) (by omega)
  obtain ⟨m, rfl⟩ := Int.eq_ofNat_of_zero_le b0
  refine ⟨l[m]'(by omega), i', h', ?_, List.getElem_mem _, hi'⟩
  rw [e, Option.bind_some, if_pos b0, if_pos b1, rd_at l m (by omega)]


/-! ### drawtext -/
theorem text_l (xs : List Int) (hn : xs.length ≤ 4000000) (n : Nat) (hb : n ≤ 5000) : ∀ (j : Nat) (o : List Int) (i h : Int), j ≤ n → o.length = j → crs 4000000 i → ∃ t i' h', Ev (fun k => spec_l01Text.l0 k n o j xs i h) (t, i', h') ∧ t.size = n ∧ crs 4000000 i'
  | j, o, i, h, hj, ho, hi => by
    by_cases c : j < n
    · obtain ⟨b, i1, h1, e, b0, b1, hi1⟩ := byte_eq xs hn i h hi
      obtain ⟨t, i2, h2, e2, t2, hi2⟩ := text_l xs hn n hb (j + 1) (o ++ [b % 256]) i1 h1 (by omega) (by simp [ho]) hi1
      refine ⟨t, i2, h2, ?_, t2, hi2⟩
      refine Ev.step (spec_l01Text.l0.eq_2 _ _ _ _ _ _) ?_
      refine ev_pos (by omega) (Ev.bind (ev_eq e) (ev_pos (by omega) ?_))
      rw [w64s j (by omega)]
      exact e2
    · refine ⟨strOfNums o, i, h, ?_, by rw [strOfNums_size]; omega, hi⟩
      refine Ev.step (spec_l01Text.l0.eq_2 _ _ _ _ _ _) ?_
      exact ev_neg (by omega) (ev_now rfl)
  termination_by j => n - j
theorem text_ev (xs : List Int) (hn : xs.length ≤ 4000000) (i h : Int) (hi : crs 4000000 i) (n : Int) (h0 : 0 ≤ n) (h1 : n ≤ 5000) : ∃ t i' h', Ev (fun k => spec_l01Text.f k xs i h n) (t, i', h') ∧ t.size = n.toNat ∧ crs 4000000 i' := by
  obtain ⟨m, rfl⟩ := Int.eq_ofNat_of_zero_le h0
  obtain ⟨t, i2, h2, e2, t2, hi2⟩ := text_l xs hn m (by omega) 0 [] i h (by omega) rfl hi
  refine ⟨t, i2, h2, ?_, by omega, hi2⟩
  unfold spec_l01Text.f
  refine ev_neg (by omega) ?_
  refine Ev.step (spec_l01Text.j0.eq_2 _ _ _ _) ?_
  exact e2

/-! ### pagesfor -/
def pgF (n : Int) : Int := if n ≤ 0 then 0 else (n - 1) / 32 + 1
theorem sPagesFor_eq (n : Int) (h : 0 ≤ n) (h1 : n ≤ 1048576) : spec_PagesFor.f n = some (pgF n) := by
  unfold spec_PagesFor.f pgF
  split
  · rfl
  · rw [w64 (x := n - 1) (by omega) (by omega), Int.tdiv_eq_ediv_of_nonneg (by omega), w64 (x := (n - 1) / 32) (by omega) (by omega), w64 (by omega) (by omega)]
theorem iPagesFor_eq (n : Int) (h : 0 ≤ n) (h1 : n ≤ 1048576) : impl_PagesFor.f n = some (pgF n) := by
  unfold impl_PagesFor.f pgF
  rw [if_neg (by omega), Int.tdiv_eq_ediv_of_nonneg h, Int.tmod_eq_emod_of_nonneg h, w64 (x := n / 32) (by omega) (by omega), w64 (x := n / 32 + 1) (by omega) (by omega)]
  split <;> split <;> congr 1 <;> omega

theorem pgF_le (n : Int) (h1 : n ≤ 1048576) : 0 ≤ pgF n ∧ pgF n ≤ 32768 := by
  unfold pgF
  split <;> omega

/-! ### t_Entry -/

def wiEntry (x : S47) : Nat := x.f1.size + (0)

def wiEntryS (xs : List S47) : Nat := xs.length + sumBy wiEntry xs




theorem rdiEntry (xs : List S47) (i : Nat) (h : i < xs.length) : rd_T47 xs (i : Int) = xs[i] := getD_at _ xs i h




/-! ### t_Rec -/

def wiRec (x : S42) : Nat := x.f2.size + (0)

def wiRecS (xs : List S42) : Nat := xs.length + sumBy wiRec xs




theorem rdiRec (xs : List S42) (i : Nat) (h : i < xs.length) : rd_T42 xs (i : Int) = xs[i] := getD_at _ xs i h




/-! ### t_Inode -/

/-! ### drawinode -/
theorem once_eq (xs : List Int) (hn : xs.length ≤ 4000000) (i h : Int) (hi : crs 4000000 i) (n : Int) (h0 : 0 < n) (h1 : n ≤ 256) : ∃ b i' h', spec_l01Once.f xs i h n = some (b, i', h') ∧ crs 4000000 i' := by
  unfold spec_l01Once.f
  obtain ⟨b, i', h', e, _, _, hi'⟩ := below_eq xs hn i h hi n h0 h1
  exact ⟨_, i', h', by rw [e]; rfl, hi'⟩
theorem drec_ev (xs : List Int) (hn : xs.length ≤ 4000000) (i h : Int) (hi : crs 4000000 i) : ∃ a b m i' h', Ev (fun k => spec_l12Rec.f k xs i h) (a, b, m, i', h') ∧ crs 4000000 i' := by
  unfold spec_l12Rec.f
  obtain ⟨a, i1, h1, e1, _, _, hi1⟩ := below_eq xs hn i h hi 12 (by omega) (by omega)
  obtain ⟨b, i2, h2, e2, _, _, hi2⟩ := below_eq xs hn i1 h1 hi1 200 (by omega) (by omega)
  obtain ⟨m, i3, h3, e3, _, hi3⟩ := text_ev xs hn i2 h2 hi2 4 (by omega) (by omega)
  exact ⟨_, _, m, i3, h3, Ev.bind (ev_eq e1) (Ev.bind (ev_eq e2) (Ev.bind e3 (ev_now rfl))), hi3⟩
theorem ino_l0 (xs : List Int) (hn : xs.length ≤ 4000000) (kd sz gn : Int) (key : ByteArray) (s0 : 0 ≤ sz) (s1 : sz ≤ 128) : ∀ (j : Nat) (base i h : Int) (rs : List S42), j ≤ 5 → rs.length ≤ j → crs 4000000 i →
    ∃ rs' i' h', Ev (fun k => spec_l12Inode.l0 k base j xs i h kd sz gn key rs) (kd, sz, gn, key, rs', [], i', h') ∧ rs'.length ≤ 10 ∧ crs 4000000 i'
  | j, base, i, h, rs, hj, hr, hi => by
    have hp := sPagesFor_eq sz s0 (by omega)
    have hle : pgF sz ≤ 4 := by unfold pgF; split <;> omega
    by_cases c : (j : Int) < pgF sz
    · obtain ⟨a, b, m, i1, h1, e1, hi1⟩ := drec_ev xs hn i h hi
      by_cases c0 : (j : Int) = 0
      · obtain ⟨rs', i2, h2, e2, hl, hi2⟩ := ino_l0 xs hn kd sz gn key s0 s1 (j + 1) a i1 h1 (rs ++ [(⟨wrap64 (1 + (Int.tmod (wrap64 ((wrap64 (3 * (j : Int))) + a)) 12)), b, m⟩ : S42)]) (by omega) (by simp; omega) hi1
        refine ⟨rs', i2, h2, ?_, hl, hi2⟩
        refine Ev.step (spec_l12Inode.l0.eq_2 _ _ _ _ _ _ _ _ _ _) ?_
        refine Ev.bind (ev_eq hp) (ev_pos c (Ev.bind e1 (ev_pos c0 (ev_pos (by omega) ?_))))
        rw [w64s j (by omega)]
        exact e2
      · obtain ⟨rs', i2, h2, e2, hl, hi2⟩ := ino_l0 xs hn kd sz gn key s0 s1 (j + 1) base i1 h1 (rs ++ [(⟨wrap64 (1 + (Int.tmod (wrap64 ((wrap64 (3 * (j : Int))) + base)) 12)), b, m⟩ : S42)]) (by omega) (by simp; omega) hi1
        refine ⟨rs', i2, h2, ?_, hl, hi2⟩
        refine Ev.step (spec_l12Inode.l0.eq_2 _ _ _ _ _ _ _ _ _ _) ?_
        refine Ev.bind (ev_eq hp) (ev_pos c (Ev.bind e1 (ev_neg c0 (ev_pos (by omega) ?_))))
        rw [w64s j (by omega)]
        exact e2
    · refine ⟨rs, i, h, ?_, by omega, hi⟩
      refine Ev.step (spec_l12Inode.l0.eq_2 _ _ _ _ _ _ _ _ _ _) ?_
      exact Ev.bind (ev_eq hp) (ev_neg c (ev_now rfl))
  termination_by j => 6 - j
theorem ino_l1 (xs : List Int) (hn : xs.length ≤ 4000000) (nm : List ByteArray) (hm : nm.length ≤ 6) (kd sz gn : Int) (key : ByteArray) : ∀ (j : Nat) (i h : Int) (es : List S47), j ≤ 6 → es.length ≤ j → crs 4000000 i →
    ∃ es' i' h', Ev (fun k => spec_l12Inode.l1 k nm j xs i h kd sz gn key es) (kd, sz, gn, key, [], es', i', h') ∧ es'.length ≤ 10 ∧ crs 4000000 i'
  | j, i, h, es, hj, hr, hi => by
    by_cases c : (j : Int) < (nm.length : Int)
    · obtain ⟨b, i1, h1, e1, hi1⟩ := once_eq xs hn i h hi 3 (by omega) (by omega)
      by_cases c0 : b = true
      · obtain ⟨a, i2, h2, e2, _, _, hi2⟩ := below_eq xs hn i1 h1 hi1 5 (by omega) (by omega)
        obtain ⟨es', i3, h3, e3, hl, hi3⟩ := ino_l1 xs hn nm hm kd sz gn key (j + 1) i2 h2 (es ++ [(⟨wrap64 (1 + a), rdOf ByteArray.empty nm (j : Int)⟩ : S47)]) (by omega) (by simp; omega) hi2
        refine ⟨es', i3, h3, ?_, hl, hi3⟩
        refine Ev.step (spec_l12Inode.l1.eq_2 _ _ _ _ _ _ _ _ _ _) ?_
        refine ev_pos c (Ev.bind (ev_eq e1) (ev_pos c0 (Ev.bind (ev_eq e2) (ev_pos (by omega) (ev_pos (by omega) ?_)))))
        rw [w64s j (by omega)]
        exact e3
      · obtain ⟨es', i3, h3, e3, hl, hi3⟩ := ino_l1 xs hn nm hm kd sz gn key (j + 1) i1 h1 es (by omega) (by omega) hi1
        refine ⟨es', i3, h3, ?_, hl, hi3⟩
        refine Ev.step (spec_l12Inode.l1.eq_2 _ _ _ _ _ _ _ _ _ _) ?_
        refine ev_pos c (Ev.bind (ev_eq e1) (ev_neg c0 ?_))
        rw [w64s j (by omega)]
        exact e3
    · refine ⟨es, i, h, ?_, by omega, hi⟩
      refine Ev.step (spec_l12Inode.l1.eq_2 _ _ _ _ _ _ _ _ _ _) ?_
      exact ev_neg c (ev_now rfl)
  termination_by j => 7 - j
theorem inode_ev (xs : List Int) (hn : xs.length ≤ 4000000) (i h : Int) (hi : crs 4000000 i) : ∃ (kd sz gn : Int) (key : ByteArray) (rs : List S42) (es : List S47) (i' h' : Int), Ev (fun k => spec_l12Inode.f k xs i h) (kd, sz, gn, key, rs, es, i', h') ∧ rs.length ≤ 10 ∧ es.length ≤ 10 ∧ crs 4000000 i' := by
  unfold spec_l12Inode.f
  obtain ⟨kd, i1, h1, e1, _, _, hi1⟩ := below_eq xs hn i h hi 3 (by omega) (by omega)
  obtain ⟨gn, i2, h2, e2, _, _, hi2⟩ := below_eq xs hn i1 h1 hi1 9 (by omega) (by omega)
  by_cases c1 : kd = 1
  · obtain ⟨sz, i3, h3, e3, hm, hi3⟩ := pick_eq xs hn i2 h2 hi2 [0, 1, 31, 32, 33, 64, 100, 128] (by decide) (by decide)
    have hb : 0 ≤ sz ∧ sz ≤ 128 := by simp at hm; omega
    obtain ⟨key, i4, h4, e4, _, hi4⟩ := text_ev xs hn i3 h3 hi3 8 (by omega) (by omega)
    obtain ⟨rs, i5, h5, e5, hl, hi5⟩ := ino_l0 xs hn kd sz gn key hb.1 hb.2 0 0 i4 h4 [] (by omega) (by simp) hi4
    exact ⟨kd, sz, gn, key, rs, [], i5, h5, Ev.bind (ev_eq e1) (Ev.bind (ev_eq e2) (ev_pos c1 (Ev.bind (ev_eq e3) (Ev.bind e4 e5)))), hl, by simp, hi5⟩
  by_cases c2 : kd = 2
  · obtain ⟨es, i3, h3, e3, hl, hi3⟩ := ino_l1 xs hn [(⟨#[97]⟩ : ByteArray), (⟨#[97, 98]⟩ : ByteArray), (⟨#[98]⟩ : ByteArray), (⟨#[99]⟩ : ByteArray), (⟨#[100]⟩ : ByteArray), (⟨#[120, 49]⟩ : ByteArray)] (by decide) kd 0 gn (⟨#[]⟩ : ByteArray) 0 i2 h2 [] (by omega) (by simp) hi2
    exact ⟨kd, 0, gn, ⟨#[]⟩, [], es, i3, h3, Ev.bind (ev_eq e1) (Ev.bind (ev_eq e2) (ev_neg c1 (ev_pos c2 e3))), by simp, hl, hi3⟩
  · exact ⟨kd, 0, gn, ⟨#[]⟩, [], [], i2, h2, Ev.bind (ev_eq e1) (Ev.bind (ev_eq e2) (ev_neg c1 (ev_neg c2 (ev_now rfl)))), by simp, by simp, hi2⟩
/-! ### lin -/
theorem l01In_eq (a b c : Int) : spec_l01In.f a b c = some (decide (b ≤ a ∧ a ≤ c)) := by
  unfold spec_l01In.f
  by_cases h : a ≥ b
  · rw [if_pos h]; congr 1; simp; omega
  · rw [if_neg h]; congr 1; simp; omega

/-! ### within -/
theorem within_eq (a b c : Int) : impl_within.f a b c = some (decide (b ≤ a ∧ a ≤ c)) := by
  unfold impl_within.f
  by_cases h : a ≥ b
  · rw [if_pos h]; congr 1; simp; omega
  · rw [if_neg h]; congr 1; simp; omega

/-! ### numtext -/
theorem u64w (x : Int) (h0 : 0 ≤ x) (h1 : x < 18446744073709551616) : IntKind.u64.wrap x = x := by
  have b : IntKind.u64.bits = 64 := rfl
  have s : IntKind.u64.signed = false := rfl
  simp only [IntKind.wrap, b, s, Bool.false_and, Bool.false_eq_true, if_false]
  omega
def dg (n : Int) (i : Nat) : Int := n / 2 ^ (8 * i) % 256
def dn (n : Int) : Nat → List Int
  | 0 => []
  | i + 1 => dg n i :: dn n i
theorem dn_len (n : Int) (w : Nat) : (dn n w).length = w := by
  induction w with
  | zero => rfl
  | succ w ih => simp [dn, ih]
theorem dn_get (n : Int) : ∀ (w p : Nat) (h : p < (dn n w).length), (dn n w)[p] = dg n (w - 1 - p)
  | 0, p, h => by simp [dn] at h
  | w + 1, 0, h => by simp [dn]
  | w + 1, p + 1, h => by
    simp only [dn, List.getElem_cons_succ]
    rw [dn_get n w p (by simpa [dn] using h)]
    congr 1; omega
theorem shr_eq (n : Int) (i : Nat) (h : i ≤ 7) (y : Int) (hy : y = 8 * (i : Int)) : shr .i64 n y = n / 2 ^ (8 * i) := by
  subst hy
  have e : (8 * (i : Int)).toNat = 8 * i := by omega
  have b : IntKind.i64.bits = 64 := rfl
  unfold shr
  rw [e, b, Nat.min_eq_left (by omega)]
def ntOk (n : Int) (w : Nat) : Prop := 0 ≤ n ∧ 1 ≤ w ∧ w ≤ 7 ∧ n < 2 ^ (8 * w)
open Classical in
noncomputable def nt (n : Int) (w : Nat) : ByteArray := if ntOk n w then strOfNums (dn n w) else ⟨#[]⟩
theorem sNum_l (n : Int) (w : Nat) (hw : w ≤ 7) : ∀ (i : Nat) (o : List Int), i ≤ w → o.length ≤ 7 → o.length + i ≤ 7 → Ev (fun k => spec_NumText.l0 k n o ((i : Int) - 1)) (strOfNums (o ++ dn n i))
  | 0, o, hi, ho, hs => by
    refine Ev.step (spec_NumText.l0.eq_2 _ _ _) ?_
    refine ev_neg (by omega) (ev_now ?_)
    simp [dn]
  | i + 1, o, hi, ho, hs => by
    refine Ev.step (spec_NumText.l0.eq_2 _ _ _) ?_
    have e : ((i + 1 : Nat) : Int) - 1 = (i : Int) := by omega
    rw [e, u64w (i : Int) (by omega) (by omega), u64w (8 * (i : Int)) (by omega) (by omega), shr_eq n i (by omega) _ rfl, w64 (x := (i : Int) - 1) (by omega) (by omega)]
    refine ev_pos (by omega) (ev_pos (by omega) (ev_pos (by omega) (ev_to (sNum_l n w hw i _ (by omega) (by simp; omega) (by simp; omega)) ?_)))
    simp [dn, dg]
theorem pow_le (w : Nat) (h : w ≤ 7) : (1 : Int) ≤ 2 ^ (8 * w) ∧ (2 : Int) ^ (8 * w) ≤ 72057594037927936 := by
  have : w = 0 ∨ w = 1 ∨ w = 2 ∨ w = 3 ∨ w = 4 ∨ w = 5 ∨ w = 6 ∨ w = 7 := by omega
  rcases this with h | h | h | h | h | h | h | h <;> subst h <;> decide
theorem div_pos (n : Int) (w : Nat) (hw : w ≤ 7) (h0 : 0 ≤ n) : n / 2 ^ (8 * w) > 0 ↔ ¬ n < 2 ^ (8 * w) := by
  have hp := pow_le w hw
  constructor
  · intro h hl
    have := Int.ediv_eq_zero_of_lt h0 hl
    omega
  · intro h
    exact (Int.le_ediv_iff_mul_le (by omega)).2 (by omega)
theorem sNum_ev (n : Int) (w : Nat) (hw : w ≤ 7) (h1 : 1 ≤ w) : Ev (fun k => spec_NumText.f k n (w : Int)) (nt n w) := by
  unfold spec_NumText.f
  have bad : ¬ ntOk n w → Ev (fun k => spec_NumText.j0 k n w true) (nt n w) := by
    intro h
    unfold nt
    rw [if_neg h]
    refine Ev.step (spec_NumText.j0.eq_2 _ _ _) ?_
    exact ev_pos rfl (ev_now rfl)
  by_cases h0 : n < 0
  · exact ev_pos h0 (bad (fun h => by have := h.1; omega))
  · refine ev_neg h0 (Ev.bind (ev_eq (l01In_eq _ _ _)) (ev_pos (by simp; omega) ?_))
    rw [u64w (w : Int) (by omega) (by omega), u64w (8 * (w : Int)) (by omega) (by omega), shr_eq n w hw _ rfl]
    refine ev_pos (by omega) ?_
    by_cases hl : n < 2 ^ (8 * w)
    · have hz : ¬ n / 2 ^ (8 * w) > 0 := fun h => (div_pos n w hw (by omega)).1 h hl
      rw [decide_eq_false hz]
      refine Ev.step (spec_NumText.j0.eq_2 _ _ _) ?_
      refine ev_neg (by simp) ?_
      rw [w64 (by omega) (by omega)]
      refine ev_to (sNum_l n w hw w [] (Nat.le_refl _) (by simp) (by simp; omega)) ?_
      unfold nt
      rw [if_pos ⟨by omega, h1, hw, hl⟩]
      simp
    · have hz : n / 2 ^ (8 * w) > 0 := (div_pos n w hw (by omega)).2 hl
      rw [decide_eq_true hz]
      exact bad (fun h => hl h.2.2.2)
theorem iNum_l (n : Int) (w : Nat) (hw : w ≤ 7) : ∀ (p : Nat) (ys : List Int), p ≤ w → ys.length = w → ys.take p = (dn n w).take p → Ev (fun k => impl_NumText.l0 k n w ys w p) (strOfNums (dn n w))
  | p, ys, hp, hl, ht => by
    have hd := dn_len n w
    refine Ev.step (impl_NumText.l0.eq_2 _ _ _ _ _) ?_
    by_cases h : p < w
    · rw [w64 (x := (w : Int) - 1) (by omega) (by omega), w64 (x := (w : Int) - 1 - p) (by omega) (by omega), w64 (x := 8 * ((w : Int) - 1 - p)) (by omega) (by omega), w64s p (by omega), shr_eq n (w - 1 - p) (by omega) _ (by omega), Int.toNat_natCast]
      refine ev_pos (by omega) (ev_pos (by omega) (ev_pos (by omega) (ev_pos (by omega) ?_)))
      exact iNum_l n w hw (p + 1) _ (by omega) (by simp [hl]) (take_set (by omega) ht (by omega) (by rw [dn_get]; rfl))
    · have : p = w := by omega
      subst this
      refine ev_neg (by omega) (ev_now ?_)
      rw [show ys = dn n p from take_all (xs := dn n p) (by omega) (by rw [hd]; exact ht)]
  termination_by p => w - p
theorem shl_eq (w : Nat) (hw : w ≤ 7) : shl .i64 1 (8 * (w : Int)) = 2 ^ (8 * w) := by
  have : w = 0 ∨ w = 1 ∨ w = 2 ∨ w = 3 ∨ w = 4 ∨ w = 5 ∨ w = 6 ∨ w = 7 := by omega
  rcases this with h | h | h | h | h | h | h | h <;> subst h <;> decide
theorem iNum_ev (n : Int) (w : Nat) (hw : w ≤ 7) (h1 : 1 ≤ w) : Ev (fun k => impl_NumText.f k n (w : Int)) (nt n w) := by
  unfold impl_NumText.f
  have bad : ¬ ntOk n w → Ev (fun k => impl_NumText.j0 k n w true) (nt n w) := by
    intro h
    unfold nt
    rw [if_neg h]
    refine Ev.step (impl_NumText.j0.eq_2 _ _ _) ?_
    exact ev_pos rfl (ev_now rfl)
  by_cases h0 : n < 0
  · exact ev_pos h0 (bad (fun h => by have := h.1; omega))
  · refine ev_neg h0 (Ev.bind (ev_eq (within_eq _ _ _)) (ev_pos (by simp; omega) ?_))
    rw [w64 (x := 8 * (w : Int)) (by omega) (by omega), shl_eq w hw]
    refine ev_pos (by omega) ?_
    by_cases hl : n < 2 ^ (8 * w)
    · rw [decide_eq_false (by omega)]
      refine Ev.step (impl_NumText.j0.eq_2 _ _ _) ?_
      refine ev_neg (by simp) (ev_pos (by omega) (ev_pos (by omega) (Ev.bind (Ev.now _) ?_)))
      rw [Int.toNat_natCast]
      have := iNum_l n w hw 0 (List.replicate w 0) (by omega) (by simp) (by simp)
      rw [List.length_replicate]
      refine ev_to this ?_
      unfold nt
      rw [if_pos ⟨by omega, h1, hw, hl⟩]
    · rw [decide_eq_true (by omega)]
      exact bad (fun h => hl h.2.2.2)
theorem nt_size (n : Int) (w : Nat) : (nt n w).size ≤ w := by
  unfold nt
  split
  · have := dn_len n w
    unfold strOfNums
    rw [b_size, List.length_map]; omega
  · show 0 ≤ w; omega

/-! ### zerotext -/
theorem long_l (n : Nat) (hn : n ≤ 1048576) : ∀ (i : Nat) (ys : List Int), i ≤ n → ys.length = n → (∀ y ∈ ys, y = 0) → Ev (fun k => spec_l01Long.l0 k n 0 ys i) (strOfNums ys)
  | i, ys, hi, hl, hz => by
    refine Ev.step (spec_l01Long.l0.eq_2 _ _ _ _) ?_
    by_cases h : i < n
    · refine ev_pos (by omega) (ev_pos (by omega) (ev_pos (by omega) ?_))
      rw [w64s i (by omega), Int.toNat_natCast]
      have e : ys.set i 0 = ys := by
        apply List.ext_getElem (by simp)
        intro j h1 h2
        rw [List.getElem_set]
        split
        · exact (hz _ (List.getElem_mem h2)).symm
        · rfl
      rw [e]
      exact long_l n hn (i + 1) ys (by omega) hl hz
    · exact ev_neg (by omega) (ev_now rfl)
  termination_by i => n - i
theorem long_ev (n : Nat) (hn : n ≤ 1048576) : Ev (fun k => spec_l01Long.f k n 0) (zb n) := by
  unfold spec_l01Long.f
  refine ev_pos (by omega) (ev_pos (by omega) (ev_to (long_l n hn 0 _ (by omega) (by simp) (by simp)) ?_))
  simp [strOfNums, zb]
theorem zeroText_ev (n : Nat) (hn : n ≤ 20000) : Ev (fun k => spec_ZeroText.f k (n : Int)) (zb n) := by
  unfold spec_ZeroText.f
  exact Ev.bind (ev_eq (l01In_eq _ _ _)) (ev_pos (by simp; omega) (Ev.bind (long_ev n (by omega)) (ev_now rfl)))

/-! ### padded -/
theorem repeat_eq (n : Nat) (h : n ≤ 1048576) : strings_Repeat.f (⟨#[0]⟩ : ByteArray) (n : Int) = some (zb n) := by
  unfold strings_Repeat.f
  have h1 : (⟨#[0]⟩ : ByteArray).size = 1 := rfl
  rw [if_pos ⟨by omega, by omega, by rw [Int.toNat_natCast, h1]; omega⟩]
  congr 1
  unfold zb
  rw [← repeat_zero, Int.toNat_natCast]
theorem padded_eq (s : ByteArray) (n : Int) (h0 : 0 ≤ n) (h1 : n ≤ 1048576) (hs : s.size ≤ 4000000) : impl_padded.f s n = some (s ++ zb (n - s.size).toNat) := by
  unfold impl_padded.f
  rw [w64 (by omega) (by omega)]
  have hm : mx 0 (n - (s.size : Int)) = (((n - s.size).toNat : Nat) : Int) := by
    show (if (0 : Int) < n - (s.size : Int) then n - (s.size : Int) else 0) = _
    split <;> omega
  rw [hm, repeat_eq _ (by omega), Option.bind_some, if_pos (by rw [zb_size]; omega)]

/-! ### wordtext -/
def wdT (s : ByteArray) : ByteArray := if s.size > 8 then ⟨#[]⟩ else s ++ zb (8 - s.size)
theorem sWord_ev (s : ByteArray) (hs : s.size ≤ 4000000) : Ev (fun k => spec_WordText.f k s) (wdT s) := by
  unfold spec_WordText.f wdT
  by_cases h : s.size > 8
  · rw [if_pos h]; exact ev_pos (by omega) (ev_now rfl)
  · rw [if_neg h]
    refine ev_neg (by omega) ?_
    rw [show (8 : Int) - (s.size : Int) = ((8 - s.size : Nat) : Int) by omega]
    exact Ev.bind (zeroText_ev _ (by omega)) (ev_pos (by rw [zb_size]; omega) (ev_now rfl))
theorem iWord_eq (s : ByteArray) (hs : s.size ≤ 4000000) : impl_WordText.f s = some (wdT s) := by
  unfold impl_WordText.f wdT
  by_cases h : s.size > 8
  · rw [if_pos h, if_pos (by omega)]
  · rw [if_neg h, if_neg (by omega), padded_eq s 8 (by omega) (by omega) hs, Option.bind_some, show ((8 : Int) - (s.size : Int)).toNat = 8 - s.size by omega]

/-! ### btn -/
theorem btn (a : ByteArray) (i : Nat) (h : i < a.data.toList.length) : bt a (i : Int) = ((a.data.toList[i]).toNat : Int) := by
  have h2 : i < a.size := by rw [b_len] at h; exact h
  rw [← bt_at a (i : Int) (by simpa using h2)]
  simp only [Int.toNat_natCast]; rfl

/-! ### entryword -/
def nmB (b : Int) : Bool := decide (97 ≤ b ∧ b ≤ 122) || decide (48 ≤ b ∧ b ≤ 57)
def nmV (a : ByteArray) : Bool := a.data.toList.all (fun x => nmB (x.toNat : Int)) && decide (1 ≤ (a.size : Int) ∧ (a.size : Int) ≤ 7)
theorem nm_step (a : ByteArray) (i : Nat) (h : i < a.data.toList.length) : (a.data.toList.drop i).all (fun x => nmB (x.toNat : Int)) = (nmB (bt a (i : Int)) && (a.data.toList.drop (i + 1)).all (fun x => nmB (x.toNat : Int))) := by
  rw [btn a i h]
  rw [show a.data.toList.drop i = a.data.toList[i] :: a.data.toList.drop (i + 1) from List.drop_eq_getElem_cons h, List.all_cons]
theorem bt_byte (a : ByteArray) (i : Nat) (h : i < a.data.toList.length) : 0 ≤ bt a (i : Int) ∧ bt a (i : Int) ≤ 255 := by
  rw [btn a i h]
  have := (a.data.toList[i]).toNat_lt
  omega
theorem sName_l (a : ByteArray) (ha : a.size ≤ 4000000) : ∀ i : Nat, i ≤ a.size → Ev (fun k => spec_NameOk.l0 k a (i : Int)) ((a.data.toList.drop i).all (fun x => nmB (x.toNat : Int)) && decide (1 ≤ (a.size : Int) ∧ (a.size : Int) ≤ 7))
  | i, hi => by
    have hl := b_len a
    refine Ev.step (spec_NameOk.l0.eq_2 _ _) ?_
    by_cases h : i < a.size
    · have hb := bt_byte a i (by omega)
      rw [nm_step a i (by omega)]
      refine ev_pos (by omega) (ev_pos (by omega) ?_)
      rw [w64 (x := bt a (i : Int)) (by omega) (by omega), l01In_eq, w64s i (by omega)]
      refine Ev.bind (Ev.now _) ?_
      have ih := sName_l a ha (i + 1) (by omega)
      unfold nmB at ih ⊢
      by_cases h1 : 97 ≤ bt a (i : Int) ∧ bt a (i : Int) ≤ 122
      · exact ev_pos (decide_eq_true h1) (ev_to ih (by simp [h1]))
      · rw [l01In_eq]
        refine ev_neg (by simpa using h1) (Ev.bind (Ev.now _) ?_)
        by_cases h2 : 48 ≤ bt a (i : Int) ∧ bt a (i : Int) ≤ 57
        · exact ev_pos (decide_eq_true h2) (ev_to ih (by simp [h2]))
        · exact ev_neg (by simpa using h2) (ev_now (by rw [decide_eq_false h1, decide_eq_false h2]; simp))
    · rw [l01In_eq (a.size : Int) 1 7, List.drop_of_length_le (by omega)]
      exact ev_neg (by omega) (Ev.bind (Ev.now _) (ev_now (by simp)))
  termination_by i => a.size - i
theorem sName_ev (a : ByteArray) (ha : a.size ≤ 4000000) : Ev (fun k => spec_NameOk.f k a) (nmV a) := by
  unfold spec_NameOk.f nmV
  exact ev_to (sName_l a ha 0 (by omega)) (by rw [List.drop_zero])
theorem iName_l (a : ByteArray) (ha : a.size ≤ 4000000) : ∀ i : Nat, i ≤ a.size → Ev (fun k => impl_NameOk.l0 k a (a.size : Int) (i : Int)) ((a.data.toList.drop i).all (fun x => nmB (x.toNat : Int)) && decide (1 ≤ (a.size : Int) ∧ (a.size : Int) ≤ 7))
  | i, hi => by
    have hl := b_len a
    refine Ev.step (impl_NameOk.l0.eq_2 _ _ _) ?_
    by_cases h : i < a.size
    · have hb := bt_byte a i (by omega)
      rw [nm_step a i (by omega)]
      refine ev_pos (by omega) (ev_pos (by omega) (ev_pos (by omega) ?_))
      rw [w64s i (by omega)]
      have ih := iName_l a ha (i + 1) (by omega)
      unfold nmB at ih ⊢
      have low : Ev (fun k => if bt a (i : Int) ≥ 48 then (if bt a (i : Int) ≤ 57 then impl_NameOk.l0 k a (a.size : Int) ((i + 1 : Nat) : Int) else some false) else some false) (decide (48 ≤ bt a (i : Int) ∧ bt a (i : Int) ≤ 57) && ((a.data.toList.drop (i + 1)).all (fun x => decide (97 ≤ (x.toNat : Int) ∧ (x.toNat : Int) ≤ 122) || decide (48 ≤ (x.toNat : Int) ∧ (x.toNat : Int) ≤ 57)) && decide (1 ≤ (a.size : Int) ∧ (a.size : Int) ≤ 7))) := by
        by_cases h1 : bt a (i : Int) ≥ 48
        · by_cases h2 : bt a (i : Int) ≤ 57
          · exact ev_pos h1 (ev_pos h2 (ev_to ih (by rw [decide_eq_true (show 48 ≤ bt a (i : Int) ∧ bt a (i : Int) ≤ 57 from ⟨h1, h2⟩), Bool.true_and])))
          · exact ev_pos h1 (ev_neg h2 (ev_now (by rw [decide_eq_false (fun hc => h2 hc.2), Bool.false_and])))
        · exact ev_neg h1 (ev_now (by rw [decide_eq_false (fun hc => h1 hc.1), Bool.false_and]))
      by_cases h1 : bt a (i : Int) ≥ 97
      · by_cases h2 : bt a (i : Int) ≤ 122
        · exact ev_pos h1 (ev_pos h2 (ev_to ih (by rw [decide_eq_true (show 97 ≤ bt a (i : Int) ∧ bt a (i : Int) ≤ 122 from ⟨h1, h2⟩), Bool.true_or, Bool.true_and])))
        · exact ev_pos h1 (ev_neg h2 (ev_to low (by rw [decide_eq_false (show ¬ (97 ≤ bt a (i : Int) ∧ bt a (i : Int) ≤ 122) from fun hc => h2 hc.2), Bool.false_or, Bool.and_assoc])))
      · exact ev_neg h1 (ev_to low (by rw [decide_eq_false (show ¬ (97 ≤ bt a (i : Int) ∧ bt a (i : Int) ≤ 122) from fun hc => h1 hc.1), Bool.false_or, Bool.and_assoc]))
    · rw [within_eq, List.drop_of_length_le (by omega)]
      exact ev_neg (by omega) (Ev.bind (Ev.now _) (ev_now (by simp)))
  termination_by i => a.size - i
theorem iName_ev (a : ByteArray) (ha : a.size ≤ 4000000) : Ev (fun k => impl_NameOk.f k a) (nmV a) := by
  unfold impl_NameOk.f nmV
  exact ev_to (iName_l a ha 0 (by omega)) (by rw [List.drop_zero])
noncomputable def enV (a : Int) (t : ByteArray) : ByteArray := if (1 ≤ a ∧ a ≤ 5) ∧ nmV t = true then wdT (nt a 1 ++ t) else ⟨#[]⟩
theorem sEnt_j (a : Int) (t : ByteArray) (ht : t.size ≤ 2000000) (z : Bool) : Ev (fun k => spec_EntryWord.j0 k z a t) (if z = true then ⟨#[]⟩ else wdT (nt a 1 ++ t)) := by
  refine Ev.step (spec_EntryWord.j0.eq_2 _ _ _) ?_
  have z1 := nt_size a 1
  cases z with
  | true => exact ev_pos rfl (ev_now rfl)
  | false => exact ev_neg (by simp) (Ev.bind (sNum_ev a 1 (by omega) (by omega)) (ev_pos (by omega) (Ev.bind (sWord_ev _ (by rw [ByteArray.size_append]; omega)) (ev_now rfl))))
theorem sEnt_ev (a : Int) (t : ByteArray) (ht : t.size ≤ 2000000) : Ev (fun k => spec_EntryWord.f k a t) (enV a t) := by
  unfold spec_EntryWord.f enV
  rw [l01In_eq]
  refine Ev.bind (Ev.now _) ?_
  by_cases h1 : 1 ≤ a ∧ a ≤ 5
  · refine ev_pos (decide_eq_true h1) (Ev.bind (sName_ev t (by omega)) (ev_to (sEnt_j a t ht _) ?_))
    by_cases h2 : nmV t = true
    · rw [if_neg (by simp [h2]), if_pos ⟨h1, h2⟩]
    · rw [if_pos (by simp at h2; simp [h2]), if_neg (fun h => h2 h.2)]
  · exact ev_neg (by simpa using h1) (ev_to (sEnt_j a t ht true) (by rw [if_pos rfl, if_neg (fun h => h1 h.1)]))
theorem iEnt_j (a : Int) (t : ByteArray) (ht : t.size ≤ 2000000) (z : Bool) : Ev (fun k => impl_EntryWord.j0 k z a t) (if z = true then ⟨#[]⟩ else wdT (nt a 1 ++ t)) := by
  refine Ev.step (impl_EntryWord.j0.eq_2 _ _ _) ?_
  have z1 := nt_size a 1
  cases z with
  | true => exact ev_pos rfl (ev_now rfl)
  | false => exact ev_neg (by simp) (Ev.bind (iNum_ev a 1 (by omega) (by omega)) (ev_pos (by omega) (Ev.bind (ev_eq (iWord_eq _ (by rw [ByteArray.size_append]; omega))) (ev_now rfl))))
theorem iEnt_ev (a : Int) (t : ByteArray) (ht : t.size ≤ 2000000) : Ev (fun k => impl_EntryWord.f k a t) (enV a t) := by
  unfold impl_EntryWord.f enV
  rw [within_eq]
  refine Ev.bind (Ev.now _) ?_
  by_cases h1 : 1 ≤ a ∧ a ≤ 5
  · refine ev_pos (decide_eq_true h1) (Ev.bind (iName_ev t (by omega)) (ev_to (iEnt_j a t ht _) ?_))
    by_cases h2 : nmV t = true
    · rw [if_neg (by simp [h2]), if_pos ⟨h1, h2⟩]
    · rw [if_pos (by simp at h2; simp [h2]), if_neg (fun h => h2 h.2)]
  · exact ev_neg (by simpa using h1) (ev_to (iEnt_j a t ht true) (by rw [if_pos rfl, if_neg (fun h => h1 h.1)]))

/-! ### numat -/
def naG (s : ByteArray) : Nat → Nat → Int → Int
  | 0, _, n => n
  | f + 1, i, n => naG s f (i + 1) (256 * n + bt s (i : Int))
def naB : Nat → Int
  | 0 => 16777215
  | 1 => 65535
  | 2 => 255
  | _ => 0
theorem naB_step (f : Nat) (n b : Int) (h : n ≤ naB (f + 1)) (hf : f + 1 ≤ 3) (hb : b ≤ 255) : 256 * n + b ≤ naB f ∧ n ≤ 65535 := by
  have : f = 0 ∨ f = 1 ∨ f = 2 := by omega
  rcases this with rfl | rfl | rfl <;> simp only [naB] at h ⊢ <;> omega
theorem naB_nn (w : Nat) : 0 ≤ naB w := by
  unfold naB
  split <;> omega
theorem or_add (x y : Int) (h0 : 0 ≤ x) (h1 : x ≤ 65535) (y0 : 0 ≤ y) (y1 : y ≤ 255) : Go.bits .or .i64 (x * 256) y = 256 * x + y := by
  have p33 : (2 : Int) ^ 33 = 8589934592 := by decide
  have p8 : (2 : Int) ^ 8 = 256 := by decide
  have hw : ∀ n : Int, 0 ≤ n → n < 2 ^ 33 → IntKind.i64.wrap n = n := by
    intro n a b
    rw [i64_w]
    exact w64 (by omega) (by omega)
  have hj := Go.bits_join .i64 33 (by decide) hw 8 (x * 256) y (by omega) (by omega) (by omega) y0 (by omega) (by omega)
  rw [hj]
  omega
theorem sNA_l (s : ByteArray) (hs : s.size ≤ 4000000) (a w : Nat) : ∀ (f i : Nat) (n : Int), f ≤ 3 → 0 ≤ n → n ≤ naB f → i + f = a + w → a + w ≤ s.size → Ev (fun k => spec_NumAt.l0 k s (a : Int) (w : Int) n (i : Int)) (naG s f i n, true)
  | 0, i, n, hf, h0, h1, hi, hl => by
    refine Ev.step (spec_NumAt.l0.eq_2 _ _ _ _ _) ?_
    rw [w64 (x := (a : Int) + (w : Int)) (by omega) (by omega)]
    exact ev_neg (by omega) (ev_now rfl)
  | f + 1, i, n, hf, h0, h1, hi, hl => by
    refine Ev.step (spec_NumAt.l0.eq_2 _ _ _ _ _) ?_
    have hb := bt_byte s i (by rw [b_len]; omega)
    have hq := naB_step f n (bt s (i : Int)) h1 hf hb.2
    rw [w64 (x := (a : Int) + (w : Int)) (by omega) (by omega), w64 (x := 256 * n) (by omega) (by omega), w64 (x := bt s (i : Int)) (by omega) (by omega), w64 (x := 256 * n + bt s (i : Int)) (by omega) (by omega), w64s i (by omega)]
    exact ev_pos (by omega) (ev_pos (by omega) (ev_pos (by omega) (sNA_l s hs a w f (i + 1) _ (by omega) (by omega) hq.1 (by omega) hl)))
theorem sNA_ev (s : ByteArray) (hs : s.size ≤ 4000000) (a w : Nat) (h1 : 1 ≤ w) (h3 : w ≤ 3) (hl : a + w ≤ s.size) : Ev (fun k => spec_NumAt.f k s (a : Int) (w : Int)) (naG s w a 0, true) := by
  unfold spec_NumAt.f
  rw [l01In_eq]
  refine Ev.bind (Ev.now _) (ev_pos (decide_eq_true (by omega)) ?_)
  rw [l01In_eq, w64 (x := (s.size : Int) - (w : Int)) (by omega) (by omega)]
  refine Ev.bind (Ev.now _) ?_
  rw [decide_eq_true (show (0 : Int) ≤ (a : Int) ∧ (a : Int) ≤ (s.size : Int) - (w : Int) by omega)]
  refine Ev.step (spec_NumAt.j0.eq_2 _ _ _ _) ?_
  exact ev_neg (by simp) (sNA_l s hs a w w a 0 (by omega) (by omega) (naB_nn w) rfl hl)

theorem iNA_l (s : ByteArray) (hs : s.size ≤ 4000000) (a w : Nat) : ∀ (f j : Nat) (n : Int), f ≤ 3 → 0 ≤ n → n ≤ naB f → j + f = w → a + w ≤ s.size → Ev (fun k => impl_NumAt.l0 k s (a : Int) n (w : Int) (j : Int)) (naG s f (a + j) n, true)
  | 0, j, n, hf, h0, h1, hi, hl => by
    refine Ev.step (impl_NumAt.l0.eq_2 _ _ _ _ _) ?_
    exact ev_neg (by omega) (ev_now rfl)
  | f + 1, j, n, hf, h0, h1, hi, hl => by
    refine Ev.step (impl_NumAt.l0.eq_2 _ _ _ _ _) ?_
    have hb := bt_byte s (a + j) (by rw [b_len]; omega)
    have hq := naB_step f n (bt s ((a + j : Nat) : Int)) h1 hf hb.2
    rw [w64 (x := (a : Int) + (j : Int)) (by omega) (by omega), show (a : Int) + (j : Int) = ((a + j : Nat) : Int) by omega, w64 (x := n * 256) (by omega) (by omega), w64 (x := bt s ((a + j : Nat) : Int)) (by omega) (by omega), or_add n _ h0 hq.2 hb.1 hb.2, w64s j (by omega)]
    exact ev_pos (by omega) (ev_pos (by omega) (ev_pos (by omega) (iNA_l s hs a w f (j + 1) _ (by omega) (by omega) hq.1 (by omega) hl)))
theorem iNA_ev (s : ByteArray) (hs : s.size ≤ 4000000) (a w : Nat) (h1 : 1 ≤ w) (h3 : w ≤ 3) (hl : a + w ≤ s.size) : Ev (fun k => impl_NumAt.f k s (a : Int) (w : Int)) (naG s w a 0, true) := by
  unfold impl_NumAt.f
  refine ev_neg (by omega) ?_
  rw [within_eq, w64 (x := (s.size : Int) - (w : Int)) (by omega) (by omega)]
  refine Ev.bind (Ev.now _) (ev_pos (decide_eq_true (by omega)) ?_)
  rw [decide_eq_false (show ¬ ((a : Int) > (s.size : Int) - (w : Int)) by omega)]
  refine Ev.step (impl_NumAt.j0.eq_2 _ _ _ _) ?_
  exact ev_neg (by simp) (iNA_l s hs a w w 0 0 (by omega) (by omega) (naB_nn w) (by omega) hl)


/-! ### recword -/
noncomputable def recV (a b : Int) (t : ByteArray) : ByteArray := if (1 ≤ a ∧ a ≤ 12) ∧ (1 ≤ b ∧ b ≤ 16777215) ∧ t.size = 4 then nt a 1 ++ nt b 3 ++ t else ⟨#[]⟩
theorem sRec_j (a b : Int) (t : ByteArray) (ht : t.size ≤ 4000000) (z : Bool) : Ev (fun k => spec_RecWord.j0 k z a b t) (if z = true then ⟨#[]⟩ else nt a 1 ++ nt b 3 ++ t) := by
  refine Ev.step (spec_RecWord.j0.eq_2 _ _ _ _) ?_
  have z1 := nt_size a 1
  have z3 := nt_size b 3
  cases z with
  | true => exact ev_pos rfl (ev_now rfl)
  | false => exact ev_neg (by simp) (Ev.bind (sNum_ev a 1 (by omega) (by omega)) (Ev.bind (sNum_ev b 3 (by omega) (by omega)) (ev_pos (by omega) (ev_pos (by rw [ByteArray.size_append]; omega) (ev_now rfl)))))
theorem sRec_ev (a b : Int) (t : ByteArray) (ht : t.size ≤ 4000000) : Ev (fun k => spec_RecWord.f k a b t) (recV a b t) := by
  unfold spec_RecWord.f recV
  rw [l01In_eq]
  refine Ev.bind (Ev.now _) ?_
  by_cases h1 : 1 ≤ a ∧ a ≤ 12
  · rw [l01In_eq]
    refine ev_pos (decide_eq_true h1) (Ev.bind (Ev.now _) ?_)
    by_cases h2 : 1 ≤ b ∧ b ≤ 16777215
    · refine ev_pos (decide_eq_true h2) (ev_to (sRec_j a b t ht _) ?_)
      by_cases h3 : t.size = 4
      · rw [if_neg (by simp [h3]), if_pos ⟨h1, h2, h3⟩]
      · rw [if_pos (by simp; omega), if_neg (fun h => h3 h.2.2)]
    · exact ev_neg (by simpa using h2) (ev_to (sRec_j a b t ht true) (by rw [if_pos rfl, if_neg (fun h => h2 h.2.1)]))
  · exact ev_neg (by simpa using h1) (ev_to (sRec_j a b t ht true) (by rw [if_pos rfl, if_neg (fun h => h1 h.1)]))
theorem iRec_j (a b : Int) (t : ByteArray) (ht : t.size ≤ 4000000) (z : Bool) : Ev (fun k => impl_RecWord.j0 k z a b t) (if z = true then ⟨#[]⟩ else nt a 1 ++ nt b 3 ++ t) := by
  refine Ev.step (impl_RecWord.j0.eq_2 _ _ _ _) ?_
  have z1 := nt_size a 1
  have z3 := nt_size b 3
  cases z with
  | true => exact ev_pos rfl (ev_now rfl)
  | false => exact ev_neg (by simp) (Ev.bind (iNum_ev a 1 (by omega) (by omega)) (Ev.bind (iNum_ev b 3 (by omega) (by omega)) (ev_pos (by omega) (ev_pos (by rw [ByteArray.size_append]; omega) (ev_now rfl)))))
theorem iRec_ev (a b : Int) (t : ByteArray) (ht : t.size ≤ 4000000) : Ev (fun k => impl_RecWord.f k a b t) (recV a b t) := by
  unfold impl_RecWord.f recV
  rw [within_eq]
  refine Ev.bind (Ev.now _) ?_
  by_cases h1 : 1 ≤ a ∧ a ≤ 12
  · rw [within_eq]
    refine ev_pos (decide_eq_true h1) (Ev.bind (Ev.now _) ?_)
    by_cases h2 : 1 ≤ b ∧ b ≤ 16777215
    · refine ev_pos (decide_eq_true h2) (ev_to (iRec_j a b t ht _) ?_)
      by_cases h3 : t.size = 4
      · rw [if_neg (by simp [h3]), if_pos ⟨h1, h2, h3⟩]
      · rw [if_pos (by simp; omega), if_neg (fun h => h3 h.2.2)]
    · exact ev_neg (by simpa using h2) (ev_to (iRec_j a b t ht true) (by rw [if_pos rfl, if_neg (fun h => h2 h.2.1)]))
  · exact ev_neg (by simpa using h1) (ev_to (iRec_j a b t ht true) (by rw [if_pos rfl, if_neg (fun h => h1 h.1)]))

/-! ### readrec -/
noncomputable def rrV (w : ByteArray) : Int × Int × ByteArray × Bool := if w.size = 8 ∧ (recV (naG w 1 0 0) (naG w 3 1 0) (w.extract 4 w.size)).toList = w.toList then (naG w 1 0 0, naG w 3 1 0, w.extract 4 w.size, true) else (0, 0, ⟨#[]⟩, false)
theorem sRR_ev (w : ByteArray) (hw : w.size ≤ 4000000) : Ev (fun k => spec_ReadRec.f k w) (rrV w) := by
  unfold spec_ReadRec.f rrV
  by_cases h8 : w.size = 8
  · refine ev_pos (by omega) (Ev.bind (sNA_ev w hw 0 1 (by omega) (by omega) (by omega)) (Ev.bind (sNA_ev w hw 1 3 (by omega) (by omega) (by omega)) (ev_pos (by omega) (Ev.bind (sRec_ev _ _ _ (by rw [ByteArray.size_extract]; omega)) ?_))))
    by_cases he : (recV (naG w 1 0 0) (naG w 3 1 0) (w.extract 4 w.size)).toList = w.toList
    · exact ev_pos he (ev_now (if_pos ⟨h8, he⟩).symm)
    · exact ev_neg he (ev_now (if_neg (fun h => he h.2)).symm)
  · exact ev_neg (by omega) (ev_now (if_neg (fun h => h8 h.1)).symm)

theorem iRR_ev (w : ByteArray) (hw : w.size ≤ 4000000) : Ev (fun k => impl_ReadRec.f k w) (rrV w) := by
  unfold impl_ReadRec.f rrV
  by_cases h8 : w.size = 8
  · refine ev_pos (by omega) (Ev.bind (iNA_ev w hw 0 1 (by omega) (by omega) (by omega)) (Ev.bind (iNA_ev w hw 1 3 (by omega) (by omega) (by omega)) (ev_pos (by omega) (Ev.bind (iRec_ev _ _ _ (by rw [ByteArray.size_extract]; omega)) ?_))))
    by_cases he : (recV (naG w 1 0 0) (naG w 3 1 0) (w.extract 4 w.size)).toList = w.toList
    · exact ev_pos he (ev_now (if_pos ⟨h8, he⟩).symm)
    · exact ev_neg he (ev_now (if_neg (fun h => he h.2)).symm)
  · exact ev_neg (by omega) (ev_now (if_neg (fun h => h8 h.1)).symm)


/-! ### readentry -/
def trE (w : ByteArray) : Nat → Nat
  | 0 => 0
  | e + 1 => if 1 ≤ e ∧ bt w (e : Int) = 0 then trE w e else e + 1
noncomputable def rnX (w : ByteArray) (m : Nat) : Int × ByteArray × Bool := if (enV (bt w 0) (w.extract 1 m)).toList = w.toList then (bt w 0, w.extract 1 m, true) else (0, ⟨#[]⟩, false)
noncomputable def rnV (w : ByteArray) : Int × ByteArray × Bool := if w.size = 8 then rnX w (trE w 8) else (0, ⟨#[]⟩, false)
theorem sRN_l (w : ByteArray) (h8 : w.size = 8) : ∀ e : Nat, 1 ≤ e → e ≤ 8 → Ev (fun k => spec_ReadEntry.l0 k w (e : Int)) (rnX w (trE w e))
  | 0, h1, _ => by omega
  | e + 1, h1, h2 => by
    refine Ev.step (spec_ReadEntry.l0.eq_2 _ _) ?_
    have hl := b_len w
    have hb0 := bt_byte w 0 (by omega)
    have tail : ∀ F : Nat → Option (Int × ByteArray × Bool), (∀ k, F k = if 0 < (w.size : Int) then (if 1 ≤ ((e + 1 : Nat) : Int) then (if ((e + 1 : Nat) : Int) ≤ (w.size : Int) then ((spec_EntryWord.f k (wrap64 (bt w 0)) (w.extract 1 (((e + 1 : Nat) : Int) : Int).toNat)).bind fun t140 => (if t140.toList = w.toList then (some (wrap64 (bt w 0), w.extract 1 (((e + 1 : Nat) : Int) : Int).toNat, true)) else (some (0, (⟨#[]⟩ : ByteArray), false)))) else (none)) else (none)) else (none)) → Ev F (rnX w (e + 1)) := by
      intro F hF
      refine Ev.congr hF ?_
      rw [w64 (x := bt w 0) (by have := hb0.1; simpa using (by omega : (-9223372036854775808 : Int) ≤ bt w ((0 : Nat) : Int))) (by have := hb0.2; simpa using (by omega : bt w ((0 : Nat) : Int) < (9223372036854775808 : Int))), Int.toNat_natCast]
      refine ev_pos (by omega) (ev_pos (by omega) (ev_pos (by omega) (Ev.bind (sEnt_ev _ _ (by rw [ByteArray.size_extract]; omega)) ?_)))
      unfold rnX
      by_cases he : (enV (bt w 0) (w.extract 1 (e + 1))).toList = w.toList
      · exact ev_pos he (ev_now (if_pos he).symm)
      · exact ev_neg he (ev_now (if_neg he).symm)
    have e1 : wrap64 (((e + 1 : Nat) : Int) - 1) = (e : Int) := by rw [w64 (by omega) (by omega)]; omega
    rw [e1]
    unfold trE
    by_cases c1 : 1 ≤ e
    · refine ev_pos (by omega) (ev_pos (by omega) (ev_pos (by omega) ?_))
      by_cases c2 : bt w (e : Int) = 0
      · rw [if_pos ⟨c1, c2⟩]
        exact ev_pos c2 (sRN_l w h8 e c1 (by omega))
      · rw [if_neg (fun h => c2 h.2)]
        exact ev_neg c2 (tail _ (fun _ => rfl))
    · rw [if_neg (fun h => c1 h.1)]
      exact ev_neg (by omega) (tail _ (fun _ => rfl))
theorem sRN_ev (w : ByteArray) : Ev (fun k => spec_ReadEntry.f k w) (rnV w) := by
  unfold spec_ReadEntry.f rnV
  by_cases h8 : w.size = 8
  · rw [if_pos h8]; exact ev_pos (by omega) (sRN_l w h8 8 (by omega) (by omega))
  · rw [if_neg h8]; exact ev_neg (by omega) (ev_now rfl)

theorem trim_snoc (xs : List UInt8) (b : UInt8) : Lib.trimRightB (xs ++ [b]) 0 = if b = 0 then Lib.trimRightB xs 0 else xs ++ [b] := by
  unfold Lib.trimRightB
  rw [List.reverse_append, List.reverse_singleton, List.singleton_append, List.dropWhile_cons]
  by_cases h : b = 0
  · rw [if_pos h, if_pos (by simp [h])]
  · rw [if_neg h, if_neg (by simp [h])]; simp
theorem trim_l (w : ByteArray) (h8 : w.size = 8) : ∀ e : Nat, e ≤ 7 → Lib.trimRightB ((w.data.toList.drop 1).take e) 0 = (w.data.toList.drop 1).take (trE w (e + 1) - 1)
  | 0, _ => by simp [trE, Lib.trimRightB]
  | e + 1, h => by
    have hl := b_len w
    have ih := trim_l w h8 e (by omega)
    have hd : e < (w.data.toList.drop 1).length := by rw [List.length_drop]; omega
    rw [List.take_succ_eq_append_getElem hd, trim_snoc, List.getElem_drop]
    have hb : bt w ((e + 1 : Nat) : Int) = ((w.data.toList[1 + e]'(by omega)).toNat : Int) := by
      rw [btn w (e + 1) (by omega)]; congr 2; congr 1; omega
    show _ = (w.data.toList.drop 1).take ((if 1 ≤ e + 1 ∧ bt w ((e + 1 : Nat) : Int) = 0 then trE w (e + 1) else e + 1 + 1) - 1)
    by_cases hz : w.data.toList[1 + e]'(by omega) = 0
    · rw [if_pos hz, if_pos ⟨by omega, by rw [hb, hz]; rfl⟩, ih]
    · rw [if_neg hz, if_neg, show e + 1 + 1 - 1 = e + 1 from rfl, List.take_succ_eq_append_getElem hd, List.getElem_drop]
      rintro ⟨_, hc⟩
      rw [hb] at hc
      exact hz (UInt8.toNat_inj.1 (by have : (w.data.toList[1 + e]'(by omega)).toNat = 0 := by omega
                                      rw [this]; rfl))
theorem trE_le (w : ByteArray) : ∀ e : Nat, trE w e ≤ e
  | 0 => Nat.le_refl _
  | e + 1 => by
    unfold trE
    split
    · have := trE_le w e; omega
    · omega
theorem trE_pos (w : ByteArray) : ∀ e : Nat, 1 ≤ e → 1 ≤ trE w e
  | 0, h => by omega
  | e + 1, _ => by
    unfold trE
    split
    · rename_i h; exact trE_pos w e h.1
    · omega
theorem trim_eq (w : ByteArray) (h8 : w.size = 8) : strings_TrimRight.f (w.extract 1 w.size) (⟨#[0]⟩ : ByteArray) = some (w.extract 1 (trE w 8)) := by
  have hl := b_len w
  unfold strings_TrimRight.f
  rw [if_pos ⟨rfl, by rw [ByteArray.size_extract]; omega⟩]
  congr 1
  refine b_inj ?_
  have h7 := trim_l w h8 7 (by omega)
  have hp := trE_pos w 8 (by omega)
  have hq := trE_le w 8
  have e1 : (w.extract 1 w.size).data.toList = (w.data.toList.drop 1).take 7 := by
    rw [b_cut, List.take_of_length_le (by omega), List.take_of_length_le (by rw [List.length_drop]; omega)]
  have e2 : (w.extract 1 (trE w 8)).data.toList = (w.data.toList.drop 1).take (trE w 8 - 1) := by
    rw [b_cut, List.drop_take]
  rw [e1, e2, h7]
theorem iRN_ev (w : ByteArray) : Ev (fun k => impl_ReadEntry.f k w) (rnV w) := by
  unfold impl_ReadEntry.f rnV
  by_cases h8 : w.size = 8
  · have hl := b_len w
    have hb0 := bt_byte w 0 (by omega)
    rw [if_pos h8, trim_eq w h8, w64 (x := bt w 0) (by have := hb0.1; simpa using (by omega : (-9223372036854775808 : Int) ≤ bt w ((0 : Nat) : Int))) (by have := hb0.2; simpa using (by omega : bt w ((0 : Nat) : Int) < (9223372036854775808 : Int)))]
    refine ev_pos (by omega) (ev_pos (by omega) (ev_pos (by omega) (Ev.bind (Ev.now _) (Ev.bind (iEnt_ev _ _ (by rw [ByteArray.size_extract]; omega)) ?_))))
    unfold rnX
    by_cases he : (enV (bt w 0) (w.extract 1 (trE w 8))).toList = w.toList
    · exact ev_pos he (ev_now (if_pos he).symm)
    · exact ev_neg he (ev_now (if_neg he).symm)
  · rw [if_neg h8]; exact ev_neg (by omega) (ev_now rfl)


/-! ### inodeok -/
def dupR (rs : List S42) (i : Nat) : Bool := (rs.take i).any (fun y => y.f0 == (rd_T42 rs (i : Int)).f0)
noncomputable def rcAll (rs : List S42) : Nat → Nat → Bool
  | 0, _ => true
  | f + 1, i => if (recV (rd_T42 rs (i : Int)).f0 (rd_T42 rs (i : Int)).f1 (rd_T42 rs (i : Int)).f2).toList = ([] : List UInt8) then false else if dupR rs i = true then false else rcAll rs f (i + 1)
def ascE (es : List S47) (i : Nat) : Bool := if (i : Int) > 0 then Op.bytesLess ((rd_T47 es ((i : Int) - 1)).f1).toList ((rd_T47 es (i : Int)).f1).toList else true
noncomputable def enAll (es : List S47) : Nat → Nat → Bool
  | 0, _ => true
  | f + 1, i => if (enV (rd_T47 es (i : Int)).f0 (rd_T47 es (i : Int)).f1).toList = ([] : List UInt8) then false else if ascE es i = true then enAll es f (i + 1) else false
noncomputable def okI (kd sz ct : Int) (mk : ByteArray) (rs : List S42) (es : List S47) : Bool :=
  decide (0 ≤ ct ∧ ct ≤ 65535) && (if kd = 0 then decide (sz = 0 ∧ mk.toList = [] ∧ rs.length = 0 ∧ es.length = 0)
    else if kd = 1 then decide ((0 ≤ sz ∧ sz ≤ 128) ∧ (mk.size : Int) = 8 ∧ (rs.length : Int) = pgF sz ∧ es.length = 0) && rcAll rs rs.length 0
    else if kd = 2 then decide (sz = 0 ∧ mk.toList = [] ∧ rs.length = 0 ∧ es.length ≤ 6) && enAll es es.length 0
    else false)
theorem drop_any (rs : List S42) (i j : Nat) (hj : j < i) (hi : i < rs.length) (p : S42 → Bool) : ((rs.take i).drop j).any p = (p rs[j] || ((rs.take i).drop (j + 1)).any p) := by
  have hl : (rs.take i).length = i := by rw [List.length_take]; omega
  rw [List.drop_eq_getElem_cons (by omega), List.any_cons, List.getElem_take]
theorem sOk_l1 (kd sz ct : Int) (mk : ByteArray) (rs : List S42) (es : List S47) (hr : rs.length ≤ 4000000) (i : Nat) (hi : i < rs.length) (N : Bool) (next : Ev (fun k => spec_InodeOk.l0 k ((i + 1 : Nat) : Int) kd sz ct mk rs es) N) : ∀ j : Nat, j ≤ i → Ev (fun k => spec_InodeOk.l1 k (i : Int) (j : Int) kd sz ct mk rs es) (if ((rs.take i).drop j).any (fun y => y.f0 == (rd_T42 rs (i : Int)).f0) = true then false else N)
  | j, hj => by
    refine Ev.step (spec_InodeOk.l1.eq_2 _ _ _ _ _ _ _ _) ?_
    by_cases h : j < i
    · refine ev_pos (by omega) (ev_pos (by omega) (ev_pos (by omega) (ev_pos (by omega) (ev_pos (by omega) ?_))))
      rw [drop_any rs i j h hi, rdiRec rs j (by omega), w64s j (by omega)]
      by_cases he : rs[j].f0 = (rd_T42 rs (i : Int)).f0
      · exact ev_pos he (ev_now (by rw [if_pos (by simp [he])]))
      · refine ev_neg he (ev_to (sOk_l1 kd sz ct mk rs es hr i hi N next (j + 1) (by omega)) ?_)
        rw [beq_false_of_ne he, Bool.false_or]
    · have : j = i := by omega
      subst this
      rw [w64s j (by omega)]
      refine ev_neg (by omega) (ev_to next ?_)
      rw [List.drop_of_length_le (by rw [List.length_take]; omega)]
      simp
  termination_by j => i - j
theorem sOk_l0 (kd sz ct : Int) (mk : ByteArray) (rs : List S42) (es : List S47) (hr : rs.length ≤ 4000000) (hs : ∀ y ∈ rs, y.f2.size ≤ 4000000) : ∀ (f i : Nat), i + f = rs.length → Ev (fun k => spec_InodeOk.l0 k (i : Int) kd sz ct mk rs es) (rcAll rs f i)
  | f, i, hf => by
    refine Ev.step (spec_InodeOk.l0.eq_2 _ _ _ _ _ _ _) ?_
    cases f with
    | zero => exact ev_neg (by omega) (ev_now rfl)
    | succ f =>
      have hz : (rd_T42 rs (i : Int)).f2.size ≤ 4000000 := by rw [rdiRec rs i (by omega)]; exact hs _ (List.getElem_mem _)
      refine ev_pos (by omega) (ev_pos (by omega) (Ev.bind (sRec_ev _ _ _ hz) ?_))
      unfold rcAll
      by_cases h : (recV (rd_T42 rs (i : Int)).f0 (rd_T42 rs (i : Int)).f1 (rd_T42 rs (i : Int)).f2).toList = ([] : List UInt8)
      · exact ev_to (ev_pos h (ev_now rfl)) (if_pos h).symm
      · refine ev_to (ev_neg h (sOk_l1 kd sz ct mk rs es hr i (by omega) _ (sOk_l0 kd sz ct mk rs es hr hs f (i + 1) (by omega)) 0 (by omega))) ?_
        rw [if_neg h]
        unfold dupR
        rw [List.drop_zero]
theorem sOk_l2 (kd sz ct : Int) (mk : ByteArray) (rs : List S42) (es : List S47) (hr : es.length ≤ 4000000) (hs : ∀ y ∈ es, y.f1.size ≤ 2000000) : ∀ (f i : Nat), i + f = es.length → Ev (fun k => spec_InodeOk.l2 k (i : Int) kd sz ct mk rs es) (enAll es f i)
  | f, i, hf => by
    refine Ev.step (spec_InodeOk.l2.eq_2 _ _ _ _ _ _ _) ?_
    cases f with
    | zero => exact ev_neg (by omega) (ev_now rfl)
    | succ f =>
      have hz : (rd_T47 es (i : Int)).f1.size ≤ 2000000 := by rw [rdiEntry es i (by omega)]; exact hs _ (List.getElem_mem _)
      refine ev_pos (by omega) (ev_pos (by omega) (Ev.bind (sEnt_ev _ _ hz) ?_))
      unfold enAll
      have ih := sOk_l2 kd sz ct mk rs es hr hs f (i + 1) (by omega)
      rw [w64s i (by omega)]
      by_cases h : (enV (rd_T47 es (i : Int)).f0 (rd_T47 es (i : Int)).f1).toList = ([] : List UInt8)
      · exact ev_to (ev_pos h (ev_now rfl)) (if_pos h).symm
      · refine ev_to (ev_neg h ?_) (if_neg h).symm
        unfold ascE
        by_cases h0 : (i : Int) > 0
        · rw [if_pos h0, w64 (x := (i : Int) - 1) (by omega) (by omega)]
          refine ev_pos h0 (ev_pos (by omega) (ev_pos (by omega) ?_))
          by_cases h2 : Op.bytesLess ((rd_T47 es ((i : Int) - 1)).f1).toList ((rd_T47 es (i : Int)).f1).toList = true
          · exact ev_to (ev_pos h2 ih) (if_pos h2).symm
          · exact ev_to (ev_neg h2 (ev_now rfl)) (if_neg h2).symm
        · rw [if_neg h0]
          exact ev_to (ev_neg h0 ih) (by simp)
theorem sOkI_ev (kd sz ct : Int) (mk : ByteArray) (rs : List S42) (es : List S47) (hr : rs.length ≤ 4000000) (he : es.length ≤ 4000000) (hs : ∀ y ∈ rs, y.f2.size ≤ 4000000) (hz : ∀ y ∈ es, y.f1.size ≤ 2000000) : Ev (fun k => spec_InodeOk.f k kd sz ct mk rs es) (okI kd sz ct mk rs es) := by
  unfold spec_InodeOk.f okI
  rw [l01In_eq]
  refine Ev.bind (Ev.now _) ?_
  by_cases h0 : 0 ≤ ct ∧ ct ≤ 65535
  · rw [decide_eq_true h0, Bool.true_and]
    refine ev_pos rfl ?_
    by_cases k0 : kd = 0
    · refine ev_to (ev_pos k0 ?_) (if_pos k0).symm
      by_cases a1 : sz = 0
      · by_cases a2 : mk.toList = ([] : List UInt8)
        · by_cases a3 : (rs.length : Int) = 0
          · refine ev_pos a1 (ev_pos a2 (ev_pos a3 (ev_now ?_)))
            rw [Bool.eq_iff_iff, beq_iff_eq, decide_eq_true_eq]
            exact ⟨fun h => ⟨a1, a2, by omega, by omega⟩, fun h => by have := h.2.2.2; omega⟩
          · exact ev_pos a1 (ev_pos a2 (ev_neg a3 (ev_now (by rw [decide_eq_false (fun h => a3 (by have := h.2.2.1; omega))]))))
        · exact ev_pos a1 (ev_neg a2 (ev_now (by rw [decide_eq_false (fun h => a2 h.2.1)])))
      · exact ev_neg a1 (ev_now (by rw [decide_eq_false (fun h => a1 h.1)]))
    refine ev_to (ev_neg k0 ?_) (if_neg k0).symm
    by_cases k1 : kd = 1
    · refine ev_to (ev_pos k1 ?_) (if_pos k1).symm
      have bad : ¬ ((0 ≤ sz ∧ sz ≤ 128) ∧ (mk.size : Int) = 8 ∧ (rs.length : Int) = pgF sz ∧ es.length = 0) → ∀ z : Bool, z = true → Ev (fun k => spec_InodeOk.j0 k z kd sz ct mk rs es) (decide ((0 ≤ sz ∧ sz ≤ 128) ∧ (mk.size : Int) = 8 ∧ (rs.length : Int) = pgF sz ∧ es.length = 0) && rcAll rs rs.length 0) := by
        intro hc z hz
        rw [decide_eq_false hc, Bool.false_and]
        refine Ev.step (spec_InodeOk.j0.eq_2 _ _ _ _ _ _ _) ?_
        exact ev_pos hz (ev_now rfl)
      rw [l01In_eq]
      refine Ev.bind (Ev.now _) ?_
      by_cases b1 : 0 ≤ sz ∧ sz ≤ 128
      · refine ev_pos (decide_eq_true b1) ?_
        by_cases b2 : (mk.size : Int) = 8
        · refine ev_pos b2 (Ev.bind (ev_eq (sPagesFor_eq sz b1.1 (by omega))) ?_)
          by_cases b3 : (rs.length : Int) = pgF sz
          · refine ev_pos b3 ?_
            by_cases b4 : (es.length : Int) > 0
            · exact bad (fun h => by have := h.2.2.2; omega) _ (decide_eq_true b4)
            · rw [decide_eq_true (show (0 ≤ sz ∧ sz ≤ 128) ∧ (mk.size : Int) = 8 ∧ (rs.length : Int) = pgF sz ∧ es.length = 0 from ⟨b1, b2, b3, by omega⟩), Bool.true_and]
              refine Ev.step (spec_InodeOk.j0.eq_2 _ _ _ _ _ _ _) ?_
              exact ev_neg (by simpa using b4) (sOk_l0 kd sz ct mk rs es hr hs rs.length 0 (by omega))
          · exact ev_neg b3 (bad (fun h => b3 h.2.2.1) _ rfl)
        · exact ev_neg b2 (bad (fun h => b2 h.2.1) _ rfl)
      · exact ev_neg (by simpa using b1) (bad (fun h => b1 h.1) _ rfl)
    refine ev_to (ev_neg k1 ?_) (if_neg k1).symm
    by_cases k2 : kd = 2
    · refine ev_to (ev_pos k2 ?_) (if_pos k2).symm
      have bad : ¬ (sz = 0 ∧ mk.toList = [] ∧ rs.length = 0 ∧ es.length ≤ 6) → ∀ z : Bool, z = true → Ev (fun k => spec_InodeOk.j3 k z kd sz ct mk rs es) (decide (sz = 0 ∧ mk.toList = [] ∧ rs.length = 0 ∧ es.length ≤ 6) && enAll es es.length 0) := by
        intro hc z hz
        rw [decide_eq_false hc, Bool.false_and]
        refine Ev.step (spec_InodeOk.j3.eq_2 _ _ _ _ _ _ _) ?_
        exact ev_pos hz (ev_now rfl)
      by_cases b1 : sz = 0
      · refine ev_pos b1 ?_
        by_cases b2 : mk.toList = ([] : List UInt8)
        · refine ev_pos b2 ?_
          by_cases b3 : (rs.length : Int) > 0
          · exact ev_pos b3 (bad (fun h => by have := h.2.2.1; omega) _ rfl)
          · refine ev_neg b3 ?_
            by_cases b4 : (es.length : Int) > 6
            · exact bad (fun h => by have := h.2.2.2; omega) _ (decide_eq_true b4)
            · rw [decide_eq_true (show sz = 0 ∧ mk.toList = [] ∧ rs.length = 0 ∧ es.length ≤ 6 from ⟨b1, b2, by omega, by omega⟩), Bool.true_and]
              refine Ev.step (spec_InodeOk.j3.eq_2 _ _ _ _ _ _ _) ?_
              exact ev_neg (by rw [decide_eq_true_eq]; exact b4) (sOk_l2 kd sz ct mk rs es he hz es.length 0 (by omega))
        · exact ev_neg b2 (bad (fun h => b2 h.2.1) _ rfl)
      · exact ev_neg b1 (bad (fun h => b1 h.1) _ rfl)
    · exact ev_to (ev_neg k2 (ev_now rfl)) (if_neg k2).symm
  · exact ev_neg (by simpa using h0) (ev_now (by rw [decide_eq_false h0, Bool.false_and]))
theorem idx_any (rs : List S42) (p : S42 → Bool) : ∀ i : Nat, decide (Lib.idxByFrom (fun _ y => p y) z42 rs i ≥ 0) = rs.any p := by
  induction rs with
  | nil => intro i; simp [Lib.idxByFrom]
  | cons x r ih =>
    intro i
    unfold Lib.idxByFrom
    rw [List.any_cons]
    by_cases h : p x = true
    · rw [if_pos h, h, Bool.true_or]; first | (simp; done) | (simp; omega)
    · rw [if_neg h, ih (i + 1)]; simp at h; rw [h, Bool.false_or]
theorem iCont_eq (rs : List S42) (a b : Int) (t : ByteArray) (hn : rs.length ≤ 4000000) : slices_ContainsFunc_Rec_g78.f rs a b t = some (rs.any (fun y => y.f0 == a)) := by
  unfold slices_ContainsFunc_Rec_g78.f
  rw [if_pos (by omega)]
  congr 1
  exact idx_any rs (fun y => y.f0 == a) 0
theorem iFile_l (kd sz ct : Int) (mk : ByteArray) (rs : List S42) (es : List S47) (hr : rs.length ≤ 4000000) (hs : ∀ y ∈ rs, y.f2.size ≤ 4000000) (N : Bool) (fin : Ev (fun k => (impl_within.f sz 0 128).bind fun t246 => (if t246 = true then (if (mk.size : Int) = 8 then ((impl_PagesFor.f sz).bind fun t247 => (if (rs.length : Int) = t247 then (some ((es.length : Int) == 0)) else (some false))) else (some false)) else (some false))) N) : ∀ (f i : Nat), i + f = rs.length → Ev (fun k => impl_isFile.l0 k rs (rs.length : Int) (i : Int) kd sz ct mk rs es) (rcAll rs f i && N)
  | f, i, hf => by
    refine Ev.step (impl_isFile.l0.eq_2 _ _ _ _ _ _ _ _ _) ?_
    cases f with
    | zero => exact ev_neg (by omega) (ev_to fin (by simp [rcAll]))
    | succ f =>
      have hz : (rd_T42 rs (i : Int)).f2.size ≤ 4000000 := by rw [rdiRec rs i (by omega)]; exact hs _ (List.getElem_mem _)
      refine ev_pos (by omega) (ev_pos (by omega) (ev_pos (by omega) (Ev.bind (iRec_ev _ _ _ hz) ?_)))
      unfold rcAll
      rw [w64s i (by omega), Int.toNat_natCast]
      by_cases h : (recV (rd_T42 rs (i : Int)).f0 (rd_T42 rs (i : Int)).f1 (rd_T42 rs (i : Int)).f2).toList = ([] : List UInt8)
      · exact ev_pos h (ev_now (by rw [if_pos h, Bool.false_and]))
      · refine ev_neg h (ev_pos (by omega) (Ev.bind (ev_eq (iCont_eq (rs.take i) _ _ _ (by rw [List.length_take]; omega))) ?_))
        rw [if_neg h]
        unfold dupR
        by_cases hd : ((rs.take i).any fun y => y.f0 == (rd_T42 rs (i : Int)).f0) = true
        · exact ev_pos hd (ev_now (by rw [if_pos hd, Bool.false_and]))
        · exact ev_neg hd (ev_to (iFile_l kd sz ct mk rs es hr hs N fin f (i + 1) (by omega)) (by rw [if_neg hd]))
theorem iFile_ev (kd sz ct : Int) (mk : ByteArray) (rs : List S42) (es : List S47) (hr : rs.length ≤ 4000000) (hs : ∀ y ∈ rs, y.f2.size ≤ 4000000) : Ev (fun k => impl_isFile.f k kd sz ct mk rs es) (decide ((0 ≤ sz ∧ sz ≤ 128) ∧ (mk.size : Int) = 8 ∧ (rs.length : Int) = pgF sz ∧ es.length = 0) && rcAll rs rs.length 0) := by
  unfold impl_isFile.f
  refine ev_to (iFile_l kd sz ct mk rs es hr hs (decide ((0 ≤ sz ∧ sz ≤ 128) ∧ (mk.size : Int) = 8 ∧ (rs.length : Int) = pgF sz ∧ es.length = 0)) ?_ rs.length 0 (by omega)) (Bool.and_comm _ _)
  rw [within_eq]
  refine Ev.bind (Ev.now _) ?_
  by_cases b1 : 0 ≤ sz ∧ sz ≤ 128
  · refine ev_pos (decide_eq_true b1) ?_
    by_cases b2 : (mk.size : Int) = 8
    · refine ev_pos b2 (Ev.bind (ev_eq (iPagesFor_eq sz b1.1 (by omega))) ?_)
      by_cases b3 : (rs.length : Int) = pgF sz
      · refine ev_pos b3 (ev_now ?_)
        rw [Bool.eq_iff_iff, beq_iff_eq, decide_eq_true_eq]
        exact ⟨fun h => ⟨b1, b2, b3, by omega⟩, fun h => by have := h.2.2.2; omega⟩
      · exact ev_neg b3 (ev_now (by rw [decide_eq_false (fun h => b3 h.2.2.1)]))
    · exact ev_neg b2 (ev_now (by rw [decide_eq_false (fun h => b2 h.2.1)]))
  · exact ev_neg (by simpa using b1) (ev_now (by rw [decide_eq_false (fun h => b1 h.1)]))
theorem iDir_l (kd sz ct : Int) (mk : ByteArray) (rs : List S42) (es : List S47) (hr : es.length ≤ 4000000) (hs : ∀ y ∈ es, y.f1.size ≤ 2000000) : ∀ (f i : Nat), i + f = es.length → Ev (fun k => impl_isDir.l0 k es (es.length : Int) (i : Int) kd sz ct mk rs es) (enAll es f i && decide (sz = 0 ∧ mk.toList = [] ∧ rs.length = 0 ∧ es.length ≤ 6))
  | f, i, hf => by
    refine Ev.step (impl_isDir.l0.eq_2 _ _ _ _ _ _ _ _ _) ?_
    cases f with
    | zero =>
      refine ev_neg (by omega) ?_
      rw [show enAll es 0 i = true from rfl, Bool.true_and]
      by_cases b1 : sz = 0
      · by_cases b2 : mk.toList = ([] : List UInt8)
        · by_cases b3 : (rs.length : Int) = 0
          · refine ev_pos b1 (ev_pos b2 (ev_pos b3 (ev_now ?_)))
            rw [Bool.eq_iff_iff, decide_eq_true_eq, decide_eq_true_eq]
            exact ⟨fun h => ⟨b1, b2, by omega, by omega⟩, fun h => by have := h.2.2.2; omega⟩
          · exact ev_pos b1 (ev_pos b2 (ev_neg b3 (ev_now (by rw [decide_eq_false (fun h => b3 (by have := h.2.2.1; omega))]))))
        · exact ev_pos b1 (ev_neg b2 (ev_now (by rw [decide_eq_false (fun h => b2 h.2.1)])))
      · exact ev_neg b1 (ev_now (by rw [decide_eq_false (fun h => b1 h.1)]))
    | succ f =>
      have hz : (rd_T47 es (i : Int)).f1.size ≤ 2000000 := by rw [rdiEntry es i (by omega)]; exact hs _ (List.getElem_mem _)
      refine ev_pos (by omega) (ev_pos (by omega) (ev_pos (by omega) (Ev.bind (iEnt_ev _ _ hz) ?_)))
      unfold enAll
      have ih := iDir_l kd sz ct mk rs es hr hs f (i + 1) (by omega)
      rw [w64s i (by omega)]
      by_cases h : (enV (rd_T47 es (i : Int)).f0 (rd_T47 es (i : Int)).f1).toList = ([] : List UInt8)
      · exact ev_pos h (ev_now (by rw [if_pos h, Bool.false_and]))
      · refine ev_neg h ?_
        rw [if_neg h]
        unfold ascE
        by_cases h0 : (i : Int) > 0
        · rw [if_pos h0, w64 (x := (i : Int) - 1) (by omega) (by omega)]
          refine ev_pos h0 (ev_pos (by omega) (ev_pos (by omega) ?_))
          by_cases h2 : Op.bytesLess ((rd_T47 es ((i : Int) - 1)).f1).toList ((rd_T47 es (i : Int)).f1).toList = true
          · exact ev_pos h2 (ev_to ih (by rw [if_pos h2]))
          · exact ev_neg h2 (ev_now (by rw [if_neg h2, Bool.false_and]))
        · rw [if_neg h0]
          exact ev_neg h0 (ev_to ih (by rw [if_pos rfl]))
theorem iOkI_ev (kd sz ct : Int) (mk : ByteArray) (rs : List S42) (es : List S47) (hr : rs.length ≤ 4000000) (he : es.length ≤ 4000000) (hs : ∀ y ∈ rs, y.f2.size ≤ 4000000) (hz : ∀ y ∈ es, y.f1.size ≤ 2000000) : Ev (fun k => impl_InodeOk.f k kd sz ct mk rs es) (okI kd sz ct mk rs es) := by
  unfold impl_InodeOk.f okI
  rw [within_eq]
  refine Ev.bind (Ev.now _) ?_
  by_cases h0 : 0 ≤ ct ∧ ct ≤ 65535
  · rw [decide_eq_true h0, Bool.true_and]
    refine ev_pos rfl ?_
    by_cases k0 : kd = 0
    · refine ev_to (ev_pos k0 ?_) (if_pos k0).symm
      by_cases a1 : sz = 0
      · by_cases a2 : mk.toList = ([] : List UInt8)
        · by_cases a3 : (rs.length : Int) = 0
          · refine ev_pos a1 (ev_pos a2 (ev_pos a3 (ev_now ?_)))
            rw [Bool.eq_iff_iff, beq_iff_eq, decide_eq_true_eq]
            exact ⟨fun h => ⟨a1, a2, by omega, by omega⟩, fun h => by have := h.2.2.2; omega⟩
          · exact ev_pos a1 (ev_pos a2 (ev_neg a3 (ev_now (by rw [decide_eq_false (fun h => a3 (by have := h.2.2.1; omega))]))))
        · exact ev_pos a1 (ev_neg a2 (ev_now (by rw [decide_eq_false (fun h => a2 h.2.1)])))
      · exact ev_neg a1 (ev_now (by rw [decide_eq_false (fun h => a1 h.1)]))
    refine ev_to (ev_neg k0 ?_) (if_neg k0).symm
    by_cases k1 : kd = 1
    · exact ev_to (ev_pos k1 (Ev.bind (iFile_ev kd sz ct mk rs es hr hs) (ev_now rfl))) (if_pos k1).symm
    refine ev_to (ev_neg k1 ?_) (if_neg k1).symm
    by_cases k2 : kd = 2
    · refine ev_to (ev_pos k2 (Ev.bind ?_ (ev_now rfl))) (if_pos k2).symm
      unfold impl_isDir.f
      exact ev_to (iDir_l kd sz ct mk rs es he hz es.length 0 (by omega)) (Bool.and_comm _ _)
    · exact ev_to (ev_neg k2 (ev_now rfl)) (if_neg k2).symm
  · exact ev_neg (by simpa using h0) (ev_now (by rw [decide_eq_false h0, Bool.false_and]))

/-! ### inodewords -/
def fil8 : List ByteArray → List ByteArray := fun ws => ws ++ List.replicate (8 - ws.length) (zb 8)
noncomputable def rcW (rs : List S42) : List ByteArray := rs.map (fun y => recV y.f0 y.f1 y.f2)
noncomputable def enW (es : List S47) : List ByteArray := es.map (fun y => enV y.f0 y.f1)
noncomputable def iwV (kd sz ct : Int) (mk : ByteArray) (rs : List S42) (es : List S47) : List ByteArray := if okI kd sz ct mk rs es = true then fil8 ([wdT (nt kd 1 ++ nt sz 2 ++ nt ct 2), wdT mk] ++ rcW rs ++ enW es) else []
theorem fil8_step (ws : List ByteArray) (h : ws.length < 8) : fil8 (ws ++ [zb 8]) = fil8 ws := by
  unfold fil8
  rw [show 8 - ws.length = (8 - (ws ++ [zb 8]).length) + 1 by simp; omega, List.replicate_succ, List.append_assoc, List.singleton_append]
theorem sIW_l2 : ∀ (f : Nat) (ws : List ByteArray), ws.length ≤ 8000008 → 8 ≤ f + ws.length → Ev (fun k => spec_InodeWords.l2 k ws) (fil8 ws)
  | f, ws, hb, hf => by
    refine Ev.step (spec_InodeWords.l2.eq_2 _) ?_
    by_cases h : (ws.length : Int) < 8
    · cases f with
      | zero => omega
      | succ f => exact ev_pos h (Ev.bind (zeroText_ev 8 (by omega)) (ev_pos (by omega) (ev_to (sIW_l2 f (ws ++ [zb 8]) (by simp; omega) (by simp; omega)) (fil8_step ws (by omega)))))
    · refine ev_neg h (ev_now ?_)
      unfold fil8
      rw [show 8 - ws.length = 0 by omega]; simp
theorem sIW_l1 (kd sz ct : Int) (mk : ByteArray) (rs : List S42) (es : List S47) (hr : es.length ≤ 4000000) (hs : ∀ y ∈ es, y.f1.size ≤ 2000000) : ∀ (i : Nat) (ws : List ByteArray), i ≤ es.length → ws.length ≤ 4000002 + i → Ev (fun k => spec_InodeWords.l1 k ws (i : Int) kd sz ct mk rs es) (fil8 (ws ++ enW (es.drop i)))
  | i, ws, hi, hw => by
    refine Ev.step (spec_InodeWords.l1.eq_2 _ _ _ _ _ _ _ _) ?_
    by_cases h : i < es.length
    · refine ev_pos (by omega) (ev_pos (by omega) ?_)
      rw [rdiEntry es i h, w64s i (by omega), drop_at es i h]
      refine Ev.bind (sEnt_ev _ _ (hs _ (List.getElem_mem _))) (ev_pos (by omega) (ev_to (sIW_l1 kd sz ct mk rs es hr hs (i + 1) _ (by omega) (by simp; omega)) ?_))
      unfold enW; rw [List.map_cons, List.append_assoc, List.singleton_append]
    · refine ev_neg (by omega) (ev_to (sIW_l2 8 ws (by omega) (by omega)) ?_)
      rw [List.drop_of_length_le (by omega)]; simp [enW]
  termination_by i => es.length - i
theorem sIW_l0 (kd sz ct : Int) (mk : ByteArray) (rs : List S42) (es : List S47) (hr : rs.length ≤ 4000000) (he : es.length ≤ 4000000) (hs : ∀ y ∈ rs, y.f2.size ≤ 4000000) (hz : ∀ y ∈ es, y.f1.size ≤ 2000000) : ∀ (i : Nat) (ws : List ByteArray), i ≤ rs.length → ws.length ≤ 2 + i → Ev (fun k => spec_InodeWords.l0 k ws (i : Int) kd sz ct mk rs es) (fil8 (ws ++ rcW (rs.drop i) ++ enW es))
  | i, ws, hi, hw => by
    refine Ev.step (spec_InodeWords.l0.eq_2 _ _ _ _ _ _ _ _) ?_
    by_cases h : i < rs.length
    · refine ev_pos (by omega) (ev_pos (by omega) ?_)
      rw [rdiRec rs i h, w64s i (by omega), drop_at rs i h]
      refine Ev.bind (sRec_ev _ _ _ (hs _ (List.getElem_mem _))) (ev_pos (by omega) (ev_to (sIW_l0 kd sz ct mk rs es hr he hs hz (i + 1) _ (by omega) (by simp; omega)) ?_))
      unfold rcW; rw [List.map_cons, List.append_assoc ws, List.singleton_append]
    · refine ev_neg (by omega) (ev_to (sIW_l1 kd sz ct mk rs es he hz 0 ws (Nat.zero_le _) (by omega)) ?_)
      rw [List.drop_zero, List.drop_of_length_le (show rs.length ≤ i by omega)]; simp [rcW]
  termination_by i => rs.length - i
theorem sIW_ev (kd sz ct : Int) (mk : ByteArray) (rs : List S42) (es : List S47) (hm : mk.size ≤ 4000000) (hr : rs.length ≤ 4000000) (he : es.length ≤ 4000000) (hs : ∀ y ∈ rs, y.f2.size ≤ 4000000) (hz : ∀ y ∈ es, y.f1.size ≤ 2000000) : Ev (fun k => spec_InodeWords.f k kd sz ct mk rs es) (iwV kd sz ct mk rs es) := by
  unfold spec_InodeWords.f iwV
  refine Ev.bind (sOkI_ev kd sz ct mk rs es hr he hs hz) ?_
  by_cases h : okI kd sz ct mk rs es = true
  · have z1 := nt_size kd 1
    have z2 := nt_size sz 2
    have z3 := nt_size ct 2
    rw [if_pos h]
    refine ev_pos h (Ev.bind (sNum_ev kd 1 (by omega) (by omega)) (Ev.bind (sNum_ev sz 2 (by omega) (by omega)) (ev_pos (by omega) (Ev.bind (sNum_ev ct 2 (by omega) (by omega)) (ev_pos (by rw [ByteArray.size_append]; omega) (Ev.bind (sWord_ev _ (by rw [ByteArray.size_append, ByteArray.size_append]; omega)) (Ev.bind (sWord_ev mk hm) ?_)))))))
    exact ev_to (sIW_l0 kd sz ct mk rs es hr he hs hz 0 _ (by omega) (by simp)) (by rw [List.drop_zero])
  · rw [if_neg h]; exact ev_neg h (ev_now rfl)
theorem zeroWord_eq : impl_zeroWord.f = some (zb 8) := by
  unfold impl_zeroWord.f
  rw [padded_eq _ 8 (by omega) (by omega) (by decide), Option.bind_some]
  congr 1
theorem iIW_l2 : ∀ (f : Nat) (ws : List ByteArray), ws.length ≤ 8000008 → 8 ≤ f + ws.length → Ev (fun k => impl_inodeText.l2 k ws) (fil8 ws)
  | f, ws, hb, hf => by
    refine Ev.step (impl_inodeText.l2.eq_2 _) ?_
    by_cases h : (ws.length : Int) < 8
    · cases f with
      | zero => omega
      | succ f => exact ev_pos h (Ev.bind (ev_eq zeroWord_eq) (ev_pos (by omega) (ev_to (iIW_l2 f (ws ++ [zb 8]) (by simp; omega) (by simp; omega)) (fil8_step ws (by omega)))))
    · refine ev_neg h (ev_now ?_)
      unfold fil8
      rw [show 8 - ws.length = 0 by omega]; simp
theorem iIW_l1 (es : List S47) (hr : es.length ≤ 4000000) (hs : ∀ y ∈ es, y.f1.size ≤ 2000000) : ∀ (i : Nat) (ws : List ByteArray), i ≤ es.length → ws.length ≤ 4000002 + i → Ev (fun k => impl_inodeText.l1 k ws es (es.length : Int) (i : Int)) (fil8 (ws ++ enW (es.drop i)))
  | i, ws, hi, hw => by
    refine Ev.step (impl_inodeText.l1.eq_2 _ _ _ _) ?_
    by_cases h : i < es.length
    · refine ev_pos (by omega) (ev_pos (by omega) (ev_pos (by omega) ?_))
      rw [rdiEntry es i h, w64s i (by omega), drop_at es i h]
      refine Ev.bind (iEnt_ev _ _ (hs _ (List.getElem_mem _))) (ev_pos (by omega) (ev_to (iIW_l1 es hr hs (i + 1) _ (by omega) (by simp; omega)) ?_))
      unfold enW; rw [List.map_cons, List.append_assoc, List.singleton_append]
    · refine ev_neg (by omega) (ev_to (iIW_l2 8 ws (by omega) (by omega)) ?_)
      rw [List.drop_of_length_le (by omega)]; simp [enW]
  termination_by i => es.length - i
theorem iIW_l0 (kd sz ct : Int) (mk : ByteArray) (rs : List S42) (es : List S47) (hr : rs.length ≤ 4000000) (he : es.length ≤ 4000000) (hs : ∀ y ∈ rs, y.f2.size ≤ 4000000) (hz : ∀ y ∈ es, y.f1.size ≤ 2000000) : ∀ (i : Nat) (ws : List ByteArray), i ≤ rs.length → ws.length ≤ 2 + i → Ev (fun k => impl_inodeText.l0 k ws rs (rs.length : Int) (i : Int) kd sz ct mk rs es) (fil8 (ws ++ rcW (rs.drop i) ++ enW es))
  | i, ws, hi, hw => by
    refine Ev.step (impl_inodeText.l0.eq_2 _ _ _ _ _ _ _ _ _ _) ?_
    by_cases h : i < rs.length
    · refine ev_pos (by omega) (ev_pos (by omega) (ev_pos (by omega) ?_))
      rw [rdiRec rs i h, w64s i (by omega), drop_at rs i h]
      refine Ev.bind (iRec_ev _ _ _ (hs _ (List.getElem_mem _))) (ev_pos (by omega) (ev_to (iIW_l0 kd sz ct mk rs es hr he hs hz (i + 1) _ (by omega) (by simp; omega)) ?_))
      unfold rcW; rw [List.map_cons, List.append_assoc ws, List.singleton_append]
    · refine ev_neg (by omega) (ev_to (iIW_l1 es he hz 0 ws (Nat.zero_le _) (by omega)) ?_)
      rw [List.drop_zero, List.drop_of_length_le (show rs.length ≤ i by omega)]; simp [rcW]
  termination_by i => rs.length - i
theorem iIT_ev (kd sz ct : Int) (mk : ByteArray) (rs : List S42) (es : List S47) (hm : mk.size ≤ 4000000) (hr : rs.length ≤ 4000000) (he : es.length ≤ 4000000) (hs : ∀ y ∈ rs, y.f2.size ≤ 4000000) (hz : ∀ y ∈ es, y.f1.size ≤ 2000000) : Ev (fun k => impl_inodeText.f k kd sz ct mk rs es) (fil8 ([wdT (nt kd 1 ++ nt sz 2 ++ nt ct 2), wdT mk] ++ rcW rs ++ enW es)) := by
  have z1 := nt_size kd 1
  have z2 := nt_size sz 2
  have z3 := nt_size ct 2
  unfold impl_inodeText.f
  refine Ev.bind (iNum_ev kd 1 (by omega) (by omega)) (Ev.bind (iNum_ev sz 2 (by omega) (by omega)) (ev_pos (by omega) (Ev.bind (iNum_ev ct 2 (by omega) (by omega)) (ev_pos (by rw [ByteArray.size_append]; omega) (Ev.bind (ev_eq (iWord_eq _ (by rw [ByteArray.size_append, ByteArray.size_append]; omega))) (Ev.bind (ev_eq (iWord_eq mk hm)) ?_))))))
  exact ev_to (iIW_l0 kd sz ct mk rs es hr he hs hz 0 _ (by omega) (by simp)) (by rw [List.drop_zero])
theorem iIW_ev (kd sz ct : Int) (mk : ByteArray) (rs : List S42) (es : List S47) (hm : mk.size ≤ 4000000) (hr : rs.length ≤ 4000000) (he : es.length ≤ 4000000) (hs : ∀ y ∈ rs, y.f2.size ≤ 4000000) (hz : ∀ y ∈ es, y.f1.size ≤ 2000000) : Ev (fun k => impl_InodeWords.f k kd sz ct mk rs es) (iwV kd sz ct mk rs es) := by
  unfold impl_InodeWords.f iwV
  refine Ev.bind (iOkI_ev kd sz ct mk rs es hr he hs hz) ?_
  by_cases h : okI kd sz ct mk rs es = true
  · rw [if_pos h]
    exact ev_pos h (Ev.bind (iIT_ev kd sz ct mk rs es hm hr he hs hz) (ev_now rfl))
  · rw [if_neg h]; exact ev_neg h (ev_now rfl)

theorem iwV_len (kd sz ct : Int) (mk : ByteArray) (rs : List S42) (es : List S47) : (iwV kd sz ct mk rs es).length ≤ 10 + rs.length + es.length := by
  unfold iwV
  split
  · unfold fil8 rcW enW; simp; omega
  · simp
theorem iwV_len2 (kd sz ct : Int) (mk : ByteArray) (rs : List S42) (es : List S47) (h : mk.size + rs.length + es.length ≤ 1048576) : (iwV kd sz ct mk rs es).length ≤ 1048576 := by
  unfold iwV
  split
  · rename_i hok
    have hb : rs.length + es.length ≤ 1048570 := by
      unfold okI at hok
      rw [Bool.and_eq_true] at hok
      have h2 := hok.2
      split at h2
      · have := of_decide_eq_true h2; omega
      · split at h2
        · rw [Bool.and_eq_true] at h2; have := of_decide_eq_true h2.1; omega
        · split at h2
          · rw [Bool.and_eq_true] at h2; have := of_decide_eq_true h2.1; omega
          · cases h2
    unfold fil8 rcW enW; simp; omega
  · simp

/-! ### eqwords -/
theorem drop_eq_iff {α : Type} (xs ys : List α) (i : Nat) (h1 : i < xs.length) (h2 : i < ys.length) : xs.drop i = ys.drop i ↔ xs[i] = ys[i] ∧ xs.drop (i + 1) = ys.drop (i + 1) := by
  rw [drop_at xs i h1, drop_at ys i h2, List.cons.injEq]
open Classical in
noncomputable def eqW (xs ys : List ByteArray) : Bool := decide (xs = ys)
open Classical in
theorem sWords_l (xs ys : List ByteArray) (hl : xs.length = ys.length) (hn : xs.length ≤ 4000000) : ∀ i : Nat, i ≤ xs.length → Ev (fun k => spec_l12Words.l0 k xs ys i) (eqW (xs.drop i) (ys.drop i))
  | i, hi => by
    refine Ev.step (spec_l12Words.l0.eq_2 _ _ _) ?_
    by_cases h : i < xs.length
    · refine ev_pos (by omega) (ev_pos (by omega) (ev_pos (by omega) ?_))
      rw [rdOf_at _ xs i h, rdOf_at _ ys i (by omega), w64s i (by omega)]
      by_cases he : xs[i] = ys[i]'(by omega)
      · refine ev_pos (by rw [he]) (ev_to (sWords_l xs ys hl hn (i + 1) (by omega)) ?_)
        unfold eqW
        simp only [drop_eq_iff xs ys i h (by omega), he, true_and]
      · refine ev_neg (fun hc => he (toList_inj hc)) (ev_now ?_)
        unfold eqW
        simp only [drop_eq_iff xs ys i h (by omega), he, false_and, decide_false]
    · refine ev_neg (by omega) (ev_now ?_)
      rw [List.drop_of_length_le (by omega), List.drop_of_length_le (by omega)]
      unfold eqW; simp
  termination_by i => xs.length - i
theorem sWords_ev (xs ys : List ByteArray) (hn : xs.length ≤ 4000000) : Ev (fun k => spec_l12Words.f k xs ys) (eqW xs ys) := by
  unfold spec_l12Words.f
  by_cases h : xs.length = ys.length
  · have := sWords_l xs ys h hn 0 (by omega)
    rw [List.drop_zero, List.drop_zero] at this
    exact ev_pos (by omega) this
  · refine ev_neg (by omega) (ev_now ?_)
    unfold eqW
    rw [decide_eq_false (fun hc => h (by rw [hc]))]

theorem iWords_l (xs ys : List ByteArray) (hl : xs.length = ys.length) (hn : xs.length ≤ 4000000) : ∀ i : Nat, i ≤ xs.length → Ev (fun k => slices_Equal_string.l0 k xs ys xs.length i) (eqW (xs.drop i) (ys.drop i))
  | i, hi => by
    refine Ev.step (slices_Equal_string.l0.eq_2 _ _ _ _) ?_
    by_cases h : i < xs.length
    · refine ev_pos (by omega) (ev_pos (by omega) (ev_pos (by omega) (ev_pos (by omega) ?_)))
      rw [rdOf_at _ xs i h, rdOf_at _ ys i (by omega), w64s i (by omega)]
      by_cases he : xs[i] = ys[i]'(by omega)
      · refine ev_pos (by rw [he]) (ev_to (iWords_l xs ys hl hn (i + 1) (by omega)) ?_)
        unfold eqW
        simp only [drop_eq_iff xs ys i h (by omega), he, true_and]
      · refine ev_neg (fun hc => he (toList_inj hc)) (ev_now ?_)
        unfold eqW
        simp only [drop_eq_iff xs ys i h (by omega), he, false_and, decide_false]
    · refine ev_neg (by omega) (ev_now ?_)
      rw [List.drop_of_length_le (by omega), List.drop_of_length_le (by omega)]
      unfold eqW; simp
  termination_by i => xs.length - i
theorem iWords_ev (xs ys : List ByteArray) (hn : xs.length ≤ 4000000) : Ev (fun k => slices_Equal_string.f k xs ys) (eqW xs ys) := by
  unfold slices_Equal_string.f
  by_cases h : xs.length = ys.length
  · have := iWords_l xs ys h hn 0 (by omega)
    rw [List.drop_zero, List.drop_zero] at this
    exact ev_pos (by omega) this
  · refine ev_neg (by omega) (ev_now ?_)
    unfold eqW
    rw [decide_eq_false (fun hc => h (by rw [hc]))]

/-! ### readinode -/
theorem naG1 (w : ByteArray) : naG w 1 0 0 = bt w 0 := by
  show 256 * 0 + bt w ((0 : Nat) : Int) = bt w 0
  rw [Int.mul_zero, Int.zero_add]; rfl
theorem rrV_size (w : ByteArray) : (rrV w).2.2.1.size ≤ 8 := by
  unfold rrV
  split
  · rename_i h; show (w.extract 4 w.size).size ≤ 8; rw [ByteArray.size_extract]; omega
  · exact Nat.zero_le _
theorem rnV_size (w : ByteArray) : (rnV w).2.1.size ≤ 8 := by
  unfold rnV
  split
  · unfold rnX
    split
    · have := trE_le w 8
      show (w.extract 1 (trE w 8)).size ≤ 8
      rw [ByteArray.size_extract]; omega
    · exact Nat.zero_le _
  · exact Nat.zero_le _
abbrev RI := Int × Int × Int × ByteArray × List S42 × List S47 × Bool
def riF : RI := (0, 0, 0, ⟨#[]⟩, [], [], false)
noncomputable def riT (ws : List ByteArray) (kd sz ct : Int) (mk : ByteArray) (rs : List S42) (es : List S47) : RI := if eqW (iwV kd sz ct mk rs es) ws = true then (kd, sz, ct, mk, rs, es, true) else riF
noncomputable def scV (kd : Int) : List ByteArray → List S42 → List S47 → Option (List S42 × List S47)
  | [], rs, es => some (rs, es)
  | w :: r, rs, es => if w.toList = (zb 8).toList then some (rs, es) else if kd = 1 then (if (rrV w).2.2.2 = true then scV kd r (rs ++ [⟨(rrV w).1, (rrV w).2.1, (rrV w).2.2.1⟩]) es else none) else if kd = 2 then (if (rnV w).2.2 = true then scV kd r rs (es ++ [⟨(rnV w).1, (rnV w).2.1⟩]) else none) else scV kd r rs es
noncomputable def riM (ws : List ByteArray) (kd sz ct : Int) (mk : ByteArray) (o : Option (List S42 × List S47)) : RI := match o with | some p => riT ws kd sz ct mk p.1 p.2 | none => riF
def riA (ws : List ByteArray) : ByteArray := rdOf ByteArray.empty ws 0
noncomputable def riV (ws : List ByteArray) : RI := if ws.length = 8 ∧ ∀ w ∈ ws, w.size = 8 then riM ws (naG (riA ws) 1 0 0) (naG (riA ws) 2 1 0) (naG (riA ws) 2 3 0) (if naG (riA ws) 1 0 0 = 1 then rdOf ByteArray.empty ws 1 else ⟨#[]⟩) (scV (naG (riA ws) 1 0 0) (ws.drop 2) [] []) else riF
theorem scV_other (kd : Int) (h1 : kd ≠ 1) (h2 : kd ≠ 2) : ∀ (ws : List ByteArray) (rs : List S42) (es : List S47), scV kd ws rs es = some (rs, es)
  | [], _, _ => rfl
  | w :: r, rs, es => by
    unfold scV
    split
    · rfl
    · first
      | exact scV_other kd h1 h2 r rs es
      | (rw [if_neg h1, if_neg h2]; exact scV_other kd h1 h2 r rs es)
theorem recG {kd : Int} : ∀ (ws : List ByteArray) (rs : List S42) (es : List S47) (p : List S42 × List S47), scV kd ws rs es = some p → (∀ y ∈ rs, y.f2.size ≤ 8) → (∀ y ∈ es, y.f1.size ≤ 8) → p.1.length ≤ rs.length + ws.length ∧ p.2.length ≤ es.length + ws.length ∧ (∀ y ∈ p.1, y.f2.size ≤ 8) ∧ (∀ y ∈ p.2, y.f1.size ≤ 8)
  | [], rs, es, p, h, hr, he => by
    cases h; exact ⟨Nat.le_refl _, Nat.le_refl _, hr, he⟩
  | w :: r, rs, es, p, h, hr, he => by
    unfold scV at h
    split at h
    · cases h; exact ⟨Nat.le_add_right _ _, Nat.le_add_right _ _, hr, he⟩
    · split at h
      · split at h
        · have := recG r _ _ p h (by
            intro y hy
            rcases List.mem_append.1 hy with hy | hy
            · exact hr y hy
            · rw [List.mem_singleton.1 hy]; exact rrV_size w) he
          simp only [List.length_append, List.length_cons, List.length_nil] at this ⊢
          exact ⟨by omega, by omega, this.2.2⟩
        · cases h
      · split at h
        · split at h
          · have := recG r _ _ p h hr (by
              intro y hy
              rcases List.mem_append.1 hy with hy | hy
              · exact he y hy
              · rw [List.mem_singleton.1 hy]; exact rnV_size w)
            simp only [List.length_append, List.length_cons, List.length_nil] at this ⊢
            exact ⟨by omega, by omega, this.2.2⟩
          · cases h
        · have := recG r _ _ p h hr he
          simp only [List.length_cons]
          exact ⟨by omega, by omega, this.2.2⟩
def RIs (v : RI) : Prop := v.2.2.2.2.1.length ≤ 8 ∧ v.2.2.2.2.2.1.length ≤ 8 ∧ (∀ y ∈ v.2.2.2.2.1, y.f2.size ≤ 8) ∧ (∀ y ∈ v.2.2.2.2.2.1, y.f1.size ≤ 8) ∧ v.2.2.2.1.size ≤ 8
theorem riF_s : RIs riF := by
  unfold RIs riF; exact ⟨Nat.zero_le _, Nat.zero_le _, by simp, by simp, Nat.zero_le _⟩
theorem riT_s (ws : List ByteArray) (kd sz ct : Int) (mk : ByteArray) (rs : List S42) (es : List S47) (hm : mk.size ≤ 8) (hr : rs.length ≤ 8) (he : es.length ≤ 8) (hs : ∀ y ∈ rs, y.f2.size ≤ 8) (hz : ∀ y ∈ es, y.f1.size ≤ 8) : RIs (riT ws kd sz ct mk rs es) := by
  unfold riT
  split
  · exact ⟨hr, he, hs, hz, hm⟩
  · exact riF_s
theorem riV_small (ws : List ByteArray) : RIs (riV ws) := by
  unfold riV
  split
  · rename_i hw
    have hm : (if naG (riA ws) 1 0 0 = 1 then rdOf ByteArray.empty ws 1 else (⟨#[]⟩ : ByteArray)).size ≤ 8 := by
      split
      · rw [show (1 : Int) = ((1 : Nat) : Int) from rfl, rdOf_at _ ws 1 (by omega), hw.2 _ (List.getElem_mem _)]; omega
      · exact Nat.zero_le _
    cases hs : scV (naG (riA ws) 1 0 0) (ws.drop 2) [] [] with
    | none => exact riF_s
    | some p =>
      have hg := recG _ _ _ p hs (by simp) (by simp)
      have hl : (ws.drop 2).length = 6 := by rw [List.length_drop]; omega
      rw [hl] at hg
      have h1 : p.1.length ≤ 8 := by have := hg.1; simp at this; omega
      have h2 : p.2.length ≤ 8 := by have := hg.2.1; simp at this; omega
      exact riT_s ws _ _ _ _ p.1 p.2 hm h1 h2 hg.2.2.1 hg.2.2.2
  · exact riF_s
theorem eq_riT (ws : List ByteArray) (kd sz ct : Int) (mk : ByteArray) (rs : List S42) (es : List S47) {F : Nat → Option RI} (h : eqW (iwV kd sz ct mk rs es) ws = true → Ev F (kd, sz, ct, mk, rs, es, true)) (h' : ¬ eqW (iwV kd sz ct mk rs es) ws = true → Ev F riF) : Ev F (riT ws kd sz ct mk rs es) := by
  unfold riT
  by_cases c : eqW (iwV kd sz ct mk rs es) ws = true
  · rw [if_pos c]; exact h c
  · rw [if_neg c]; exact h' c
theorem sRI_end (ws : List ByteArray) (z : ByteArray) (i : Int) (kd sz ct : Int) (mk : ByteArray) (rs : List S42) (es : List S47) (hm : mk.size ≤ 8) (hr : rs.length ≤ 8) (he : es.length ≤ 8) (hs : ∀ y ∈ rs, y.f2.size ≤ 8) (hz : ∀ y ∈ es, y.f1.size ≤ 8) : Ev (fun k => spec_ReadInode.j3 k ws z i false kd sz ct mk rs es) (riT ws kd sz ct mk rs es) := by
  refine Ev.step (spec_ReadInode.j3.eq_2 _ _ _ _ _ _ _ _ _ _) ?_
  have hl := iwV_len kd sz ct mk rs es
  refine ev_neg (by simp) (Ev.bind (sIW_ev kd sz ct mk rs es (by omega) (by omega) (by omega) (fun y hy => by have := hs y hy; omega) (fun y hy => by have := hz y hy; omega)) (Ev.bind (sWords_ev _ _ (by omega)) ?_))
  exact eq_riT ws kd sz ct mk rs es (fun c => ev_pos c (ev_now rfl)) (fun c => ev_neg c (ev_now rfl))
theorem sRI_l (ws : List ByteArray) (h8 : ws.length = 8) (hw : ∀ w ∈ ws, w.size = 8) (kd sz ct : Int) (mk : ByteArray) (hm : mk.size ≤ 8) : ∀ (f i : Nat) (rs : List S42) (es : List S47), i + f = 8 → rs.length ≤ i → es.length ≤ i → (∀ y ∈ rs, y.f2.size ≤ 8) → (∀ y ∈ es, y.f1.size ≤ 8) → Ev (fun k => spec_ReadInode.l1 k ws (zb 8) (i : Int) kd sz ct mk rs es) (riM ws kd sz ct mk (scV kd (ws.drop i) rs es))
  | 0, i, rs, es, hi, lr, le, hs, hz => by
    refine Ev.step (spec_ReadInode.l1.eq_2 _ _ _ _ _ _ _ _ _) ?_
    refine ev_neg (by omega) (ev_to (sRI_end ws (zb 8) (i : Int) kd sz ct mk rs es hm (by omega) (by omega) hs hz) ?_)
    rw [List.drop_of_length_le (by omega)]; rfl
  | f + 1, i, rs, es, hi, lr, le, hs, hz => by
    refine Ev.step (spec_ReadInode.l1.eq_2 _ _ _ _ _ _ _ _ _) ?_
    refine ev_pos (by omega) (ev_pos (by omega) (ev_pos (by omega) ?_))
    have hsz := hw ws[i] (List.getElem_mem _)
    rw [rdOf_at _ ws i (by omega), drop_at ws i (by omega)]
    unfold scV
    by_cases z : ws[i].toList = (zb 8).toList
    · rw [if_pos z, show (ws[i].toList != (zb 8).toList) = false by simp [z]]
      exact sRI_end ws (zb 8) (i : Int) kd sz ct mk rs es hm (by omega) (by omega) hs hz
    rw [if_neg z, show (ws[i].toList != (zb 8).toList) = true from bne_iff_ne.mpr z]
    refine Ev.step (spec_ReadInode.j3.eq_2 _ _ _ _ _ _ _ _ _ _) ?_
    refine ev_pos rfl ?_
    by_cases k1 : kd = 1
    · rw [if_pos k1, rdOf_at _ ws i (by omega)]
      refine ev_pos k1 (ev_pos (by omega) (ev_pos (by omega) (Ev.bind (sRR_ev ws[i] (by omega)) ?_)))
      by_cases ok : (rrV ws[i]).2.2.2 = true
      · rw [if_pos ok]
        refine ev_pos ok (ev_pos (by omega) ?_)
        refine Ev.step (spec_ReadInode.j4.eq_2 _ _ _ _ _ _ _ _ _) ?_
        refine ev_neg (by omega) ?_
        rw [w64s i (by omega)]
        refine sRI_l ws h8 hw kd sz ct mk hm f (i + 1) _ _ (by omega) (by simp; omega) (by omega) ?_ hz
        intro y hy
        rcases List.mem_append.1 hy with hy | hy
        · exact hs y hy
        · rw [List.mem_singleton.1 hy]; exact rrV_size _
      · rw [if_neg ok]; exact ev_neg ok (ev_now rfl)
    rw [if_neg k1]
    refine ev_neg k1 ?_
    refine Ev.step (spec_ReadInode.j4.eq_2 _ _ _ _ _ _ _ _ _) ?_
    rw [w64s i (by omega)]
    by_cases k2 : kd = 2
    · rw [if_pos k2, rdOf_at _ ws i (by omega)]
      refine ev_pos k2 (ev_pos (by omega) (ev_pos (by omega) (Ev.bind (sRN_ev ws[i]) ?_)))
      by_cases ok : (rnV ws[i]).2.2 = true
      · rw [if_pos ok]
        refine ev_pos ok (ev_pos (by omega) ?_)
        refine sRI_l ws h8 hw kd sz ct mk hm f (i + 1) _ _ (by omega) (by omega) (by simp; omega) hs ?_
        intro y hy
        rcases List.mem_append.1 hy with hy | hy
        · exact hz y hy
        · rw [List.mem_singleton.1 hy]; exact rnV_size _
      · rw [if_neg ok]; exact ev_neg ok (ev_now rfl)
    · rw [if_neg k2]
      exact ev_neg k2 (sRI_l ws h8 hw kd sz ct mk hm f (i + 1) rs es (by omega) (by omega) (by omega) hs hz)
theorem sRI_bad (ws : List ByteArray) (h8 : ws.length = 8) : ∀ (f i : Nat), i + f = 8 → (∃ w ∈ ws.drop i, w.size ≠ 8) → Ev (fun k => spec_ReadInode.l0 k ws (i : Int)) riF
  | 0, i, hi, hx => by
    rw [List.drop_of_length_le (by omega)] at hx
    obtain ⟨w, hw, _⟩ := hx
    cases hw
  | f + 1, i, hi, hx => by
    refine Ev.step (spec_ReadInode.l0.eq_2 _ _) ?_
    refine ev_pos (by omega) (ev_pos (by omega) (ev_pos (by omega) ?_))
    rw [rdOf_at _ ws i (by omega), w64s i (by omega)]
    by_cases c : ws[i].size = 8
    · refine ev_pos (by omega) (sRI_bad ws h8 f (i + 1) (by omega) ?_)
      rw [drop_at ws i (by omega)] at hx
      obtain ⟨w, hw, hn⟩ := hx
      rcases List.mem_cons.1 hw with rfl | hw
      · exact absurd c hn
      · exact ⟨w, hw, hn⟩
    · exact ev_neg (by omega) (ev_now rfl)
theorem sRI_good (ws : List ByteArray) (h8 : ws.length = 8) (hw : ∀ w ∈ ws, w.size = 8) : ∀ (f i : Nat), i + f = 8 → Ev (fun k => spec_ReadInode.l0 k ws (i : Int)) (riV ws)
  | 0, i, hi => by
    refine Ev.step (spec_ReadInode.l0.eq_2 _ _) ?_
    have hA : riA ws = ws[0] := rdOf_at _ ws 0 (by omega)
    have hA8 : (riA ws).size = 8 := by rw [hA]; exact hw _ (List.getElem_mem _)
    have hl := b_len (riA ws)
    have hb := bt_byte (riA ws) 0 (by omega)
    unfold riV
    rw [if_pos ⟨h8, hw⟩]
    show Ev _ (riM ws _ _ _ _ _)
    have hA0 : rdOf ByteArray.empty ws 0 = riA ws := rfl
    rw [hA0]
    refine ev_neg (by omega) (ev_pos (by omega) (ev_pos (by omega) (Ev.bind (sNA_ev (riA ws) (by omega) 1 2 (by omega) (by omega) (by omega)) (Ev.bind (sNA_ev (riA ws) (by omega) 3 2 (by omega) (by omega) (by omega)) (Ev.bind (zeroText_ev 8 (by omega)) ?_)))))
    rw [naG1, w64 (x := bt (riA ws) 0) (by have := hb.1; simpa using (by omega : (-9223372036854775808 : Int) ≤ bt (riA ws) ((0 : Nat) : Int))) (by have := hb.2; simpa using (by omega : bt (riA ws) ((0 : Nat) : Int) < (9223372036854775808 : Int)))]
    by_cases k1 : bt (riA ws) 0 = 1
    · rw [if_pos k1]
      refine ev_pos k1 (ev_pos (by omega) ?_)
      refine Ev.step (spec_ReadInode.j1.eq_2 _ _ _ _ _ _) ?_
      refine sRI_l ws h8 hw _ _ _ _ ?_ 6 2 [] [] (by omega) (by simp) (by simp) (by simp) (by simp)
      rw [show (1 : Int) = ((1 : Nat) : Int) from rfl, rdOf_at _ ws 1 (by omega), hw _ (List.getElem_mem _)]
      exact Nat.le_refl _
    · rw [if_neg k1]
      refine ev_neg k1 ?_
      refine Ev.step (spec_ReadInode.j1.eq_2 _ _ _ _ _ _) ?_
      exact sRI_l ws h8 hw _ _ _ _ (Nat.zero_le _) 6 2 [] [] (by omega) (by simp) (by simp) (by simp) (by simp)
  | f + 1, i, hi => by
    refine Ev.step (spec_ReadInode.l0.eq_2 _ _) ?_
    refine ev_pos (by omega) (ev_pos (by omega) (ev_pos (by omega) ?_))
    rw [rdOf_at _ ws i (by omega), w64s i (by omega)]
    have := hw ws[i] (List.getElem_mem _)
    exact ev_pos (by omega) (sRI_good ws h8 hw f (i + 1) (by omega))
theorem sRI_ev (ws : List ByteArray) : Ev (fun k => spec_ReadInode.f k ws) (riV ws) := by
  unfold spec_ReadInode.f
  by_cases h8 : ws.length = 8
  · refine ev_pos (by omega) ?_
    by_cases hw : ∀ w ∈ ws, w.size = 8
    · exact sRI_good ws h8 hw 8 0 (by omega)
    · refine ev_to (sRI_bad ws h8 8 0 (by omega) ?_) (if_neg (fun h => hw h.2)).symm
      rw [List.drop_zero]
      simpa using hw
  · exact ev_neg (by omega) (ev_now (if_neg (fun h => h8 h.1)).symm)

theorem cf_all (ws : List ByteArray) (hn : ws.length ≤ 4000000) (hw : ∀ w ∈ ws, w.size = 8) : ∀ (f i : Nat), i + f = ws.length → Ev (fun k => slices_IndexFunc_string.l0 k ws (ws.length : Int) (i : Int)) (-1)
  | 0, i, hi => by
    refine Ev.step (slices_IndexFunc_string.l0.eq_2 _ _ _) ?_
    exact ev_neg (by omega) (ev_now rfl)
  | f + 1, i, hi => by
    refine Ev.step (slices_IndexFunc_string.l0.eq_2 _ _ _) ?_
    have := hw ws[i] (List.getElem_mem _)
    rw [rdOf_at _ ws i (by omega), w64s i (by omega)]
    refine ev_pos (by omega) (ev_pos (by omega) (ev_pos (by omega) (Ev.bind (ev_eq rfl) (ev_neg (by simp [this]) (cf_all ws hn hw f (i + 1) (by omega))))))
theorem cf_some (ws : List ByteArray) (hn : ws.length ≤ 4000000) : ∀ (f i : Nat), i + f = ws.length → (∃ w ∈ ws.drop i, w.size ≠ 8) → ∃ m : Nat, Ev (fun k => slices_IndexFunc_string.l0 k ws (ws.length : Int) (i : Int)) (m : Int)
  | 0, i, hi, hx => by
    rw [List.drop_of_length_le (by omega)] at hx
    obtain ⟨w, hw, _⟩ := hx
    cases hw
  | f + 1, i, hi, hx => by
    by_cases c : ws[i].size = 8
    · obtain ⟨m, hm⟩ := cf_some ws hn f (i + 1) (by omega) (by
        rw [drop_at ws i (by omega)] at hx
        obtain ⟨w, hw, hn⟩ := hx
        rcases List.mem_cons.1 hw with rfl | hw
        · exact absurd c hn
        · exact ⟨w, hw, hn⟩)
      refine ⟨m, ?_⟩
      refine Ev.step (slices_IndexFunc_string.l0.eq_2 _ _ _) ?_
      rw [rdOf_at _ ws i (by omega), w64s i (by omega)]
      exact ev_pos (by omega) (ev_pos (by omega) (ev_pos (by omega) (Ev.bind (ev_eq rfl) (ev_neg (by simp [c]) hm))))
    · refine ⟨i, ?_⟩
      refine Ev.step (slices_IndexFunc_string.l0.eq_2 _ _ _) ?_
      rw [rdOf_at _ ws i (by omega)]
      exact ev_pos (by omega) (ev_pos (by omega) (ev_pos (by omega) (Ev.bind (ev_eq rfl) (ev_pos (by simpa using (by omega : ¬ ((ws[i].size : Int) = 8))) (ev_now rfl)))))
theorem iRI_end (ws : List ByteArray) (h8 : ws.length = 8) (kd sz ct : Int) (mk : ByteArray) (rs : List S42) (es : List S47) (hm : mk.size ≤ 8) (hr : rs.length ≤ 8) (he : es.length ≤ 8) (hs : ∀ y ∈ rs, y.f2.size ≤ 8) (hz : ∀ y ∈ es, y.f1.size ≤ 8) : Ev (fun k => impl_ReadInode.j4 k ws kd sz ct mk rs es) (riT ws kd sz ct mk rs es) := by
  refine Ev.step (impl_ReadInode.j4.eq_2 _ _ _ _ _ _ _) ?_
  have hl := iwV_len kd sz ct mk rs es
  refine Ev.bind (iOkI_ev kd sz ct mk rs es (by omega) (by omega) (fun y hy => by have := hs y hy; omega) (fun y hy => by have := hz y hy; omega)) ?_
  have hv : iwV kd sz ct mk rs es = if okI kd sz ct mk rs es = true then fil8 ([wdT (nt kd 1 ++ nt sz 2 ++ nt ct 2), wdT mk] ++ rcW rs ++ enW es) else [] := rfl
  by_cases c : okI kd sz ct mk rs es = true
  · rw [if_pos c] at hv
    refine ev_pos c (Ev.bind (iIT_ev kd sz ct mk rs es (by omega) (by omega) (by omega) (fun y hy => by have := hs y hy; omega) (fun y hy => by have := hz y hy; omega)) ?_)
    rw [← hv]
    refine Ev.bind (iWords_ev _ _ (by omega)) ?_
    exact eq_riT ws kd sz ct mk rs es (fun c => ev_pos c (ev_now rfl)) (fun c => ev_neg c (ev_now rfl))
  · rw [if_neg c] at hv
    refine ev_neg c (ev_now ?_)
    unfold riT
    rw [if_neg]
    · rfl
    · intro hc
      unfold eqW at hc
      have := of_decide_eq_true hc
      rw [← this, hv] at h8
      cases h8
theorem iRI_l (ws : List ByteArray) (h8 : ws.length = 8) (hw : ∀ w ∈ ws, w.size = 8) (kd sz ct : Int) (mk : ByteArray) (hm : mk.size ≤ 8) (hk : kd = 1 ∨ kd = 2) : ∀ (f i : Nat) (rs : List S42) (es : List S47), i + f = 6 → rs.length ≤ i → es.length ≤ i → (∀ y ∈ rs, y.f2.size ≤ 8) → (∀ y ∈ es, y.f1.size ≤ 8) → Ev (fun k => impl_ReadInode.l0 k ws (ws.drop 2) ((ws.drop 2).length : Int) (i : Int) kd sz ct mk rs es) (riM ws kd sz ct mk (scV kd ((ws.drop 2).drop i) rs es))
  | 0, i, rs, es, hi, lr, le, hs, hz => by
    have hd : (ws.drop 2).length = 6 := by rw [List.length_drop]; omega
    refine Ev.step (impl_ReadInode.l0.eq_2 _ _ _ _ _ _ _ _ _ _) ?_
    refine ev_neg (by omega) (ev_to (iRI_end ws h8 kd sz ct mk rs es hm (by omega) (by omega) hs hz) ?_)
    rw [show (ws.drop 2).drop i = [] from List.drop_of_length_le (by omega)]; rfl
  | f + 1, i, rs, es, hi, lr, le, hs, hz => by
    have hd : (ws.drop 2).length = 6 := by rw [List.length_drop]; omega
    refine Ev.step (impl_ReadInode.l0.eq_2 _ _ _ _ _ _ _ _ _ _) ?_
    refine ev_pos (by omega) (ev_pos (by omega) (ev_pos (by omega) (Ev.bind (ev_eq zeroWord_eq) ?_)))
    have hsz : ((ws.drop 2)[i]'(by omega)).size = 8 := hw _ (List.mem_of_mem_drop (List.getElem_mem _))
    rw [rdOf_at _ (ws.drop 2) i (by omega), drop_at (ws.drop 2) i (by omega)]
    generalize (ws.drop 2)[i]'(by omega) = w at hsz
    unfold scV
    by_cases z : w.toList = (zb 8).toList
    · rw [if_pos z]
      exact ev_pos z (iRI_end ws h8 kd sz ct mk rs es hm (by omega) (by omega) hs hz)
    rw [if_neg z]
    refine ev_neg z (Ev.bind (iRR_ev w (by omega)) (Ev.bind (iRN_ev w) ?_))
    rcases hk with k1 | k2
    · rw [if_pos k1]
      refine ev_pos k1 ?_
      refine Ev.step (impl_ReadInode.j3.eq_2 _ _ _ _ _ _ _ _ _ _ _ _ _ _ _ _ _) ?_
      by_cases ok : (rrV w).2.2.2 = true
      · rw [if_pos ok]
        refine ev_pos ok (ev_pos (by omega) ?_)
        rw [w64s i (by omega)]
        refine iRI_l ws h8 hw kd sz ct mk hm (.inl k1) f (i + 1) _ _ (by omega) (by simp; omega) (by omega) ?_ hz
        intro y hy
        rcases List.mem_append.1 hy with hy | hy
        · exact hs y hy
        · rw [List.mem_singleton.1 hy]; exact rrV_size _
      · rw [if_neg ok]; exact ev_neg ok (ev_neg (by omega) (ev_now rfl))
    · rw [if_neg (by omega : ¬ kd = 1), if_pos k2]
      refine ev_neg (by omega) ?_
      refine Ev.step (impl_ReadInode.j3.eq_2 _ _ _ _ _ _ _ _ _ _ _ _ _ _ _ _ _) ?_
      refine ev_neg (by simp) (ev_pos k2 ?_)
      by_cases ok : (rnV w).2.2 = true
      · rw [if_pos ok]
        refine ev_pos ok (ev_pos (by omega) ?_)
        rw [w64s i (by omega)]
        refine iRI_l ws h8 hw kd sz ct mk hm (.inr k2) f (i + 1) _ _ (by omega) (by omega) (by simp; omega) hs ?_
        intro y hy
        rcases List.mem_append.1 hy with hy | hy
        · exact hz y hy
        · rw [List.mem_singleton.1 hy]; exact rnV_size _
      · rw [if_neg ok]; exact ev_neg ok (ev_now rfl)
theorem iwV_none (ws : List ByteArray) (h8 : ws.length = 8) (kd sz ct : Int) (mk : ByteArray) (h : eqW (iwV kd sz ct mk [] []) ws = true) : ws[2].toList = (zb 8).toList := by
  unfold eqW at h
  have h := of_decide_eq_true h
  unfold iwV at h
  split at h
  · unfold fil8 rcW enW at h
    subst h
    simp
  · rw [← h] at h8; cases h8
theorem iRI_o (ws : List ByteArray) (h8 : ws.length = 8) (hw : ∀ w ∈ ws, w.size = 8) (kd sz ct : Int) (mk : ByteArray) (hm : mk.size ≤ 8) (k1 : kd ≠ 1) (k2 : kd ≠ 2) : Ev (fun k => impl_ReadInode.l0 k ws (ws.drop 2) ((ws.drop 2).length : Int) 0 kd sz ct mk [] []) (riT ws kd sz ct mk [] []) := by
  have hd : (ws.drop 2).length = 6 := by rw [List.length_drop]; omega
  refine Ev.step (impl_ReadInode.l0.eq_2 _ _ _ _ _ _ _ _ _ _) ?_
  refine ev_pos (by omega) (ev_pos (by omega) (ev_pos (by omega) (Ev.bind (ev_eq zeroWord_eq) ?_)))
  have hr : rdOf ByteArray.empty (ws.drop 2) 0 = ws[2] := by
    rw [show (0 : Int) = ((0 : Nat) : Int) from rfl, rdOf_at _ (ws.drop 2) 0 (by omega), List.getElem_drop]
  rw [hr]
  have hsz := hw ws[2] (List.getElem_mem _)
  by_cases z : ws[2].toList = (zb 8).toList
  · exact ev_pos z (iRI_end ws h8 kd sz ct mk [] [] hm (by simp) (by simp) (by simp) (by simp))
  · refine ev_neg z (Ev.bind (iRR_ev _ (by omega)) (Ev.bind (iRN_ev _) (ev_neg k1 ?_)))
    refine Ev.step (impl_ReadInode.j3.eq_2 _ _ _ _ _ _ _ _ _ _ _ _ _ _ _ _ _) ?_
    refine ev_neg (by simp) (ev_neg k2 (ev_now ?_))
    unfold riT
    rw [if_neg (fun hc => z (iwV_none ws h8 kd sz ct mk hc))]
    rfl
theorem iRI_main (ws : List ByteArray) (h8 : ws.length = 8) (hw : ∀ w ∈ ws, w.size = 8) : Ev (fun k => impl_ReadInode.j0 k ws false) (riV ws) := by
  refine Ev.step (impl_ReadInode.j0.eq_2 _ _) ?_
  have hA : riA ws = ws[0] := rdOf_at _ ws 0 (by omega)
  have hA8 : (riA ws).size = 8 := by rw [hA]; exact hw _ (List.getElem_mem _)
  have hA0 : rdOf ByteArray.empty ws 0 = riA ws := rfl
  unfold riV
  rw [if_pos ⟨h8, hw⟩, hA0]
  refine ev_neg (by simp) (ev_pos (by omega) (Ev.bind (iNA_ev (riA ws) (by omega) 0 1 (by omega) (by omega) (by omega)) (Ev.bind (iNA_ev (riA ws) (by omega) 1 2 (by omega) (by omega) (by omega)) (Ev.bind (iNA_ev (riA ws) (by omega) 3 2 (by omega) (by omega) (by omega)) ?_))))
  have main : ∀ (kd sz ct : Int) (mk : ByteArray), mk.size ≤ 8 → Ev (fun k => impl_ReadInode.j1 k ws kd sz ct mk) (riM ws kd sz ct mk (scV kd (ws.drop 2) [] [])) := by
    intro kd sz ct mk hm
    refine Ev.step (impl_ReadInode.j1.eq_2 _ _ _ _ _) ?_
    refine ev_pos (by omega) ?_
    by_cases hk : kd = 1 ∨ kd = 2
    · exact iRI_l ws h8 hw kd sz ct mk hm hk 6 0 [] [] (by omega) (by simp) (by simp) (by simp) (by simp)
    · rw [scV_other kd (by omega) (by omega)]
      exact iRI_o ws h8 hw kd sz ct mk hm (by omega) (by omega)
  by_cases k1 : naG (riA ws) 1 0 0 = 1
  · rw [if_pos k1]
    refine ev_pos k1 (ev_pos (by omega) (main _ _ _ _ ?_))
    rw [show (1 : Int) = ((1 : Nat) : Int) from rfl, rdOf_at _ ws 1 (by omega), hw _ (List.getElem_mem _)]
    exact Nat.le_refl _
  · rw [if_neg k1]
    exact ev_neg k1 (main _ _ _ _ (Nat.zero_le _))
theorem iRI_ev (ws : List ByteArray) (hn : ws.length ≤ 4000000) : Ev (fun k => impl_ReadInode.f k ws) (riV ws) := by
  unfold impl_ReadInode.f
  by_cases h8 : ws.length = 8
  · refine ev_pos (by omega) ?_
    unfold slices_ContainsFunc_string.f slices_IndexFunc_string.f
    by_cases hw : ∀ w ∈ ws, w.size = 8
    · exact Ev.bind (Ev.bind (cf_all ws hn hw ws.length 0 (by omega)) (ev_now rfl)) (ev_to (iRI_main ws h8 hw) rfl)
    · obtain ⟨m, hm⟩ := cf_some ws hn ws.length 0 (by omega) (by rw [List.drop_zero]; simpa using hw)
      refine Ev.bind (Ev.bind hm (ev_now rfl)) ?_
      rw [decide_eq_true (show (m : Int) ≥ 0 by omega)]
      refine Ev.step (impl_ReadInode.j0.eq_2 _ _) ?_
      exact ev_pos rfl (ev_now (if_neg (fun h => hw h.2)).symm)
  · refine ev_neg (by omega) ?_
    refine Ev.step (impl_ReadInode.j0.eq_2 _ _) ?_
    exact ev_pos rfl (ev_now (if_neg (fun h => h8 h.1)).symm)

/-! ### inoderound -/
def ntL (n : Int) (w : Nat) : List UInt8 := (dn n w).map fun n => UInt8.ofNat n.toNat
theorem nt_list (n : Int) (w : Nat) (h : ntOk n w) : (nt n w).data.toList = ntL n w := by
  unfold nt
  rw [if_pos h]; rfl
theorem ntL_len (n : Int) (w : Nat) : (ntL n w).length = w := by unfold ntL; rw [List.length_map, dn_len]
theorem u8of (x : Int) (h0 : 0 ≤ x) (h1 : x ≤ 255) : ((UInt8.ofNat x.toNat).toNat : Int) = x := by
  rw [UInt8.toNat_ofNat']; omega
theorem dg_range (n : Int) (i : Nat) : 0 ≤ dg n i ∧ dg n i ≤ 255 := by unfold dg; omega
theorem bt_in (s : ByteArray) (a b : List UInt8) (v : Int) (w : Nat) (hs : s.data.toList = a ++ ntL v w ++ b) (j : Nat) (hj : j < w) : bt s ((a.length + j : Nat) : Int) = dg v (w - 1 - j) := by
  have hl : a.length + j < s.data.toList.length := by rw [hs]; simp [ntL_len]; omega
  have hd : j < (dn v w).length := by rw [dn_len]; exact hj
  rw [btn s (a.length + j) hl, List.getElem_of_eq hs hl, List.getElem_append_left (by simp [ntL_len]; omega), List.getElem_append_right (by omega)]
  simp only [Nat.add_sub_cancel_left, ntL, List.getElem_map]
  rw [dn_get v w j hd]
  exact u8of _ (dg_range _ _).1 (dg_range _ _).2
theorem na1 (s : ByteArray) (a b : List UInt8) (v : Int) (hs : s.data.toList = a ++ ntL v 1 ++ b) (h0 : 0 ≤ v) (h1 : v < 256) : naG s 1 a.length 0 = v := by
  have k0 := bt_in s a b v 1 hs 0 (by omega)
  rw [Nat.add_zero] at k0
  simp only [naG, k0, dg]
  simp; omega
theorem na2 (s : ByteArray) (a b : List UInt8) (v : Int) (hs : s.data.toList = a ++ ntL v 2 ++ b) (h0 : 0 ≤ v) (h1 : v < 65536) : naG s 2 a.length 0 = v := by
  have k0 := bt_in s a b v 2 hs 0 (by omega)
  have k1 := bt_in s a b v 2 hs 1 (by omega)
  rw [Nat.add_zero] at k0
  simp only [naG, k0, k1, dg]
  simp; omega
theorem na3 (s : ByteArray) (a b : List UInt8) (v : Int) (hs : s.data.toList = a ++ ntL v 3 ++ b) (h0 : 0 ≤ v) (h1 : v < 16777216) : naG s 3 a.length 0 = v := by
  have k0 := bt_in s a b v 3 hs 0 (by omega)
  have k1 := bt_in s a b v 3 hs 1 (by omega)
  have k2 := bt_in s a b v 3 hs 2 (by omega)
  rw [Nat.add_zero] at k0
  simp only [naG, k0, k1, show a.length + 1 + 1 = a.length + 2 from rfl, k2, dg]
  simp; omega
/-- A Rec's word is read back. -/
theorem rr_round (a b : Int) (t : ByteArray) (h : (1 ≤ a ∧ a ≤ 12) ∧ (1 ≤ b ∧ b ≤ 16777215) ∧ t.size = 4) : rrV (recV a b t) = (a, b, t, true) ∧ (recV a b t).size = 8 ∧ bt (recV a b t) 0 = a := by
  obtain ⟨ha, hb, ht⟩ := h
  have e : (recV a b t) = nt a 1 ++ nt b 3 ++ t := if_pos ⟨ha, hb, ht⟩
  have na : ntOk a 1 := ⟨by omega, by omega, by omega, by omega⟩
  have nb : ntOk b 3 := ⟨by omega, by omega, by omega, by omega⟩
  have hl : (recV a b t).data.toList = ntL a 1 ++ ntL b 3 ++ t.data.toList := by rw [e, b_app, b_app, nt_list a 1 na, nt_list b 3 nb]
  have hs : (recV a b t).size = 8 := by rw [← b_len, hl]; simp only [List.length_append, ntL_len, b_len]; omega
  have g1 : naG (recV a b t) 1 0 0 = a := na1 _ [] (ntL b 3 ++ t.data.toList) a (by rw [hl]; simp) (by omega) (by omega)
  have g2 : naG (recV a b t) 3 1 0 = b := by
    have := na3 (recV a b t) (ntL a 1) t.data.toList b (by rw [hl]) (by omega) (by omega)
    rw [ntL_len] at this; exact this
  have g3 : (recV a b t).extract 4 (recV a b t).size = t := by
    refine b_inj ?_
    rw [b_cut, hl, List.take_of_length_le (by rw [hs]; simp only [List.length_append, ntL_len, b_len]; omega)]
    rw [List.drop_append_of_le_length (by simp [ntL_len]), List.drop_of_length_le (by simp [ntL_len])]
    simp
  have g4 : bt (recV a b t) 0 = a := by
    have := g1
    simp only [naG] at this
    simpa using this
  refine ⟨?_, hs, g4⟩
  unfold rrV
  rw [g1, g2, g3, if_pos ⟨hs, rfl⟩]
theorem trE_at (w : ByteArray) (m : Nat) (h2 : 2 ≤ m) (hb : bt w ((m - 1 : Nat) : Int) ≠ 0) : ∀ j : Nat, (∀ q, q < j → bt w ((m + q : Nat) : Int) = 0) → trE w (m + j) = m
  | 0, _ => by
    obtain ⟨e, rfl⟩ : ∃ e, m = e + 1 := ⟨m - 1, by omega⟩
    rw [Nat.add_zero]
    unfold trE
    rw [if_neg (fun h => hb (by simpa using h.2))]
  | j + 1, hz => by
    rw [show m + (j + 1) = (m + j) + 1 from rfl]
    unfold trE
    rw [if_pos ⟨by omega, hz j (by omega)⟩]
    exact trE_at w m h2 hb j (fun q hq => hz q (by omega))
theorem wdT_list (s : ByteArray) (h : s.size ≤ 8) : (wdT s).data.toList = s.data.toList ++ List.replicate (8 - s.size) 0 := by
  unfold wdT
  rw [if_neg (by omega), b_app, zb_list]
theorem wdT_size (s : ByteArray) (h : s.size ≤ 8) : (wdT s).size = 8 := by
  rw [← b_len, wdT_list s h]
  simp only [List.length_append, b_len, List.length_replicate]; omega
/-- An Entry's word is read back. -/
theorem rn_round (a : Int) (t : ByteArray) (h : (1 ≤ a ∧ a ≤ 5) ∧ nmV t = true) : rnV (enV a t) = (a, t, true) ∧ (enV a t).size = 8 ∧ bt (enV a t) 0 = a := by
  obtain ⟨ha, hn⟩ := h
  have e : enV a t = wdT (nt a 1 ++ t) := if_pos ⟨ha, hn⟩
  have hn' := hn
  unfold nmV at hn'
  simp only [Bool.and_eq_true, decide_eq_true_eq, List.all_eq_true] at hn'
  obtain ⟨hall, h1, h7⟩ := hn'
  have na : ntOk a 1 := ⟨by omega, by omega, by omega, by omega⟩
  have hs0 : (nt a 1 ++ t).size = 1 + t.size := by rw [← b_len, b_app, nt_list a 1 na, List.length_append, ntL_len, b_len]
  have hl : (enV a t).data.toList = ntL a 1 ++ t.data.toList ++ List.replicate (7 - t.size) 0 := by
    rw [e, wdT_list _ (by omega), b_app, nt_list a 1 na, hs0, show 8 - (1 + t.size) = 7 - t.size by omega]
  have hs : (enV a t).size = 8 := by rw [e]; exact wdT_size _ (by omega)
  have g1 : naG (enV a t) 1 0 0 = a := na1 _ [] (t.data.toList ++ List.replicate (7 - t.size) 0) a (by rw [hl]; simp) (by omega) (by omega)
  have g4 : bt (enV a t) 0 = a := by
    have := g1
    simp only [naG] at this
    simpa using this
  have hlen : (enV a t).data.toList.length = 8 := by rw [b_len]; exact hs
  have tl := b_len t
  have n1 : (ntL a 1).length = 1 := ntL_len a 1
  have hb : bt (enV a t) ((1 + t.size - 1 : Nat) : Int) ≠ 0 := by
    rw [btn _ (1 + t.size - 1) (by omega), List.getElem_of_eq hl, List.getElem_append_left (by simp only [List.length_append, ntL_len, tl]; omega), List.getElem_append_right (by omega)]
    have hm : t.data.toList[1 + t.size - 1 - (ntL a 1).length]'(by omega) ∈ t.data.toList := List.getElem_mem _
    have := hall _ hm
    unfold nmB at this
    simp only [Bool.or_eq_true, decide_eq_true_eq] at this
    omega
  have hz : ∀ q, q < 7 - t.size → bt (enV a t) ((1 + t.size + q : Nat) : Int) = 0 := by
    intro q hq
    rw [btn _ (1 + t.size + q) (by omega), List.getElem_of_eq hl, List.getElem_append_right (by simp only [List.length_append, ntL_len, tl]; omega)]
    simp
  have g5 : trE (enV a t) 8 = 1 + t.size := by
    have := trE_at (enV a t) (1 + t.size) (by omega) hb (7 - t.size) hz
    rw [show 1 + t.size + (7 - t.size) = 8 by omega] at this
    exact this
  have g3 : (enV a t).extract 1 (1 + t.size) = t := by
    refine b_inj ?_
    rw [b_cut, hl, List.take_append_of_le_length (by rw [List.length_append, n1, tl]; omega), List.take_of_length_le (by rw [List.length_append, n1, tl]; omega)]
    rw [List.drop_append_of_le_length (by omega), List.drop_of_length_le (by omega), List.nil_append]
  refine ⟨?_, hs, g4⟩
  unfold rnV
  rw [if_pos hs, g5]
  unfold rnX
  rw [g4, g3, if_pos rfl]
theorem zb8_bt : bt (zb 8) 0 = 0 := by
  have h : (0 : Nat) < (zb 8).data.toList.length := by rw [zb_list]; simp
  have := btn (zb 8) 0 h
  rw [List.getElem_of_eq (zb_list 8)] at this
  simpa using this
theorem ne_zb {w : ByteArray} (h : 1 ≤ bt w 0) : w.toList ≠ (zb 8).toList := by
  intro c
  rw [toList_inj c, zb8_bt] at h
  omega
theorem sc_rest (kd : Int) (m : Nat) (rs : List S42) (es : List S47) : scV kd (List.replicate m (zb 8)) rs es = some (rs, es) := by
  cases m with
  | zero => rfl
  | succ m => rw [List.replicate_succ]; unfold scV; rw [if_pos rfl]
theorem sc_recs (m : Nat) (es : List S47) : ∀ (qs rs : List S42), (∀ y ∈ qs, (1 ≤ y.f0 ∧ y.f0 ≤ 12) ∧ (1 ≤ y.f1 ∧ y.f1 ≤ 16777215) ∧ y.f2.size = 4) → scV 1 (rcW qs ++ List.replicate m (zb 8)) rs es = some (rs ++ qs, es)
  | [], rs, _ => by rw [show rcW [] = [] from rfl, List.nil_append, sc_rest, List.append_nil]
  | y :: qs, rs, h => by
    have hy := rr_round _ _ _ (h y (by simp))
    have hv := (h y (by simp)).1.1
    rw [show rcW (y :: qs) = recV y.f0 y.f1 y.f2 :: rcW qs from rfl, List.cons_append]
    unfold scV
    rw [if_neg (ne_zb (by rw [hy.2.2]; exact hv)), if_pos rfl, hy.1, if_pos rfl, sc_recs m es qs _ (fun z hz => h z (by simp [hz])), List.append_assoc]
    rfl
theorem sc_ents (m : Nat) (rs : List S42) : ∀ (qs es : List S47), (∀ y ∈ qs, (1 ≤ y.f0 ∧ y.f0 ≤ 5) ∧ nmV y.f1 = true) → scV 2 (enW qs ++ List.replicate m (zb 8)) rs es = some (rs, es ++ qs)
  | [], es, _ => by rw [show enW [] = [] from rfl, List.nil_append, sc_rest, List.append_nil]
  | y :: qs, es, h => by
    have hy := rn_round _ _ (h y (by simp))
    have hv := (h y (by simp)).1.1
    rw [show enW (y :: qs) = enV y.f0 y.f1 :: enW qs from rfl, List.cons_append]
    unfold scV
    rw [if_neg (ne_zb (by rw [hy.2.2]; exact hv)), if_neg (by decide), if_pos rfl, hy.1, if_pos rfl, sc_ents m rs qs _ (fun z hz => h z (by simp [hz])), List.append_assoc]
    rfl
theorem recV_ok {a b : Int} {t : ByteArray} (h : (recV a b t).toList ≠ ([] : List UInt8)) : (1 ≤ a ∧ a ≤ 12) ∧ (1 ≤ b ∧ b ≤ 16777215) ∧ t.size = 4 := by
  by_cases c : (1 ≤ a ∧ a ≤ 12) ∧ (1 ≤ b ∧ b ≤ 16777215) ∧ t.size = 4
  · exact c
  · exact absurd (by rw [show recV a b t = ⟨#[]⟩ from if_neg c, b_toList]) h
theorem enV_ok {a : Int} {t : ByteArray} (h : (enV a t).toList ≠ ([] : List UInt8)) : (1 ≤ a ∧ a ≤ 5) ∧ nmV t = true := by
  by_cases c : (1 ≤ a ∧ a ≤ 5) ∧ nmV t = true
  · exact c
  · exact absurd (by rw [show enV a t = ⟨#[]⟩ from if_neg c, b_toList]) h
theorem rcAll_all (rs : List S42) : ∀ f i : Nat, i + f = rs.length → rcAll rs f i = true → ∀ y ∈ rs.drop i, (1 ≤ y.f0 ∧ y.f0 ≤ 12) ∧ (1 ≤ y.f1 ∧ y.f1 ≤ 16777215) ∧ y.f2.size = 4
  | 0, i, hf, _, y, hy => by rw [List.drop_of_length_le (by omega)] at hy; cases hy
  | f + 1, i, hf, h, y, hy => by
    unfold rcAll at h
    rw [rdiRec rs i (by omega)] at h
    split at h
    · cases h
    · rename_i h1
      split at h
      · cases h
      · rw [drop_at rs i (by omega)] at hy
        rcases List.mem_cons.1 hy with rfl | hy
        · exact recV_ok h1
        · exact rcAll_all rs f (i + 1) (by omega) h y hy
theorem enAll_all (es : List S47) : ∀ f i : Nat, i + f = es.length → enAll es f i = true → ∀ y ∈ es.drop i, (1 ≤ y.f0 ∧ y.f0 ≤ 5) ∧ nmV y.f1 = true
  | 0, i, hf, _, y, hy => by rw [List.drop_of_length_le (by omega)] at hy; cases hy
  | f + 1, i, hf, h, y, hy => by
    unfold enAll at h
    rw [rdiEntry es i (by omega)] at h
    split at h
    · cases h
    · rename_i h1
      split at h
      · rw [drop_at es i (by omega)] at hy
        rcases List.mem_cons.1 hy with rfl | hy
        · exact enV_ok h1
        · exact enAll_all es f (i + 1) (by omega) h y hy
      · cases h
theorem bl_nil {b : ByteArray} (h : b.toList = ([] : List UInt8)) : b = ⟨#[]⟩ := b_inj (by rw [← b_toList, h])
/-- What a valid inode is made of. -/
theorem okI_parts {kd sz ct : Int} {mk : ByteArray} {rs : List S42} {es : List S47} (h : okI kd sz ct mk rs es = true) :
    (0 ≤ ct ∧ ct ≤ 65535) ∧ (0 ≤ kd ∧ kd ≤ 2) ∧ (0 ≤ sz ∧ sz ≤ 128) ∧ mk.size ≤ 8 ∧ (rs.length : Int) = pgF sz ∧ rs.length ≤ 4 ∧ es.length ≤ 6 ∧ (kd ≠ 1 → rs = [] ∧ mk = ⟨#[]⟩) ∧ (kd ≠ 2 → es = []) ∧ (kd = 1 → mk.size = 8) ∧ (∀ y ∈ rs, (1 ≤ y.f0 ∧ y.f0 ≤ 12) ∧ (1 ≤ y.f1 ∧ y.f1 ≤ 16777215) ∧ y.f2.size = 4) ∧ (∀ y ∈ es, (1 ≤ y.f0 ∧ y.f0 ≤ 5) ∧ nmV y.f1 = true) := by
  unfold okI at h
  rw [Bool.and_eq_true] at h
  obtain ⟨hc, h⟩ := h
  rw [decide_eq_true_eq] at hc
  have p0 : pgF 0 = 0 := rfl
  by_cases k0 : kd = 0
  · rw [if_pos k0, decide_eq_true_eq] at h
    obtain ⟨h1, h2, h3, h4⟩ := h
    have hr := List.eq_nil_of_length_eq_zero h3
    have he := List.eq_nil_of_length_eq_zero h4
    subst hr he h1
    have hm := bl_nil h2
    subst hm
    exact ⟨hc, by omega, by omega, Nat.zero_le _, p0.symm, by simp, by simp, fun _ => ⟨rfl, rfl⟩, fun _ => rfl, fun c => by omega, by simp, by simp⟩
  rw [if_neg k0] at h
  by_cases k1 : kd = 1
  · rw [if_pos k1, Bool.and_eq_true, decide_eq_true_eq] at h
    obtain ⟨⟨h1, h2, h3, h4⟩, h5⟩ := h
    have he := List.eq_nil_of_length_eq_zero h4
    subst he
    have hp : pgF sz ≤ 4 := by unfold pgF; split <;> omega
    have hr := rcAll_all rs rs.length 0 (by omega) h5
    rw [List.drop_zero] at hr
    exact ⟨hc, by omega, h1, by omega, h3, by omega, by simp, fun c => absurd k1 c, fun _ => rfl, fun _ => by omega, hr, by simp⟩
  rw [if_neg k1] at h
  by_cases k2 : kd = 2
  · rw [if_pos k2, Bool.and_eq_true, decide_eq_true_eq] at h
    obtain ⟨⟨h1, h2, h3, h4⟩, h5⟩ := h
    have hr := List.eq_nil_of_length_eq_zero h3
    subst hr h1
    have hm := bl_nil h2
    subst hm
    have he := enAll_all es es.length 0 (by omega) h5
    rw [List.drop_zero] at he
    exact ⟨hc, by omega, by omega, Nat.zero_le _, p0.symm, by simp, h4, fun _ => ⟨rfl, rfl⟩, fun c => absurd k2 c, fun c => absurd c k1, by simp, he⟩
  · rw [if_neg k2] at h; cases h
theorem iw_shape {kd sz ct : Int} {mk : ByteArray} {rs : List S42} {es : List S47} (h : okI kd sz ct mk rs es = true) : iwV kd sz ct mk rs es = wdT (nt kd 1 ++ nt sz 2 ++ nt ct 2) :: wdT mk :: (rcW rs ++ enW es ++ List.replicate (6 - (rs.length + es.length)) (zb 8)) := by
  unfold iwV
  rw [if_pos h]
  unfold fil8 rcW enW
  have : 8 - ([wdT (nt kd 1 ++ nt sz 2 ++ nt ct 2), wdT mk] ++ List.map (fun y : S42 => recV y.f0 y.f1 y.f2) rs ++ List.map (fun y : S47 => enV y.f0 y.f1) es).length = 6 - (rs.length + es.length) := by simp only [List.length_append, List.length_cons, List.length_nil, List.length_map]; omega
  rw [this]
  simp
/-- A valid inode's words are eight, and they are read back. -/
theorem ri_round {kd sz ct : Int} {mk : ByteArray} {rs : List S42} {es : List S47} (h : okI kd sz ct mk rs es = true) : (iwV kd sz ct mk rs es).length = 8 ∧ (∀ w ∈ iwV kd sz ct mk rs es, w.size = 8) ∧ riV (iwV kd sz ct mk rs es) = (kd, sz, ct, mk, rs, es, true) := by
  obtain ⟨hc, hk, hz, hm, hp, hr4, he6, n1, n2, m8, hr, he⟩ := okI_parts h
  have hsh := iw_shape h
  have hsum : rs.length + es.length ≤ 6 := by
    by_cases k1 : kd = 1
    · have := n2 (by omega); subst this; simp; omega
    · have := (n1 k1).1; subst this; simp; omega
  have l8 : (iwV kd sz ct mk rs es).length = 8 := by rw [hsh]; simp only [rcW, enW, List.length_cons, List.length_append, List.length_map, List.length_replicate]; omega
  have okk : ntOk kd 1 := ⟨by omega, by omega, by omega, by omega⟩
  have oks : ntOk sz 2 := ⟨by omega, by omega, by omega, by omega⟩
  have okc : ntOk ct 2 := ⟨by omega, by omega, by omega, by omega⟩
  have hs0 : (nt kd 1 ++ nt sz 2 ++ nt ct 2).size = 5 := by rw [← b_len, b_app, b_app, nt_list _ _ okk, nt_list _ _ oks, nt_list _ _ okc]; simp [ntL_len]
  have hl0 : (wdT (nt kd 1 ++ nt sz 2 ++ nt ct 2)).data.toList = ntL kd 1 ++ ntL sz 2 ++ ntL ct 2 ++ List.replicate 3 0 := by rw [wdT_list _ (by omega), b_app, b_app, nt_list _ _ okk, nt_list _ _ oks, nt_list _ _ okc, hs0]
  have w8 : ∀ w ∈ iwV kd sz ct mk rs es, w.size = 8 := by
    intro w hw
    rw [hsh] at hw
    simp only [List.mem_cons, List.mem_append, List.mem_replicate] at hw
    rcases hw with rfl | rfl | (hw | hw) | ⟨_, rfl⟩
    · exact wdT_size _ (by omega)
    · exact wdT_size _ hm
    · obtain ⟨y, hy, rfl⟩ := List.mem_map.1 hw
      exact (rr_round _ _ _ (hr y hy)).2.1
    · obtain ⟨y, hy, rfl⟩ := List.mem_map.1 hw
      exact (rn_round _ _ (he y hy)).2.1
    · exact zb_size 8
  refine ⟨l8, w8, ?_⟩
  have ra : riA (iwV kd sz ct mk rs es) = wdT (nt kd 1 ++ nt sz 2 ++ nt ct 2) := by unfold riA; rw [hsh]; rfl
  have r1 : rdOf ByteArray.empty (iwV kd sz ct mk rs es) 1 = wdT mk := by rw [hsh]; rfl
  have g0 : naG (wdT (nt kd 1 ++ nt sz 2 ++ nt ct 2)) 1 0 0 = kd := na1 _ [] (ntL sz 2 ++ ntL ct 2 ++ List.replicate 3 0) kd (by rw [hl0]; simp) (by omega) (by omega)
  have g1 : naG (wdT (nt kd 1 ++ nt sz 2 ++ nt ct 2)) 2 1 0 = sz := by
    have := na2 (wdT (nt kd 1 ++ nt sz 2 ++ nt ct 2)) (ntL kd 1) (ntL ct 2 ++ List.replicate 3 0) sz (by rw [hl0]; simp) (by omega) (by omega)
    rw [ntL_len] at this; exact this
  have g3 : naG (wdT (nt kd 1 ++ nt sz 2 ++ nt ct 2)) 2 3 0 = ct := by
    have := na2 (wdT (nt kd 1 ++ nt sz 2 ++ nt ct 2)) (ntL kd 1 ++ ntL sz 2) (List.replicate 3 0) ct (by rw [hl0]) (by omega) (by omega)
    rw [List.length_append, ntL_len, ntL_len] at this; exact this
  have hd : (iwV kd sz ct mk rs es).drop 2 = rcW rs ++ enW es ++ List.replicate (6 - (rs.length + es.length)) (zb 8) := by rw [hsh]; rfl
  have hmk : (if kd = 1 then wdT mk else ⟨#[]⟩) = mk := by
    by_cases k1 : kd = 1
    · rw [if_pos k1]
      refine b_inj ?_
      rw [wdT_list mk hm, m8 k1]
      simp
    · rw [if_neg k1, (n1 k1).2]
  have hsc : scV kd ((iwV kd sz ct mk rs es).drop 2) [] [] = some (rs, es) := by
    rw [hd]
    by_cases k1 : kd = 1
    · have := n2 (by omega)
      subst this k1
      rw [show enW [] = [] from rfl, List.append_nil]
      exact sc_recs _ [] rs [] hr
    · have hrs := (n1 k1).1
      subst hrs
      by_cases k2 : kd = 2
      · subst k2
        rw [show rcW [] = [] from rfl, List.nil_append]
        exact sc_ents _ [] es [] he
      · have := n2 k2
        subst this
        exact scV_other kd k1 k2 _ _ _
  unfold riV
  rw [if_pos ⟨l8, w8⟩, ra, g0, g1, g3, r1, hmk, hsc]
  show riT (iwV kd sz ct mk rs es) kd sz ct mk rs es = _
  unfold riT
  rw [if_pos (by unfold eqW; simp)]

/-! ### drawinode2 -/
/-- Sizes of what is drawn for an inode. -/
def inoS (key : ByteArray) (rs : List S42) (es : List S47) : Prop := key.size ≤ 20 ∧ rs.length ≤ 11 ∧ es.length ≤ 11 ∧ (∀ y ∈ rs, y.f2.size ≤ 20) ∧ (∀ y ∈ es, y.f1.size ≤ 100)
theorem all2 (l : List ByteArray) (h : l.all (fun x => decide (x.size ≤ 100)) = true) {x : ByteArray} (hx : x ∈ l) : x.size ≤ 100 := by
  have := List.all_eq_true.1 h x hx
  simpa using this
theorem drec2_ev (xs : List Int) (hn : xs.length ≤ 4000000) (i h : Int) (hi : crs 4000000 i) : ∃ a b m i' h', Ev (fun k => spec_l12Rec.f k xs i h) (a, b, m, i', h') ∧ (1 ≤ a ∧ a ≤ 12) ∧ (1 ≤ b ∧ b ≤ 200) ∧ m.size = 4 ∧ crs 4000000 i' := by
  unfold spec_l12Rec.f
  obtain ⟨a, i1, h1, e1, a0, a1, hi1⟩ := below_eq xs hn i h hi 12 (by omega) (by omega)
  obtain ⟨b, i2, h2, e2, b0, b1, hi2⟩ := below_eq xs hn i1 h1 hi1 200 (by omega) (by omega)
  obtain ⟨m, i3, h3, e3, z3, hi3⟩ := text_ev xs hn i2 h2 hi2 4 (by omega) (by omega)
  refine ⟨_, _, m, i3, h3, Ev.bind (ev_eq e1) (Ev.bind (ev_eq e2) (Ev.bind e3 (ev_now rfl))), ?_, ?_, by omega, hi3⟩
  · dsimp only; rw [w64 (by omega) (by omega)]; omega
  · dsimp only; rw [w64 (by omega) (by omega)]; omega
/-- The pages that a drawn file has: in steps of three. -/
def pgs (base : Int) : Nat → List S42 → Prop := fun j rs => ∀ (q : Nat) (hq : q < rs.length), rs[q].f0 = 1 + (3 * (q : Int) + base) % 12 ∧ (1 ≤ rs[q].f1 ∧ rs[q].f1 ≤ 16777215) ∧ rs[q].f2.size = 4
theorem ino2_l0 (xs : List Int) (hn : xs.length ≤ 4000000) (kd sz gn : Int) (key : ByteArray) (s0 : 0 ≤ sz) (s1 : sz ≤ 128) : ∀ (j : Nat) (base i h : Int) (rs : List S42), (j : Int) ≤ pgF sz → rs.length = j → (0 ≤ base ∧ base ≤ 12) → pgs base j rs → crs 4000000 i →
    ∃ rs' i' h' base', Ev (fun k => spec_l12Inode.l0 k base j xs i h kd sz gn key rs) (kd, sz, gn, key, rs', [], i', h') ∧ (rs'.length : Int) = pgF sz ∧ pgs base' j rs' ∧ crs 4000000 i'
  | j, base, i, h, rs, hj, hr, hb, hp, hi => by
    have hpg := sPagesFor_eq sz s0 (by omega)
    have hle : pgF sz ≤ 4 := by unfold pgF; split <;> omega
    by_cases c : (j : Int) < pgF sz
    · obtain ⟨a, b, m, i1, h1, e1, ha, hb1, hm, hi1⟩ := drec2_ev xs hn i h hi
      have step : ∀ base2 : Int, (0 ≤ base2 ∧ base2 ≤ 12) → pgs base2 j rs → pgs base2 (j + 1) (rs ++ [(⟨wrap64 (1 + (Int.tmod (wrap64 ((wrap64 (3 * (j : Int))) + base2)) 12)), b, m⟩ : S42)]) := by
        intro base2 hb2 hp2
        have ew : wrap64 (1 + (Int.tmod (wrap64 ((wrap64 (3 * (j : Int))) + base2)) 12)) = 1 + (3 * (j : Int) + base2) % 12 := by
          have e1 := w64 (x := 3 * (j : Int)) (by omega) (by omega)
          have e2 := w64 (x := 3 * (j : Int) + base2) (by omega) (by omega)
          have e3 := Int.tmod_eq_emod_of_nonneg (a := 3 * (j : Int) + base2) (b := 12) (by omega)
          rw [e1, e2, e3]
          exact w64 (by omega) (by omega)
        rw [ew]
        intro q hq
        by_cases hql : q < rs.length
        · rw [List.getElem_append_left hql]; exact hp2 q hql
        · have : q = rs.length := by simp at hq; omega
          subst this
          rw [List.getElem_append_right (Nat.le_refl _)]
          simp only [Nat.sub_self, List.getElem_cons_zero]
          rw [hr]
          exact ⟨rfl, by omega, hm⟩
      by_cases c0 : (j : Int) = 0
      · obtain ⟨rs', i2, h2, b2, e2, hl, hp2, hi2⟩ := ino2_l0 xs hn kd sz gn key s0 s1 (j + 1) a i1 h1 (rs ++ [(⟨wrap64 (1 + (Int.tmod (wrap64 ((wrap64 (3 * (j : Int))) + a)) 12)), b, m⟩ : S42)]) (by omega) (by simp; omega) (by omega) (step a (by omega) (fun q hq => by omega)) hi1
        refine ⟨rs', i2, h2, b2, ?_, hl, hp2, hi2⟩
        refine Ev.step (spec_l12Inode.l0.eq_2 _ _ _ _ _ _ _ _ _ _) ?_
        refine Ev.bind (ev_eq hpg) (ev_pos c (Ev.bind e1 (ev_pos c0 (ev_pos (by omega) ?_))))
        rw [w64s j (by omega)]
        exact e2
      · obtain ⟨rs', i2, h2, b2, e2, hl, hp2, hi2⟩ := ino2_l0 xs hn kd sz gn key s0 s1 (j + 1) base i1 h1 (rs ++ [(⟨wrap64 (1 + (Int.tmod (wrap64 ((wrap64 (3 * (j : Int))) + base)) 12)), b, m⟩ : S42)]) (by omega) (by simp; omega) hb (step base hb hp) hi1
        refine ⟨rs', i2, h2, b2, ?_, hl, hp2, hi2⟩
        refine Ev.step (spec_l12Inode.l0.eq_2 _ _ _ _ _ _ _ _ _ _) ?_
        refine Ev.bind (ev_eq hpg) (ev_pos c (Ev.bind e1 (ev_neg c0 (ev_pos (by omega) ?_))))
        rw [w64s j (by omega)]
        exact e2
    · refine ⟨rs, i, h, base, ?_, by omega, hp, hi⟩
      refine Ev.step (spec_l12Inode.l0.eq_2 _ _ _ _ _ _ _ _ _ _) ?_
      exact Ev.bind (ev_eq hpg) (ev_neg c (ev_now rfl))
  termination_by j => 6 - j
/-- The names that a drawn directory has: some of these, in their order. -/
def nm6 : List ByteArray := [(⟨#[97]⟩ : ByteArray), (⟨#[97, 98]⟩ : ByteArray), (⟨#[98]⟩ : ByteArray), (⟨#[99]⟩ : ByteArray), (⟨#[100]⟩ : ByteArray), (⟨#[120, 49]⟩ : ByteArray)]
theorem nm6_ok : ∀ q : Fin 6, nmV (nm6[q.val]'(by simp [nm6])) = true := by decide
theorem nm6_lt : ∀ p q : Fin 6, p.val < q.val → Op.bytesLess (nm6[p.val]'(by simp [nm6])).data.toList (nm6[q.val]'(by simp [nm6])).data.toList = true := by decide
def ens (j : Nat) (es : List S47) : Prop := es.length ≤ j ∧ (∀ y ∈ es, (1 ≤ y.f0 ∧ y.f0 ≤ 5) ∧ ∃ q : Fin 6, q.val < j ∧ y.f1 = nm6[q.val]'(by simp [nm6])) ∧ es.Pairwise (fun x y => Op.bytesLess x.f1.toList y.f1.toList = true)
theorem ino2_l1 (xs : List Int) (hn : xs.length ≤ 4000000) (kd sz gn : Int) (key : ByteArray) : ∀ (j : Nat) (i h : Int) (es : List S47), j ≤ 6 → ens j es → crs 4000000 i →
    ∃ es' i' h', Ev (fun k => spec_l12Inode.l1 k nm6 j xs i h kd sz gn key es) (kd, sz, gn, key, [], es', i', h') ∧ ens 6 es' ∧ crs 4000000 i'
  | j, i, h, es, hj, he, hi => by
    have hl6 : nm6.length = 6 := rfl
    obtain ⟨e1l, e1m, e1p⟩ := he
    have up : ens (j + 1) es := ⟨by omega, fun y hy => ⟨(e1m y hy).1, by obtain ⟨q, hq, e⟩ := (e1m y hy).2; exact ⟨q, by omega, e⟩⟩, e1p⟩
    by_cases c : (j : Int) < (nm6.length : Int)
    · have hj6 : j < 6 := by rw [hl6] at c; omega
      obtain ⟨b, i1, h1, e1, hi1⟩ := once_eq xs hn i h hi 3 (by omega) (by omega)
      by_cases c0 : b = true
      · obtain ⟨a, i2, h2, e2, a0, a1, hi2⟩ := below_eq xs hn i1 h1 hi1 5 (by omega) (by omega)
        have hnew : ens (j + 1) (es ++ [(⟨wrap64 (1 + a), rdOf ByteArray.empty nm6 (j : Int)⟩ : S47)]) := by
          rw [rdOf_at _ nm6 j (by omega), w64 (x := 1 + a) (by omega) (by omega)]
          refine ⟨by simp; omega, fun y hy => ?_, ?_⟩
          · rcases List.mem_append.1 hy with hy | hy
            · exact up.2.1 y hy
            · rw [List.mem_singleton] at hy
              subst hy
              exact ⟨⟨by dsimp only; omega, by dsimp only; omega⟩, ⟨j, hj6⟩, by dsimp only; omega, rfl⟩
          · rw [List.pairwise_append]
            refine ⟨e1p, List.pairwise_singleton _ _, fun x hx y hy => ?_⟩
            rw [List.mem_singleton] at hy
            subst hy
            obtain ⟨q, hq, eq⟩ := (e1m x hx).2
            rw [eq, b_toList, b_toList]
            exact nm6_lt q ⟨j, hj6⟩ hq
        obtain ⟨es', i3, h3, e3, hl, hi3⟩ := ino2_l1 xs hn kd sz gn key (j + 1) i2 h2 _ (by omega) hnew hi2
        refine ⟨es', i3, h3, ?_, hl, hi3⟩
        refine Ev.step (spec_l12Inode.l1.eq_2 _ _ _ _ _ _ _ _ _ _) ?_
        refine ev_pos c (Ev.bind (ev_eq e1) (ev_pos c0 (Ev.bind (ev_eq e2) (ev_pos (by omega) (ev_pos (by omega) ?_)))))
        rw [w64s j (by omega)]
        exact e3
      · obtain ⟨es', i3, h3, e3, hl, hi3⟩ := ino2_l1 xs hn kd sz gn key (j + 1) i1 h1 es (by omega) up hi1
        refine ⟨es', i3, h3, ?_, hl, hi3⟩
        refine Ev.step (spec_l12Inode.l1.eq_2 _ _ _ _ _ _ _ _ _ _) ?_
        refine ev_pos c (Ev.bind (ev_eq e1) (ev_neg c0 ?_))
        rw [w64s j (by omega)]
        exact e3
    · have : j = 6 := by rw [hl6] at c; omega
      subst this
      refine ⟨es, i, h, ?_, ⟨e1l, e1m, e1p⟩, hi⟩
      refine Ev.step (spec_l12Inode.l1.eq_2 _ _ _ _ _ _ _ _ _ _) ?_
      exact ev_neg c (ev_now rfl)
  termination_by j => 7 - j
theorem pgs_all (base : Int) (rs : List S42) (hb : rs.length ≤ 4) (h : pgs base 0 rs) : rcAll rs rs.length 0 = true := by
  have go : ∀ f i : Nat, i + f = rs.length → rcAll rs f i = true := by
    intro f
    induction f with
    | zero => intro i _; rfl
    | succ f ih =>
      intro i hf
      unfold rcAll
      rw [rdiRec rs i (by omega)]
      obtain ⟨hp, hs, hm⟩ := h i (by omega)
      have hok : (1 ≤ rs[i].f0 ∧ rs[i].f0 ≤ 12) ∧ (1 ≤ rs[i].f1 ∧ rs[i].f1 ≤ 16777215) ∧ rs[i].f2.size = 4 := ⟨by rw [hp]; omega, hs, hm⟩
      have hz := (rr_round _ _ _ hok).2.1
      rw [if_neg (fun c => by rw [b_toList] at c; have := b_len (recV rs[i].f0 rs[i].f1 rs[i].f2); rw [c, hz] at this; simp at this)]
      rw [if_neg (fun c => by
        unfold dupR at c
        rw [List.any_eq_true] at c
        obtain ⟨y, hy, he⟩ := c
        rw [rdiRec rs i (by omega)] at he
        obtain ⟨q, hq, rfl⟩ := List.getElem_of_mem hy
        rw [List.getElem_take] at he
        simp only [List.length_take] at hq
        have h1 := (h q (by omega)).1
        simp only [beq_iff_eq] at he
        rw [h1, hp] at he
        omega)]
      exact ih (i + 1) (by omega)
  exact go rs.length 0 (by omega)
theorem ens_all (es : List S47) (h : ens 6 es) : enAll es es.length 0 = true := by
  obtain ⟨hl, hm, hp⟩ := h
  have go : ∀ f i : Nat, i + f = es.length → enAll es f i = true := by
    intro f
    induction f with
    | zero => intro i _; rfl
    | succ f ih =>
      intro i hf
      unfold enAll
      rw [rdiEntry es i (by omega)]
      obtain ⟨hr, q, hq, eq⟩ := hm es[i] (List.getElem_mem _)
      have hz := (rn_round es[i].f0 es[i].f1 ⟨hr, by rw [eq]; exact nm6_ok q⟩).2.1
      rw [if_neg (fun c => by rw [b_toList] at c; have := b_len (enV es[i].f0 es[i].f1); rw [c, hz] at this; simp at this)]
      rw [if_pos, ih (i + 1) (by omega)]
      unfold ascE
      split
      · rename_i h0
        rw [rdiEntry es i (by omega), show ((i : Int) - 1) = ((i - 1 : Nat) : Int) by omega, rdiEntry es (i - 1) (by omega)]
        exact List.pairwise_iff_getElem.1 hp (i - 1) i (by omega) (by omega) (by omega)
      · rfl
  exact go es.length 0 (by omega)
/-- A drawn inode is valid. -/
theorem inode2_ev (xs : List Int) (hn : xs.length ≤ 4000000) (i h : Int) (hi : crs 4000000 i) : ∃ (kd sz gn : Int) (key : ByteArray) (rs : List S42) (es : List S47) (i' h' : Int), Ev (fun k => spec_l12Inode.f k xs i h) (kd, sz, gn, key, rs, es, i', h') ∧ okI kd sz gn key rs es = true ∧ inoS key rs es ∧ crs 4000000 i' := by
  unfold spec_l12Inode.f
  obtain ⟨kd, i1, h1, e1, k0, k3, hi1⟩ := below_eq xs hn i h hi 3 (by omega) (by omega)
  obtain ⟨gn, i2, h2, e2, g0, g1, hi2⟩ := below_eq xs hn i1 h1 hi1 9 (by omega) (by omega)
  have nil0 : (⟨#[]⟩ : ByteArray).toList = [] := b_toList _
  have done : ∀ (kd sz gn : Int) (key : ByteArray) (rs : List S42) (es : List S47), okI kd sz gn key rs es = true → inoS key rs es := by
    intro kd sz gn key rs es ho
    obtain ⟨_, _, _, hm, _, hr4, he6, _, _, _, hr, he⟩ := okI_parts ho
    exact ⟨by omega, by omega, by omega, fun y hy => by have := (hr y hy).2.2; omega, fun y hy => by
      have := (he y hy).2
      unfold nmV at this
      simp only [Bool.and_eq_true, decide_eq_true_eq] at this
      omega⟩
  by_cases c1 : kd = 1
  · obtain ⟨sz, i3, h3, e3, hm, hi3⟩ := pick_eq xs hn i2 h2 hi2 [0, 1, 31, 32, 33, 64, 100, 128] (by decide) (by decide)
    have hb : 0 ≤ sz ∧ sz ≤ 128 := by simp at hm; omega
    have hle : 0 ≤ pgF sz ∧ pgF sz ≤ 4 := by unfold pgF; split <;> omega
    obtain ⟨key, i4, h4, e4, z4, hi4⟩ := text_ev xs hn i3 h3 hi3 8 (by omega) (by omega)
    obtain ⟨rs, i5, h5, base, e5, hl, hp, hi5⟩ := ino2_l0 xs hn kd sz gn key hb.1 hb.2 0 0 i4 h4 [] (by omega) rfl (by omega) (fun q hq => by simp at hq) hi4
    have ok : okI kd sz gn key rs [] = true := by
      unfold okI
      rw [decide_eq_true (by omega), Bool.true_and, if_neg (by omega), if_pos c1, pgs_all base rs (by omega) hp, Bool.and_true]
      exact decide_eq_true ⟨hb, by omega, hl, rfl⟩
    exact ⟨kd, sz, gn, key, rs, [], i5, h5, Ev.bind (ev_eq e1) (Ev.bind (ev_eq e2) (ev_pos c1 (Ev.bind (ev_eq e3) (Ev.bind e4 e5)))), ok, done _ _ _ _ _ _ ok, hi5⟩
  by_cases c2 : kd = 2
  · obtain ⟨es, i3, h3, e3, hl, hi3⟩ := ino2_l1 xs hn kd 0 gn (⟨#[]⟩ : ByteArray) 0 i2 h2 [] (by omega) ⟨by simp, by simp, List.Pairwise.nil⟩ hi2
    have ok : okI kd 0 gn ⟨#[]⟩ [] es = true := by
      unfold okI
      rw [decide_eq_true (by omega), Bool.true_and, if_neg (by omega), if_neg c1, if_pos c2, ens_all es hl, Bool.and_true]
      exact decide_eq_true ⟨rfl, nil0, rfl, hl.1⟩
    exact ⟨kd, 0, gn, ⟨#[]⟩, [], es, i3, h3, Ev.bind (ev_eq e1) (Ev.bind (ev_eq e2) (ev_neg c1 (ev_pos c2 e3))), ok, done _ _ _ _ _ _ ok, hi3⟩
  · have ok : okI kd 0 gn ⟨#[]⟩ [] [] = true := by
      unfold okI
      rw [decide_eq_true (by omega), Bool.true_and, if_pos (by omega)]
      exact decide_eq_true ⟨rfl, nil0, rfl, rfl⟩
    exact ⟨kd, 0, gn, ⟨#[]⟩, [], [], i2, h2, Ev.bind (ev_eq e1) (Ev.bind (ev_eq e2) (ev_neg c1 (ev_neg c2 (ev_now rfl)))), ok, done _ _ _ _ _ _ ok, hi2⟩
/-! ### FnAnyInode -/
theorem sameRr_l (xs : List S42) (hn : xs.length ≤ 1048576) : ∀ i : Nat, i ≤ xs.length → Ev (fun k => laws_sameRecs.l0 k xs xs i) true
  | i, hi => by
    refine Ev.step (laws_sameRecs.l0.eq_2 _ _ _) ?_
    by_cases h : i < xs.length
    · refine ev_pos (by omega) (ev_pos (by omega) (ev_pos (by omega) (ev_neg (by simp) ?_)))
      rw [w64s i (by omega)]
      exact sameRr_l xs hn (i + 1) (by omega)
    · exact ev_neg (by omega) (ev_now rfl)
  termination_by i => xs.length - i
theorem sameEe_l (xs : List S47) (hn : xs.length ≤ 1048576) : ∀ i : Nat, i ≤ xs.length → Ev (fun k => laws_sameEntrys.l0 k xs xs i) true
  | i, hi => by
    refine Ev.step (laws_sameEntrys.l0.eq_2 _ _ _) ?_
    by_cases h : i < xs.length
    · refine ev_pos (by omega) (ev_pos (by omega) (ev_pos (by omega) (ev_neg (by simp) ?_)))
      rw [w64s i (by omega)]
      exact sameEe_l xs hn (i + 1) (by omega)
    · exact ev_neg (by omega) (ev_now rfl)
  termination_by i => xs.length - i
theorem sameIi_ev (kd sz gn : Int) (key : ByteArray) (rs : List S42) (es : List S47) (hr : rs.length ≤ 1048576) (he : es.length ≤ 1048576) : Ev (fun k => laws_sameInode.f k kd sz gn key rs es kd sz gn key rs es) true := by
  unfold laws_sameInode.f laws_sameRecs.f laws_sameEntrys.f
  exact ev_pos rfl (ev_pos rfl (ev_pos rfl (ev_pos rfl (Ev.bind (ev_pos rfl (sameRr_l rs hr 0 (by omega))) (ev_pos rfl (Ev.bind (ev_pos rfl (sameEe_l es he 0 (by omega))) (ev_now rfl)))))))
theorem sTx_l (xs : List ByteArray) (hn : xs.length ≤ 1048576) : ∀ i : Nat, i ≤ xs.length → Ev (fun k => laws_sameTexts.l0 k xs xs i) true
  | i, hi => by
    refine Ev.step (laws_sameTexts.l0.eq_2 _ _ _) ?_
    by_cases h : i < xs.length
    · refine ev_pos (by omega) (ev_pos (by omega) (ev_pos (by omega) (ev_pos rfl ?_)))
      rw [w64s i (by omega)]
      exact sTx_l xs hn (i + 1) (by omega)
    · exact ev_neg (by omega) (ev_now rfl)
  termination_by i => xs.length - i
theorem sTx_ev (xs : List ByteArray) (hn : xs.length ≤ 1048576) : Ev (fun k => laws_sameTexts.f k xs xs) true := by
  unfold laws_sameTexts.f
  exact ev_pos rfl (sTx_l xs hn 0 (by omega))
theorem turned_eq (xs : List Int) (hn : xs.length ≤ 4000000) (i h : Int) (hi : crs 4000000 i) (s : ByteArray) (hs : s.size ≤ 256) : ∃ t i' h', spec_l09Turned.f xs i h s = some (t, i', h') := by
  unfold spec_l09Turned.f
  by_cases c : (s.size : Int) = 0
  · exact ⟨_, _, _, if_pos c⟩
  · have hl := bytesOf_length s
    obtain ⟨a, i1, h1, e1, a0, a1, hi1⟩ := below_eq xs hn i h hi ((bytesOf s).length : Int) (by omega) (by omega)
    obtain ⟨b, i2, h2, e2, b0, b1, hi2⟩ := below_eq xs hn i1 h1 hi1 255 (by omega) (by omega)
    refine ⟨strOfNums ((bytesOf s).set (a : Int).toNat (Go.bits .xor .u8 (rd (bytesOf s) a) ((wrap64 (1 + b)) % 256))), i2, h2, ?_⟩
    rw [if_neg c, Option.bind_some, e1, Option.bind_some]
    dsimp only
    rw [if_pos a0, if_pos a1, e2, Option.bind_some]
theorem driw_ev (xs : List Int) (hn : xs.length ≤ 4000000) : ∃ ws : List ByteArray, Ev (fun k => spec_DrawReadInode.f k xs) ws ∧ ws.length ≤ 9 := by
  unfold spec_DrawReadInode.f
  obtain ⟨r, hr⟩ := new_ev xs hn
  obtain ⟨kd, sz, gn, key, rs, es, i1, h1, e1, ok, hs, hi1⟩ := inode2_ev xs hn 0 r ⟨by omega, by omega⟩
  obtain ⟨s1, s2, s3, s4, s5⟩ := hs
  obtain ⟨h8, hw, _⟩ := ri_round ok
  have eW := sIW_ev kd sz gn key rs es (by omega) (by omega) (by omega) (fun y hy => by have := s4 y hy; omega) (fun y hy => by have := s5 y hy; omega)
  revert h8 hw eW
  generalize iwV kd sz gn key rs es = ws
  intro h8 hw eW
  obtain ⟨a, i2, h2, e2, a0, a1, hi2⟩ := below_eq xs hn i1 h1 hi1 4 (by omega) (by omega)
  by_cases c0 : a = 0
  · obtain ⟨b, i3, h3, e3, b0, b1, hi3⟩ := below_eq xs hn i2 h2 hi2 8 (by omega) (by omega)
    obtain ⟨m, rfl⟩ := Int.eq_ofNat_of_zero_le b0
    have hsz := hw ws[m] (List.getElem_mem _)
    obtain ⟨t, i4, h4, e4⟩ := turned_eq xs hn i3 h3 hi3 ws[m] (by omega)
    exact ⟨_, Ev.bind hr (Ev.bind e1 (Ev.bind eW (Ev.bind (ev_eq e2) (ev_pos c0 (Ev.bind (ev_eq e3) (ev_pos b0 (ev_pos (by dsimp only; omega) (Ev.bind (ev_eq (by dsimp only; rw [rdOf_at _ ws m (by omega)]; exact e4)) (ev_now rfl))))))))), by rw [List.length_set]; omega⟩
  by_cases c1 : a = 1
  · exact ⟨_, Ev.bind hr (Ev.bind e1 (Ev.bind eW (Ev.bind (ev_eq e2) (ev_neg c0 (ev_pos c1 (ev_pos (by omega) (ev_pos (by omega) (ev_now rfl)))))))), by simp; omega⟩
  · exact ⟨_, Ev.bind hr (Ev.bind e1 (Ev.bind eW (Ev.bind (ev_eq e2) (ev_neg c0 (ev_neg c1 (ev_now rfl)))))), by omega⟩
theorem riT_ok {ws : List ByteArray} (h8 : ws.length = 8) {kd sz ct : Int} {mk : ByteArray} {rs : List S42} {es : List S47} (h : (riT ws kd sz ct mk rs es).2.2.2.2.2.2 = true) : riT ws kd sz ct mk rs es = (kd, sz, ct, mk, rs, es, true) ∧ okI kd sz ct mk rs es = true ∧ iwV kd sz ct mk rs es = ws := by
  unfold riT at h ⊢
  by_cases c : eqW (iwV kd sz ct mk rs es) ws = true
  · rw [if_pos c]
    have hw : iwV kd sz ct mk rs es = ws := by unfold eqW at c; exact of_decide_eq_true c
    refine ⟨rfl, ?_, hw⟩
    by_cases ok : okI kd sz ct mk rs es = true
    · exact ok
    · unfold iwV at hw
      rw [if_neg ok] at hw
      rw [← hw] at h8
      cases h8
  · rw [if_neg c] at h
    cases h
theorem riV_ok {ws : List ByteArray} {kd sz ct : Int} {mk : ByteArray} {rs : List S42} {es : List S47} (h : riV ws = (kd, sz, ct, mk, rs, es, true)) : okI kd sz ct mk rs es = true ∧ iwV kd sz ct mk rs es = ws := by
  unfold riV at h
  split at h
  · rename_i hw
    unfold riM at h
    split at h
    · have hq := riT_ok hw.1 (by rw [h])
      rw [hq.1] at h
      have hq2 := hq.2
      simp only [Prod.mk.injEq] at h
      obtain ⟨e1, e2, e3, e4, e5, e6, _⟩ := h
      rw [e4, e5, e6, e3, e2, e1] at hq2
      exact hq2
    · unfold riF at h; cases h
  · unfold riF at h; cases h
theorem FnAnyInode : laws_FnAnyInode.Law := by
  intro xs hx
  apply Ev.rounds
  unfold laws_FnAnyInode.f laws_big.f
  refine Ev.bind (ev_now rfl) ?_
  by_cases hb : (xs.length : Int) > 1048576
  · exact ev_pos (by simpa using hb) (ev_now rfl)
  refine ev_neg (by simpa using hb) ?_
  obtain ⟨ws, hd, hl⟩ := driw_ev xs (by omega)
  refine Ev.step (laws_FnAnyInode.j0.eq_2 _) ?_
  obtain ⟨lr, le, hr, he, hm⟩ := riV_small ws
  have hS := sRI_ev ws
  have hI := iRI_ev ws (by omega)
  have hk : ∀ kd sz ct mk rs es, riV ws = (kd, sz, ct, mk, rs, es, true) → okI kd sz ct mk rs es = true ∧ iwV kd sz ct mk rs es = ws := fun _ _ _ _ _ _ h => riV_ok h
  revert lr le hr he hm hS hI hk
  generalize riV ws = v
  obtain ⟨kd, sz, ct, mk, rs, es, ok⟩ := v
  dsimp only
  intro lr le hr he hm hS hI hk
  have z0 : okI 0 0 0 (⟨#[]⟩ : ByteArray) [] [] = true := by
    have nil0 : (⟨#[]⟩ : ByteArray).toList = [] := b_toList _
    unfold okI
    simp [nil0]
  have z8 := (ri_round z0).1
  have eZ := iIW_ev 0 0 0 (⟨#[]⟩ : ByteArray) [] [] (by decide) (by decide) (by decide) (by simp) (by simp)
  refine Ev.bind hd (Ev.bind hI (Ev.bind hS (ev_neg (by simp) (Ev.bind (sameIi_ev kd sz ct mk rs es (by omega) (by omega)) ?_))))
  refine Ev.step (laws_FnAnyInode.j1.eq_2 _ _ _ _ _ _ _ _ _) ?_
  refine ev_neg (by simp) ?_
  refine Ev.step (laws_FnAnyInode.j2.eq_2 _ _ _ _ _ _ _ _) ?_
  cases ok with
  | true =>
    obtain ⟨k1, k2⟩ := hk kd sz ct mk rs es rfl
    refine ev_pos rfl (Ev.bind (sOkI_ev kd sz ct mk rs es (by omega) (by omega) (fun y hy => by have := hr y hy; omega) (fun y hy => by have := he y hy; omega)) (ev_pos k1 (Ev.bind (iIW_ev kd sz ct mk rs es (by omega) (by omega) (by omega) (fun y hy => by have := hr y hy; omega) (fun y hy => by have := he y hy; omega)) ?_)))
    rw [k2]
    exact Ev.bind (sTx_ev ws (by omega)) (ev_pos rfl (Ev.bind eZ (ev_now (by rw [z8]; rfl))))
  | false => exact ev_neg (by simp) (Ev.bind eZ (ev_now (by rw [z8]; rfl)))

end Go.Proofs.YtjfhddenmnjgbaaDoor.Pure
