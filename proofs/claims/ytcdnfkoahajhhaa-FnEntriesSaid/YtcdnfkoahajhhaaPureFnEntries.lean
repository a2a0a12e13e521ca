/- The pure statement of FnEntries is proved: for all arguments within the row's own bounds the Lean function that the law's walk comes to answers true. Conditions: none beyond these bounds. -/
import Derived.Test.YtcdnfkoahajhhaaStFnEntries
import Derived.Test.YtcdnfkoahajhhaaBase
namespace Go.Proofs.Ytcdnfkoahajhhaa.Pure
open Go.RowKit Go.Proofs.Ytcdnfkoahajhhaa.PFnEntries Go.Proofs.YtcdnfkoahajhhaaW.PrintWords Go.Proofs.YtcdnfkoahajhhaaW.PrintLast Go.Proofs.Ytcdnfkoahajhhaa.Base
set_option linter.unusedVariables false
set_option linter.unusedSimpArgs false
/-! ### draw -/
theorem and255 (x : Int) : 0 ≤ Go.bits .and .i64 x 255 ∧ Go.bits .and .i64 x 255 ≤ 255 := by
  have h : (BitVec.ofInt IntKind.i64.bits x &&& BitVec.ofInt IntKind.i64.bits 255).toNat ≤ 255 := by
    rw [BitVec.toNat_and]
    exact Nat.le_trans Nat.and_le_right (by decide)
  show 0 ≤ IntKind.i64.wrap (((BitVec.ofInt IntKind.i64.bits x &&& BitVec.ofInt IntKind.i64.bits 255).toNat : Nat) : Int) ∧ IntKind.i64.wrap (((BitVec.ofInt IntKind.i64.bits x &&& BitVec.ofInt IntKind.i64.bits 255).toNat : Nat) : Int) ≤ 255
  generalize (BitVec.ofInt IntKind.i64.bits x &&& BitVec.ofInt IntKind.i64.bits 255).toNat = m at h
  rw [IntKind.wrap_i64]
  omega
theorem new_l (xs : List Int) (hn : xs.length ≤ 4000000) : ∀ (i : Nat) (h : Int), i ≤ xs.length → ∃ r, Ev (fun k => spec_l01New.l0 k xs h i) (xs, 0, r)
  | i, h, hi => by
    by_cases c : i < xs.length
    · by_cases c2 : (i : Int) < 4000
      · obtain ⟨r, hr⟩ := new_l xs hn (i + 1) (Go.bits .and .i64 (wrap64 ((wrap64 ((wrap64 (h * 131)) + (wrap64 (rd xs i)))) + 7)) 1073741823) (by omega)
        refine ⟨r, ?_⟩
        refine Ev.step (spec_l01New.l0.eq_2 _ _ _) ?_
        refine ev_pos (by omega) (ev_pos c2 (ev_pos (by omega) ?_))
        rw [w64s i (by omega)]
        exact hr
      · refine ⟨h, ?_⟩
        refine Ev.step (spec_l01New.l0.eq_2 _ _ _) ?_
        exact ev_pos (by omega) (ev_neg c2 (ev_now rfl))
    · refine ⟨h, ?_⟩
      refine Ev.step (spec_l01New.l0.eq_2 _ _ _) ?_
      exact ev_neg (by omega) (ev_now rfl)
  termination_by i => xs.length - i
theorem new_ev (xs : List Int) (hn : xs.length ≤ 4000000) : ∃ r, Ev (fun k => spec_l01New.f k xs) (xs, 0, r) := by
  unfold spec_l01New.f
  exact new_l xs hn 0 _ (by omega)
/-- A cursor's place: right, and no further than n. -/
def crs (n i : Int) : Prop := 0 ≤ i ∧ i ≤ n
theorem byte_eq (xs : List Int) (hn : xs.length ≤ 4000000) (i h : Int) (hi : crs 4000000 i) : ∃ b i' h', spec_l01Byte.f xs i h = some (b, i', h') ∧ 0 ≤ b ∧ b ≤ 255 ∧ crs 4000000 i' := by
  unfold spec_l01Byte.f
  obtain ⟨h0, h1⟩ := hi
  by_cases c : i < (xs.length : Int)
  · refine ⟨_, _, _, by rw [if_pos c, if_pos h0], (and255 _).1, (and255 _).2, ?_⟩
    rw [w64 (by omega) (by omega)]
    exact ⟨by omega, by omega⟩
  · exact ⟨_, _, _, by rw [if_neg c], (and255 _).1, (and255 _).2, h0, h1⟩
theorem below_eq (xs : List Int) (hn : xs.length ≤ 4000000) (i h : Int) (hi : crs 4000000 i) (n : Int) (h0 : 0 < n) (h1 : n ≤ 256) : ∃ b i' h', spec_l01Below.f xs i h n = some (b, i', h') ∧ 0 ≤ b ∧ b < n ∧ crs 4000000 i' := by
  unfold spec_l01Below.f
  obtain ⟨b, i', h', e, b0, b1, hi'⟩ := byte_eq xs hn i h hi
  refine ⟨Int.tmod b n, i', h', ?_, ?_, ?_, hi'⟩
  · rw [if_neg (by omega), if_pos h1, e, Option.bind_some, if_neg (by omega)]
  · rw [Int.tmod_eq_emod_of_nonneg b0]; exact Int.emod_nonneg _ (by omega)
  · rw [Int.tmod_eq_emod_of_nonneg b0]; exact Int.emod_lt_of_pos _ h0
theorem pick_eq (xs : List Int) (hn : xs.length ≤ 4000000) (i h : Int) (hi : crs 4000000 i) (l : List Int) (h0 : 0 < l.length) (h1 : l.length ≤ 256) : ∃ x i' h', spec_l01PickInt.f xs i h l = some (x, i', h') ∧ x ∈ l ∧ crs 4000000 i' := by
  unfold spec_l01PickInt.f
  obtain ⟨b, i', h', e, b0, b1, hi'⟩ := below_eq xs hn i h hi (l.length : Int) (by omega) (by omega)
  obtain ⟨m, rfl⟩ := Int.eq_ofNat_of_zero_le b0
  refine ⟨l[m]'(by omega), i', h', ?_, List.getElem_mem _, hi'⟩
  rw [e, Option.bind_some, if_pos b0, if_pos b1, rd_at l m (by omega)]


/-! ### drawtext -/
theorem text_l (xs : List Int) (hn : xs.length ≤ 4000000) (n : Nat) (hb : n ≤ 5000) : ∀ (j : Nat) (o : List Int) (i h : Int), j ≤ n → o.length = j → crs 4000000 i → ∃ t i' h', Ev (fun k => spec_l01Text.l0 k n o j xs i h) (t, i', h') ∧ t.size = n ∧ crs 4000000 i'
  | j, o, i, h, hj, ho, hi => by
    by_cases c : j < n
    · obtain ⟨b, i1, h1, e, b0, b1, hi1⟩ := byte_eq xs hn i h hi
      obtain ⟨t, i2, h2, e2, t2, hi2⟩ := text_l xs hn n hb (j + 1) (o ++ [b % 256]) i1 h1 (by omega) (by simp [ho]) hi1
      refine ⟨t, i2, h2, ?_, t2, hi2⟩
      refine Ev.step (spec_l01Text.l0.eq_2 _ _ _ _ _ _) ?_
      refine ev_pos (by omega) (Ev.bind (ev_eq e) (ev_pos (by omega) ?_))
      rw [w64s j (by omega)]
      exact e2
    · refine ⟨strOfNums o, i, h, ?_, by rw [strOfNums_size]; omega, hi⟩
      refine Ev.step (spec_l01Text.l0.eq_2 _ _ _ _ _ _) ?_
      exact ev_neg (by omega) (ev_now rfl)
  termination_by j => n - j
theorem text_ev (xs : List Int) (hn : xs.length ≤ 4000000) (i h : Int) (hi : crs 4000000 i) (n : Int) (h0 : 0 ≤ n) (h1 : n ≤ 5000) : ∃ t i' h', Ev (fun k => spec_l01Text.f k xs i h n) (t, i', h') ∧ t.size = n.toNat ∧ crs 4000000 i' := by
  obtain ⟨m, rfl⟩ := Int.eq_ofNat_of_zero_le h0
  obtain ⟨t, i2, h2, e2, t2, hi2⟩ := text_l xs hn m (by omega) 0 [] i h (by omega) rfl hi
  refine ⟨t, i2, h2, ?_, by omega, hi2⟩
  unfold spec_l01Text.f
  refine ev_neg (by omega) ?_
  refine Ev.step (spec_l01Text.j0.eq_2 _ _ _ _) ?_
  exact e2

/-! ### pagesfor -/
def pgF (n : Int) : Int := if n ≤ 0 then 0 else (n - 1) / 32 + 1
theorem sPagesFor_eq (n : Int) (h : 0 ≤ n) (h1 : n ≤ 1048576) : spec_PagesFor.f n = some (pgF n) := by
  unfold spec_PagesFor.f pgF
  split
  · rfl
  · rw [w64 (x := n - 1) (by omega) (by omega), Int.tdiv_eq_ediv_of_nonneg (by omega), w64 (x := (n - 1) / 32) (by omega) (by omega), w64 (by omega) (by omega)]

theorem pgF_le (n : Int) (h1 : n ≤ 1048576) : 0 ≤ pgF n ∧ pgF n ≤ 32768 := by
  unfold pgF
  split <;> omega

/-! ### t_Entry -/

def wiEntry (x : S59) : Nat := x.f1.size + (0)

def wiEntryS (xs : List S59) : Nat := xs.length + sumBy wiEntry xs




theorem rdiEntry (xs : List S59) (i : Nat) (h : i < xs.length) : rd_T59 xs (i : Int) = xs[i] := getD_at _ xs i h




/-! ### t_Rec -/

def wiRec (x : S170) : Nat := x.f2.size + (0)

def wiRecS (xs : List S170) : Nat := xs.length + sumBy wiRec xs




theorem rdiRec (xs : List S170) (i : Nat) (h : i < xs.length) : rd_T170 xs (i : Int) = xs[i] := getD_at _ xs i h




/-! ### t_Inode -/

def wiInode (x : S49) : Nat := x.f3.size + (wiRecS x.f4 + (wiEntryS x.f5 + (0)))

def wiInodeS (xs : List S49) : Nat := xs.length + sumBy wiInode xs




theorem rdiInode (xs : List S49) (i : Nat) (h : i < xs.length) : rd_T49 xs (i : Int) = xs[i] := getD_at _ xs i h







/-! ### drawinode -/
theorem once_eq (xs : List Int) (hn : xs.length ≤ 4000000) (i h : Int) (hi : crs 4000000 i) (n : Int) (h0 : 0 < n) (h1 : n ≤ 256) : ∃ b i' h', spec_l01Once.f xs i h n = some (b, i', h') ∧ crs 4000000 i' := by
  unfold spec_l01Once.f
  obtain ⟨b, i', h', e, _, _, hi'⟩ := below_eq xs hn i h hi n h0 h1
  exact ⟨_, i', h', by rw [e]; rfl, hi'⟩
theorem pickS_eq (xs : List Int) (hn : xs.length ≤ 4000000) (i h : Int) (hi : crs 4000000 i) (l : List ByteArray) (h0 : 0 < l.length) (h1 : l.length ≤ 256) : ∃ x i' h', spec_l01Pick.f xs i h l = some (x, i', h') ∧ crs 4000000 i' := by
  unfold spec_l01Pick.f
  obtain ⟨b, i', h', e, b0, b1, hi'⟩ := below_eq xs hn i h hi (l.length : Int) (by omega) (by omega)
  exact ⟨_, i', h', by rw [e, Option.bind_some, if_pos b0, if_pos b1], hi'⟩
theorem name_eq (xs : List Int) (hn : xs.length ≤ 4000000) (i h : Int) (hi : crs 4000000 i) : ∃ x i' h', spec_l12AnyName.f xs i h = some (x, i', h') ∧ crs 4000000 i' := by
  unfold spec_l12AnyName.f
  obtain ⟨b, i1, h1, e1, hi1⟩ := once_eq xs hn i h hi 3 (by omega) (by omega)
  rw [e1, Option.bind_some]
  dsimp only
  by_cases hb : b = true
  · rw [if_pos hb]
    obtain ⟨x, i2, h2, e2, hi2⟩ := pickS_eq xs hn i1 h1 hi1 [(⟨#[]⟩ : ByteArray), (⟨#[65]⟩ : ByteArray), (⟨#[97, 98, 99, 100, 101, 102, 103, 104]⟩ : ByteArray), (⟨#[97, 32, 98]⟩ : ByteArray), (⟨#[97, 47, 98]⟩ : ByteArray), (⟨#[0]⟩ : ByteArray), (⟨#[195, 169]⟩ : ByteArray), (⟨#[97, 45, 98]⟩ : ByteArray)] (by decide) (by decide)
    exact ⟨x, i2, h2, by rw [e2]; rfl, hi2⟩
  · rw [if_neg hb]
    unfold spec_l12Name.f
    obtain ⟨x, i2, h2, e2, hi2⟩ := pickS_eq xs hn i1 h1 hi1 [(⟨#[97]⟩ : ByteArray), (⟨#[98]⟩ : ByteArray), (⟨#[99]⟩ : ByteArray), (⟨#[100]⟩ : ByteArray), (⟨#[97, 98]⟩ : ByteArray), (⟨#[120, 49]⟩ : ByteArray), (⟨#[97, 98, 99, 100, 101, 102, 103]⟩ : ByteArray)] (by decide) (by decide)
    exact ⟨x, i2, h2, by rw [e2]; rfl, hi2⟩
theorem anyent_eq (xs : List Int) (hn : xs.length ≤ 4000000) (i h : Int) (hi : crs 4000000 i) : ∃ a b i' h', spec_l12AnyEntry.f xs i h = some (a, b, i', h') ∧ crs 4000000 i' := by
  unfold spec_l12AnyEntry.f
  obtain ⟨a, i1, h1, e1, _, hi1⟩ := pick_eq xs hn i h hi [1, 2, 3, 4, 5, 5, 0, 6, (-1)] (by decide) (by decide)
  obtain ⟨b, i2, h2, e2, hi2⟩ := name_eq xs hn i1 h1 hi1
  exact ⟨a, b, i2, h2, by rw [e1, Option.bind_some]; dsimp only; rw [e2]; rfl, hi2⟩
theorem drec_ev (xs : List Int) (hn : xs.length ≤ 4000000) (i h : Int) (hi : crs 4000000 i) : ∃ a b m i' h', Ev (fun k => spec_l12Rec.f k xs i h) (a, b, m, i', h') ∧ crs 4000000 i' := by
  unfold spec_l12Rec.f
  obtain ⟨a, i1, h1, e1, _, _, hi1⟩ := below_eq xs hn i h hi 12 (by omega) (by omega)
  obtain ⟨b, i2, h2, e2, _, _, hi2⟩ := below_eq xs hn i1 h1 hi1 200 (by omega) (by omega)
  obtain ⟨m, i3, h3, e3, _, hi3⟩ := text_ev xs hn i2 h2 hi2 4 (by omega) (by omega)
  exact ⟨_, _, m, i3, h3, Ev.bind (ev_eq e1) (Ev.bind (ev_eq e2) (Ev.bind e3 (ev_now rfl))), hi3⟩
theorem anyrec_ev (xs : List Int) (hn : xs.length ≤ 4000000) (i h : Int) (hi : crs 4000000 i) : ∃ a b m i' h', Ev (fun k => spec_l12AnyRec.f k xs i h) (a, b, m, i', h') ∧ crs 4000000 i' := by
  unfold spec_l12AnyRec.f
  obtain ⟨a, b, m, i1, h1, e1, hi1⟩ := drec_ev xs hn i h hi
  obtain ⟨s, i2, h2, e2, s0, s1, hi2⟩ := below_eq xs hn i1 h1 hi1 8 (by omega) (by omega)
  by_cases c0 : s = 0
  · obtain ⟨x, i3, h3, e3, _, hi3⟩ := pick_eq xs hn i2 h2 hi2 [0, 13, (-1)] (by decide) (by decide)
    exact ⟨x, b, m, i3, h3, Ev.bind e1 (Ev.bind (ev_eq e2) (ev_pos c0 (Ev.bind (ev_eq e3) (ev_now rfl)))), hi3⟩
  by_cases c1 : s = 1
  · obtain ⟨x, i3, h3, e3, _, hi3⟩ := pick_eq xs hn i2 h2 hi2 [0, 16777215, 16777216] (by decide) (by decide)
    exact ⟨a, x, m, i3, h3, Ev.bind e1 (Ev.bind (ev_eq e2) (ev_neg c0 (ev_pos c1 (Ev.bind (ev_eq e3) (ev_now rfl))))), hi3⟩
  by_cases c2 : s = 2
  · obtain ⟨n, i3, h3, e3, n0, n1, hi3⟩ := below_eq xs hn i2 h2 hi2 6 (by omega) (by omega)
    obtain ⟨t, i4, h4, e4, _, hi4⟩ := text_ev xs hn i3 h3 hi3 n n0 (by omega)
    exact ⟨a, b, t, i4, h4, Ev.bind e1 (Ev.bind (ev_eq e2) (ev_neg c0 (ev_neg c1 (ev_pos c2 (Ev.bind (ev_eq e3) (Ev.bind e4 (ev_now rfl))))))), hi4⟩
  · exact ⟨a, b, m, i2, h2, Ev.bind e1 (Ev.bind (ev_eq e2) (ev_neg c0 (ev_neg c1 (ev_neg c2 (ev_now rfl))))), hi2⟩
theorem ino_l0 (xs : List Int) (hn : xs.length ≤ 4000000) (kd sz gn : Int) (key : ByteArray) (s0 : 0 ≤ sz) (s1 : sz ≤ 128) : ∀ (j : Nat) (base i h : Int) (rs : List S170), j ≤ 5 → rs.length ≤ j → crs 4000000 i →
    ∃ rs' i' h', Ev (fun k => spec_l12Inode.l0 k base j xs i h kd sz gn key rs) (kd, sz, gn, key, rs', [], i', h') ∧ rs'.length ≤ 10 ∧ crs 4000000 i'
  | j, base, i, h, rs, hj, hr, hi => by
    have hp := sPagesFor_eq sz s0 (by omega)
    have hle : pgF sz ≤ 4 := by unfold pgF; split <;> omega
    by_cases c : (j : Int) < pgF sz
    · obtain ⟨a, b, m, i1, h1, e1, hi1⟩ := drec_ev xs hn i h hi
      by_cases c0 : (j : Int) = 0
      · obtain ⟨rs', i2, h2, e2, hl, hi2⟩ := ino_l0 xs hn kd sz gn key s0 s1 (j + 1) a i1 h1 (rs ++ [(⟨wrap64 (1 + (Int.tmod (wrap64 ((wrap64 (3 * (j : Int))) + a)) 12)), b, m⟩ : S170)]) (by omega) (by simp; omega) hi1
        refine ⟨rs', i2, h2, ?_, hl, hi2⟩
        refine Ev.step (spec_l12Inode.l0.eq_2 _ _ _ _ _ _ _ _ _ _) ?_
        refine Ev.bind (ev_eq hp) (ev_pos c (Ev.bind e1 (ev_pos c0 (ev_pos (by omega) ?_))))
        rw [w64s j (by omega)]
        exact e2
      · obtain ⟨rs', i2, h2, e2, hl, hi2⟩ := ino_l0 xs hn kd sz gn key s0 s1 (j + 1) base i1 h1 (rs ++ [(⟨wrap64 (1 + (Int.tmod (wrap64 ((wrap64 (3 * (j : Int))) + base)) 12)), b, m⟩ : S170)]) (by omega) (by simp; omega) hi1
        refine ⟨rs', i2, h2, ?_, hl, hi2⟩
        refine Ev.step (spec_l12Inode.l0.eq_2 _ _ _ _ _ _ _ _ _ _) ?_
        refine Ev.bind (ev_eq hp) (ev_pos c (Ev.bind e1 (ev_neg c0 (ev_pos (by omega) ?_))))
        rw [w64s j (by omega)]
        exact e2
    · refine ⟨rs, i, h, ?_, by omega, hi⟩
      refine Ev.step (spec_l12Inode.l0.eq_2 _ _ _ _ _ _ _ _ _ _) ?_
      exact Ev.bind (ev_eq hp) (ev_neg c (ev_now rfl))
  termination_by j => 6 - j
theorem ino_l1 (xs : List Int) (hn : xs.length ≤ 4000000) (nm : List ByteArray) (hm : nm.length ≤ 6) (kd sz gn : Int) (key : ByteArray) : ∀ (j : Nat) (i h : Int) (es : List S59), j ≤ 6 → es.length ≤ j → crs 4000000 i →
    ∃ es' i' h', Ev (fun k => spec_l12Inode.l1 k nm j xs i h kd sz gn key es) (kd, sz, gn, key, [], es', i', h') ∧ es'.length ≤ 10 ∧ crs 4000000 i'
  | j, i, h, es, hj, hr, hi => by
    by_cases c : (j : Int) < (nm.length : Int)
    · obtain ⟨b, i1, h1, e1, hi1⟩ := once_eq xs hn i h hi 3 (by omega) (by omega)
      by_cases c0 : b = true
      · obtain ⟨a, i2, h2, e2, _, _, hi2⟩ := below_eq xs hn i1 h1 hi1 5 (by omega) (by omega)
        obtain ⟨es', i3, h3, e3, hl, hi3⟩ := ino_l1 xs hn nm hm kd sz gn key (j + 1) i2 h2 (es ++ [(⟨wrap64 (1 + a), rdOf ByteArray.empty nm (j : Int)⟩ : S59)]) (by omega) (by simp; omega) hi2
        refine ⟨es', i3, h3, ?_, hl, hi3⟩
        refine Ev.step (spec_l12Inode.l1.eq_2 _ _ _ _ _ _ _ _ _ _) ?_
        refine ev_pos c (Ev.bind (ev_eq e1) (ev_pos c0 (Ev.bind (ev_eq e2) (ev_pos (by omega) (ev_pos (by omega) ?_)))))
        rw [w64s j (by omega)]
        exact e3
      · obtain ⟨es', i3, h3, e3, hl, hi3⟩ := ino_l1 xs hn nm hm kd sz gn key (j + 1) i1 h1 es (by omega) (by omega) hi1
        refine ⟨es', i3, h3, ?_, hl, hi3⟩
        refine Ev.step (spec_l12Inode.l1.eq_2 _ _ _ _ _ _ _ _ _ _) ?_
        refine ev_pos c (Ev.bind (ev_eq e1) (ev_neg c0 ?_))
        rw [w64s j (by omega)]
        exact e3
    · refine ⟨es, i, h, ?_, by omega, hi⟩
      refine Ev.step (spec_l12Inode.l1.eq_2 _ _ _ _ _ _ _ _ _ _) ?_
      exact ev_neg c (ev_now rfl)
  termination_by j => 7 - j
theorem inode_ev (xs : List Int) (hn : xs.length ≤ 4000000) (i h : Int) (hi : crs 4000000 i) : ∃ (kd sz gn : Int) (key : ByteArray) (rs : List S170) (es : List S59) (i' h' : Int), Ev (fun k => spec_l12Inode.f k xs i h) (kd, sz, gn, key, rs, es, i', h') ∧ rs.length ≤ 10 ∧ es.length ≤ 10 ∧ crs 4000000 i' := by
  unfold spec_l12Inode.f
  obtain ⟨kd, i1, h1, e1, _, _, hi1⟩ := below_eq xs hn i h hi 3 (by omega) (by omega)
  obtain ⟨gn, i2, h2, e2, _, _, hi2⟩ := below_eq xs hn i1 h1 hi1 9 (by omega) (by omega)
  by_cases c1 : kd = 1
  · obtain ⟨sz, i3, h3, e3, hm, hi3⟩ := pick_eq xs hn i2 h2 hi2 [0, 1, 31, 32, 33, 64, 100, 128] (by decide) (by decide)
    have hb : 0 ≤ sz ∧ sz ≤ 128 := by simp at hm; omega
    obtain ⟨key, i4, h4, e4, _, hi4⟩ := text_ev xs hn i3 h3 hi3 8 (by omega) (by omega)
    obtain ⟨rs, i5, h5, e5, hl, hi5⟩ := ino_l0 xs hn kd sz gn key hb.1 hb.2 0 0 i4 h4 [] (by omega) (by simp) hi4
    exact ⟨kd, sz, gn, key, rs, [], i5, h5, Ev.bind (ev_eq e1) (Ev.bind (ev_eq e2) (ev_pos c1 (Ev.bind (ev_eq e3) (Ev.bind e4 e5)))), hl, by simp, hi5⟩
  by_cases c2 : kd = 2
  · obtain ⟨es, i3, h3, e3, hl, hi3⟩ := ino_l1 xs hn [(⟨#[97]⟩ : ByteArray), (⟨#[97, 98]⟩ : ByteArray), (⟨#[98]⟩ : ByteArray), (⟨#[99]⟩ : ByteArray), (⟨#[100]⟩ : ByteArray), (⟨#[120, 49]⟩ : ByteArray)] (by decide) kd 0 gn (⟨#[]⟩ : ByteArray) 0 i2 h2 [] (by omega) (by simp) hi2
    exact ⟨kd, 0, gn, ⟨#[]⟩, [], es, i3, h3, Ev.bind (ev_eq e1) (Ev.bind (ev_eq e2) (ev_neg c1 (ev_pos c2 e3))), by simp, hl, hi3⟩
  · exact ⟨kd, 0, gn, ⟨#[]⟩, [], [], i2, h2, Ev.bind (ev_eq e1) (Ev.bind (ev_eq e2) (ev_neg c1 (ev_neg c2 (ev_now rfl)))), by simp, by simp, hi2⟩
theorem anyino_ev (xs : List Int) (hn : xs.length ≤ 4000000) (i h : Int) (hi : crs 4000000 i) : ∃ (kd sz gn : Int) (key : ByteArray) (rs : List S170) (es : List S59) (i' h' : Int), Ev (fun k => spec_l12Any.f k xs i h) (kd, sz, gn, key, rs, es, i', h') ∧ rs.length ≤ 11 ∧ es.length ≤ 11 ∧ crs 4000000 i' := by
  unfold spec_l12Any.f
  obtain ⟨kd, sz, gn, key, rs, es, i1, h1, e1, lr, le, hi1⟩ := inode_ev xs hn i h hi
  obtain ⟨s, i2, h2, e2, _, _, hi2⟩ := below_eq xs hn i1 h1 hi1 12 (by omega) (by omega)
  by_cases c0 : s = 0
  · obtain ⟨x, i3, h3, e3, _, hi3⟩ := pick_eq xs hn i2 h2 hi2 [0, 1, 2, 3, (-1)] (by decide) (by decide)
    exact ⟨x, sz, gn, key, rs, es, i3, h3, Ev.bind e1 (Ev.bind (ev_eq e2) (ev_pos c0 (Ev.bind (ev_eq e3) (ev_now rfl)))), by omega, by omega, hi3⟩
  by_cases c1 : s = 1
  · obtain ⟨x, i3, h3, e3, _, hi3⟩ := pick_eq xs hn i2 h2 hi2 [129, (-1), 64, 1] (by decide) (by decide)
    exact ⟨kd, x, gn, key, rs, es, i3, h3, Ev.bind e1 (Ev.bind (ev_eq e2) (ev_neg c0 (ev_pos c1 (Ev.bind (ev_eq e3) (ev_now rfl))))), by omega, by omega, hi3⟩
  by_cases c2 : s = 2
  · obtain ⟨x, i3, h3, e3, _, hi3⟩ := pick_eq xs hn i2 h2 hi2 [65535, 65536, (-1)] (by decide) (by decide)
    exact ⟨kd, sz, x, key, rs, es, i3, h3, Ev.bind e1 (Ev.bind (ev_eq e2) (ev_neg c0 (ev_neg c1 (ev_pos c2 (Ev.bind (ev_eq e3) (ev_now rfl)))))), by omega, by omega, hi3⟩
  by_cases c3 : s = 3
  · obtain ⟨a, b, m, i3, h3, e3, hi3⟩ := anyrec_ev xs hn i2 h2 hi2
    exact ⟨kd, sz, gn, key, rs ++ [⟨a, b, m⟩], es, i3, h3, Ev.bind e1 (Ev.bind (ev_eq e2) (ev_neg c0 (ev_neg c1 (ev_neg c2 (ev_pos c3 (Ev.bind e3 (ev_pos (by dsimp only; omega) (ev_now rfl)))))))), by simp; omega, by omega, hi3⟩
  by_cases c4 : s = 4
  · obtain ⟨a, b, i3, h3, e3, hi3⟩ := anyent_eq xs hn i2 h2 hi2
    exact ⟨kd, sz, gn, key, rs, es ++ [⟨a, b⟩], i3, h3, Ev.bind e1 (Ev.bind (ev_eq e2) (ev_neg c0 (ev_neg c1 (ev_neg c2 (ev_neg c3 (ev_pos c4 (Ev.bind (ev_eq e3) (ev_pos (by dsimp only; omega) (ev_now rfl))))))))), by omega, by simp; omega, hi3⟩
  by_cases c5 : s = 5
  · obtain ⟨n, i3, h3, e3, n0, n1, hi3⟩ := below_eq xs hn i2 h2 hi2 10 (by omega) (by omega)
    obtain ⟨t, i4, h4, e4, _, hi4⟩ := text_ev xs hn i3 h3 hi3 n n0 (by omega)
    exact ⟨kd, sz, gn, t, rs, es, i4, h4, Ev.bind e1 (Ev.bind (ev_eq e2) (ev_neg c0 (ev_neg c1 (ev_neg c2 (ev_neg c3 (ev_neg c4 (ev_pos c5 (Ev.bind (ev_eq e3) (Ev.bind e4 (ev_now rfl)))))))))), by omega, by omega, hi4⟩
  · exact ⟨kd, sz, gn, key, rs, es, i2, h2, Ev.bind e1 (Ev.bind (ev_eq e2) (ev_neg c0 (ev_neg c1 (ev_neg c2 (ev_neg c3 (ev_neg c4 (ev_neg c5 (ev_now rfl)))))))), by omega, by omega, hi2⟩

/-! ### f_inode -/


/-! ### withoutentry -/
theorem sumBy_filter_le {α : Type} (f : α → Nat) (p : α → Bool) : ∀ xs : List α, sumBy f (xs.filter p) ≤ sumBy f xs
  | [] => Nat.le_refl _
  | x :: r => by
    have ih := sumBy_filter_le f p r
    rw [List.filter_cons]
    split
    · rw [sumBy_cons, sumBy_cons]; omega
    · rw [sumBy_cons]; omega
def dropE (p : ByteArray) (es : List S59) : List S59 := es.filter (fun y => !(y.f1.toList == p.toList))
theorem dropE_len (p : ByteArray) (es : List S59) : (dropE p es).length ≤ es.length := List.length_filter_le _ _
theorem sCopyI_eq (kd sz ct : Int) (mk : ByteArray) (rs : List S170) (es : List S59) (hr : rs.length ≤ 4000000) (he : es.length ≤ 4000000) : spec_l12Copy.f kd sz ct mk rs es = some (kd, sz, ct, mk, rs, es) := by
  unfold spec_l12Copy.f
  simp only [Option.bind_some, List.length_nil, Nat.zero_add, List.nil_append]
  rw [if_pos (by omega), if_pos (by omega)]

theorem iCopyI_eq (kd sz ct : Int) (mk : ByteArray) (rs : List S170) (es : List S59) (hr : rs.length ≤ 4000000) (he : es.length ≤ 4000000) : impl_copyInode.f kd sz ct mk rs es = some (kd, sz, ct, mk, rs, es) := by
  unfold impl_copyInode.f slices_Clone_Rec.f slices_Clone_Entry.f
  rw [if_pos (by omega), if_pos (by omega)]; rfl
theorem sWoE_l (p : ByteArray) (kd sz ct : Int) (mk : ByteArray) (rs : List S170) (es : List S59) (hn : es.length ≤ 1048577) : ∀ (i : Nat) (out : List S59), i ≤ es.length → out.length ≤ i → Ev (fun k => spec_WithoutEntry.l0 k p i kd sz ct mk rs es kd sz ct mk rs out) (kd, sz, ct, mk, rs, out ++ dropE p (es.drop i))
  | i, out, hi, ho => by
    refine Ev.step (spec_WithoutEntry.l0.eq_2 _ _ _ _ _ _ _ _ _ _ _ _ _ _) ?_
    by_cases h : i < es.length
    · refine ev_pos (by omega) (ev_pos (by omega) ?_)
      rw [rdiEntry es i h, w64s i (by omega), drop_at es i h]
      unfold dropE
      by_cases he : es[i].f1.toList = p.toList
      · refine ev_pos he (ev_to (sWoE_l p kd sz ct mk rs es hn (i + 1) out (by omega) (by omega)) ?_)
        rw [List.filter_cons, he]; simp [dropE]
      · refine ev_neg he (ev_pos (by omega) (ev_to (sWoE_l p kd sz ct mk rs es hn (i + 1) (out ++ [es[i]]) (by omega) (by simp; omega)) ?_))
        rw [List.filter_cons, beq_false_of_ne he]; simp [dropE]
    · refine ev_neg (by omega) (ev_now ?_)
      rw [List.drop_of_length_le (by omega)]; simp [dropE]
  termination_by i => es.length - i
theorem sWoE_ev (p : ByteArray) (kd sz ct : Int) (mk : ByteArray) (rs : List S170) (es : List S59) (hr : rs.length ≤ 4000000) (hn : es.length ≤ 1048577) : Ev (fun k => spec_WithoutEntry.f k kd sz ct mk rs es p) (kd, sz, ct, mk, rs, dropE p es) := by
  unfold spec_WithoutEntry.f
  refine Ev.bind (ev_eq (sCopyI_eq kd sz ct mk rs es hr (by omega))) ?_
  exact ev_to (sWoE_l p kd sz ct mk rs es hn 0 [] (by omega) (by simp)) (by rw [List.drop_zero, List.nil_append])

theorem iWoE_eq (p : ByteArray) (kd sz ct : Int) (mk : ByteArray) (rs : List S170) (es : List S59) (hr : rs.length ≤ 4000000) (hn : es.length ≤ 1048577) : impl_WithoutEntry.f kd sz ct mk rs es p = some (kd, sz, ct, mk, rs, dropE p es) := by
  unfold impl_WithoutEntry.f
  rw [iCopyI_eq kd sz ct mk rs es hr (by omega), Option.bind_some]
  unfold slices_DeleteFunc_Entry_g98.f
  rw [if_pos (by dsimp only; omega), Option.bind_some]
  rfl

/-! ### blput -/
theorem bl_irr (x : List UInt8) : Op.bytesLess x x = false := by
  have h := bl_leq x x
  cases hb : Op.bytesLess x x with
  | false => rfl
  | true => rw [hb] at h; simp at h
theorem bl_tot {x y : List UInt8} (h : ¬ y = x) : Op.bytesLess y x = !Op.bytesLess x y := by
  have e := bl_leq y x
  rw [beq_false_of_ne h, Bool.or_false] at e
  exact e
theorem ix_put {α : Type} (p : α → Bool) (z : α) : ∀ (l : List α) (i : Nat), (Lib.idxByFrom (fun _ y => p y) z l i = -1 ∧ l.takeWhile (fun y => !p y) = l ∧ l.dropWhile (fun y => !p y) = []) ∨ (Lib.idxByFrom (fun _ y => p y) z l i = ((i + (l.takeWhile (fun y => !p y)).length : Nat) : Int))
  | [], i => .inl ⟨rfl, rfl, rfl⟩
  | y :: r, i => by
    cases h : p y with
    | true => exact .inr (by simp [Lib.idxByFrom, h])
    | false =>
      have e0 : Lib.idxByFrom (fun _ y => p y) z (y :: r) i = Lib.idxByFrom (fun _ y => p y) z r (i + 1) := by simp [Lib.idxByFrom, h]
      rcases ix_put p z r (i + 1) with ⟨e, h1, h2⟩ | e
      · exact .inl ⟨by rw [e0, e], by rw [List.takeWhile_cons]; simp [h, h1], by rw [List.dropWhile_cons]; simp [h, h2]⟩
      · refine .inr ?_
        rw [e0, e, List.takeWhile_cons]
        simp [h]
        omega
theorem take_tw {α : Type} (q : α → Bool) : ∀ l : List α, l.take (l.takeWhile q).length = l.takeWhile q ∧ l.drop (l.takeWhile q).length = l.dropWhile q
  | [] => ⟨rfl, rfl⟩
  | y :: r => by
    rw [List.takeWhile_cons, List.dropWhile_cons]
    cases h : q y with
    | true => simp [take_tw q r]
    | false => simp

/-! ### withentry -/
def insE (x : S59) (d : List S59) : List S59 := d.takeWhile (fun y => Op.bytesLess y.f1.toList x.f1.toList) ++ [x] ++ d.dropWhile (fun y => Op.bytesLess y.f1.toList x.f1.toList)
def putE (x : S59) (xs : List S59) : List S59 := insE x (dropE x.f1 xs)
theorem putE_len (x : S59) (xs : List S59) : (putE x xs).length = (dropE x.f1 xs).length + 1 := by
  have e := congrArg List.length (List.takeWhile_append_dropWhile (p := fun y : S59 => Op.bytesLess y.f1.toList x.f1.toList) (l := dropE x.f1 xs))
  rw [List.length_append] at e
  unfold putE insE
  simp only [List.length_append, List.length_singleton]
  omega
theorem putE_eq (x y : S59) (r : List S59) (h : y.f1.toList = x.f1.toList) : putE x (y :: r) = putE x r := by
  unfold putE dropE
  rw [List.filter_cons, h]; simp
theorem putE_gt (x y : S59) (r : List S59) (h : ¬ y.f1.toList = x.f1.toList) (hl : Op.bytesLess x.f1.toList y.f1.toList = true) : putE x (y :: r) = x :: y :: dropE x.f1 r := by
  have h2 := bl_tot h
  rw [hl] at h2
  unfold putE insE dropE
  rw [List.filter_cons, beq_false_of_ne h]
  simp [h2]
theorem putE_lt (x y : S59) (r : List S59) (h : ¬ y.f1.toList = x.f1.toList) (hl : Op.bytesLess x.f1.toList y.f1.toList = false) : putE x (y :: r) = y :: putE x r := by
  have h2 := bl_tot h
  rw [hl] at h2
  unfold putE insE dropE
  rw [List.filter_cons, beq_false_of_ne h]
  simp [h2]
theorem sWiE_t (e : Int) (p : ByteArray) (kd sz ct : Int) (mk : ByteArray) (rs : List S170) (es : List S59) (hn : es.length ≤ 1048577) : ∀ (i : Nat) (out : List S59), i ≤ es.length → out.length ≤ i + 1 → Ev (fun k => spec_WithEntry.l0 k true i kd sz ct mk rs es e p kd sz ct mk rs out) (kd, sz, ct, mk, rs, out ++ dropE p (es.drop i))
  | i, out, hi, ho => by
    refine Ev.step (spec_WithEntry.l0.eq_2 _ _ _ _ _ _ _ _ _ _ _ _ _ _ _ _) ?_
    by_cases h : i < es.length
    · refine ev_pos (by omega) (ev_pos rfl ?_)
      refine Ev.step (spec_WithEntry.j1.eq_2 _ _ _ _ _ _ _ _ _ _ _ _ _ _ _ _ _) ?_
      refine ev_neg (by simp) (ev_pos (by omega) (ev_pos (by omega) ?_))
      rw [rdiEntry es i h, w64s i (by omega), drop_at es i h]
      unfold dropE
      by_cases he : es[i].f1.toList = p.toList
      · refine ev_pos he (ev_to (sWiE_t e p kd sz ct mk rs es hn (i + 1) out (by omega) (by omega)) ?_)
        rw [List.filter_cons, he]; simp [dropE]
      · refine ev_neg he (ev_pos (by omega) (ev_to (sWiE_t e p kd sz ct mk rs es hn (i + 1) (out ++ [es[i]]) (by omega) (by simp; omega)) ?_))
        rw [List.filter_cons, beq_false_of_ne he]; simp [dropE]
    · refine ev_neg (by omega) (ev_pos rfl (ev_now ?_))
      rw [List.drop_of_length_le (by omega)]; simp [dropE]
  termination_by i => es.length - i
theorem sWiE_f (e : Int) (p : ByteArray) (kd sz ct : Int) (mk : ByteArray) (rs : List S170) (es : List S59) (hn : es.length ≤ 1048577) : ∀ (i : Nat) (out : List S59), i ≤ es.length → out.length ≤ i → Ev (fun k => spec_WithEntry.l0 k false i kd sz ct mk rs es e p kd sz ct mk rs out) (kd, sz, ct, mk, rs, out ++ putE ⟨e, p⟩ (es.drop i))
  | i, out, hi, ho => by
    refine Ev.step (spec_WithEntry.l0.eq_2 _ _ _ _ _ _ _ _ _ _ _ _ _ _ _ _) ?_
    by_cases h : i < es.length
    · refine ev_pos (by omega) (ev_neg (by simp) (ev_pos (by omega) ?_))
      refine Ev.step (spec_WithEntry.j1.eq_2 _ _ _ _ _ _ _ _ _ _ _ _ _ _ _ _ _) ?_
      rw [rdiEntry es i h, w64s i (by omega), drop_at es i h]
      cases hl : Op.bytesLess p.toList es[i].f1.toList with
      | true =>
        refine ev_pos rfl (ev_pos (by omega) (Ev.bind (Ev.now _) (ev_pos (by omega) (ev_pos (by omega) ?_))))
        by_cases he : es[i].f1.toList = p.toList
        · rw [he, bl_irr] at hl; cases hl
        · refine ev_neg he (ev_pos (by simp; omega) (ev_to (sWiE_t e p kd sz ct mk rs es hn (i + 1) _ (by omega) (by simp; omega)) ?_))
          rw [putE_gt ⟨e, p⟩ es[i] _ he hl]
          simp
      | false =>
        refine ev_neg (by simp) (ev_pos (by omega) (ev_pos (by omega) ?_))
        by_cases he : es[i].f1.toList = p.toList
        · refine ev_pos he (ev_to (sWiE_f e p kd sz ct mk rs es hn (i + 1) out (by omega) (by omega)) ?_)
          rw [putE_eq ⟨e, p⟩ es[i] _ he]
        · refine ev_neg he (ev_pos (by omega) (ev_to (sWiE_f e p kd sz ct mk rs es hn (i + 1) (out ++ [es[i]]) (by omega) (by simp; omega)) ?_))
          rw [putE_lt ⟨e, p⟩ es[i] _ he hl]
          simp
    · refine ev_neg (by omega) (ev_neg (by simp) (ev_pos (by omega) (ev_now ?_)))
      rw [List.drop_of_length_le (by omega)]; rfl
  termination_by i => es.length - i
theorem sWiE_ev (e : Int) (p : ByteArray) (kd sz ct : Int) (mk : ByteArray) (rs : List S170) (es : List S59) (hr : rs.length ≤ 4000000) (hn : es.length ≤ 1048577) : Ev (fun k => spec_WithEntry.f k kd sz ct mk rs es e p) (kd, sz, ct, mk, rs, putE ⟨e, p⟩ es) := by
  unfold spec_WithEntry.f
  refine Ev.bind (ev_eq (sCopyI_eq kd sz ct mk rs es hr (by omega))) ?_
  exact ev_to (sWiE_f e p kd sz ct mk rs es hn 0 [] (by omega) (by simp)) (by rw [List.drop_zero, List.nil_append])
theorem iWiE_eq (e : Int) (p : ByteArray) (kd sz ct : Int) (mk : ByteArray) (rs : List S170) (es : List S59) (hr : rs.length ≤ 4000000) (hn : es.length ≤ 1048577) : impl_WithEntry.f kd sz ct mk rs es e p = some (kd, sz, ct, mk, rs, putE ⟨e, p⟩ es) := by
  have hd := dropE_len p es
  unfold impl_WithEntry.f
  rw [iWoE_eq p kd sz ct mk rs es hr hn, Option.bind_some]
  dsimp only
  unfold slices_IndexFunc_Entry_g106.f
  rw [if_pos (by omega), Option.bind_some]
  have hi : ∀ a : Int, 0 ≤ a ∧ a ≤ ((dropE p es).length : Int) → slices_Insert_Entry.f (dropE p es) a [⟨e, p⟩] = some ((dropE p es).take a.toNat ++ [⟨e, p⟩] ++ (dropE p es).drop a.toNat) := fun a ha => by
    unfold slices_Insert_Entry.f
    exact if_pos ⟨ha, rfl, by omega⟩
  have hq : (fun y : S59 => !(!Op.bytesLess y.f1.toList p.toList)) = fun y => Op.bytesLess y.f1.toList p.toList := by funext y; rw [Bool.not_not]
  have hx := ix_put (fun y : S59 => !Op.bytesLess y.f1.toList p.toList) z59 (dropE p es) 0
  rw [hq] at hx
  have ht := take_tw (fun y : S59 => Op.bytesLess y.f1.toList p.toList) (dropE p es)
  have hle : ((dropE p es).takeWhile (fun y : S59 => Op.bytesLess y.f1.toList p.toList)).length ≤ (dropE p es).length := List.Sublist.length_le (List.takeWhile_sublist _)
  rcases hx with ⟨e1, h1, h2⟩ | e1
  · rw [if_pos (by show Lib.idxByFrom _ _ _ 0 < 0; rw [show Lib.idxByFrom (fun _ y => clo106.p e p y) z59 (dropE p es) 0 = -1 from e1]; omega), hi _ (by omega), Option.bind_some]
    unfold putE insE
    show some (kd, sz, ct, mk, rs, (dropE p es).take ((dropE p es).length : Int).toNat ++ [⟨e, p⟩] ++ (dropE p es).drop ((dropE p es).length : Int).toNat) = some (kd, sz, ct, mk, rs, (dropE p es).takeWhile (fun y : S59 => Op.bytesLess y.f1.toList p.toList) ++ [⟨e, p⟩] ++ (dropE p es).dropWhile (fun y : S59 => Op.bytesLess y.f1.toList p.toList))
    rw [h1, h2, Int.toNat_natCast, List.take_length, List.drop_length]
  · have e2 : Lib.idxBy (fun _ y => clo106.p e p y) (dropE p es) z59 = (((dropE p es).takeWhile (fun y : S59 => Op.bytesLess y.f1.toList p.toList)).length : Int) := e1.trans (by rw [Nat.zero_add])
    rw [e2, if_neg (by omega), hi _ (by omega), Option.bind_some, Int.toNat_natCast, ht.1, ht.2]
    rfl
theorem putE_wi (x : S59) (es : List S59) : sumBy wiEntry (putE x es) ≤ wiEntry x + sumBy wiEntry es := by
  have h1 := sumBy_filter_le wiEntry (fun y => !(y.f1.toList == x.f1.toList)) es
  have e := congrArg (sumBy wiEntry) (List.takeWhile_append_dropWhile (p := fun y : S59 => Op.bytesLess y.f1.toList x.f1.toList) (l := dropE x.f1 es))
  have ha : ∀ a b : List S59, sumBy wiEntry (a ++ b) = sumBy wiEntry a + sumBy wiEntry b := fun a b => by simp [sumBy]
  rw [ha] at e
  unfold putE insE
  rw [ha, ha, sumBy_cons, sumBy_nil]
  unfold dropE at e ⊢
  omega

/-! ### freeinode -/
def frI : List S49 → Nat → Int
  | [], _ => -1
  | x :: r, i => if x.f0 = 0 then (if x.f2 < 65535 then (i : Int) else frI r (i + 1)) else frI r (i + 1)

theorem iFree_l (xs : List S49) (hn : xs.length ≤ 1048576) : ∀ (i : Nat), 0 < i → i ≤ xs.length + 1 → Ev (fun k => impl_FreeInode.l0 k xs xs.length i) (frI (xs.drop i) i)
  | i, h0, hi => by
    refine Ev.step (impl_FreeInode.l0.eq_2 _ _ _) ?_
    by_cases h : i < xs.length
    · refine ev_pos (by omega) (ev_pos (by omega) (ev_pos (by omega) (ev_pos (by omega) ?_)))
      rw [rdiInode xs i h, w64s i (by omega), drop_at xs i h]
      simp only [frI]
      by_cases h1 : xs[i].f0 = 0
      · rw [if_pos h1]
        refine ev_pos h1 ?_
        by_cases h2 : xs[i].f2 < 65535
        · rw [if_pos h2]; exact ev_pos h2 (ev_now rfl)
        · rw [if_neg h2]; exact ev_neg h2 (iFree_l xs hn (i + 1) (by omega) (by omega))
      · rw [if_neg h1]; exact ev_neg h1 (iFree_l xs hn (i + 1) (by omega) (by omega))
    · refine ev_neg (by omega) (ev_now ?_)
      rw [List.drop_of_length_le (by omega)]; rfl
  termination_by i => xs.length + 1 - i

theorem iFree_ev (a : Int) (b : List Int) (xs : List S49) (hn : xs.length ≤ 1048576) : Ev (fun k => impl_FreeInode.f k a b xs) (frI (xs.drop 1) 1) := by
  unfold impl_FreeInode.f
  refine Ev.step (impl_FreeInode.l0.eq_2 _ _ _) ?_
  by_cases h : 0 < xs.length
  · refine ev_pos (by omega) (ev_pos (by omega) (ev_pos (by omega) (ev_neg (by omega) ?_)))
    rw [w64 (by omega) (by omega)]
    exact iFree_l xs hn 1 (by omega) (by omega)
  · refine ev_neg (by omega) (ev_now ?_)
    rw [List.drop_of_length_le (by omega)]; rfl

/-! ### FnEntries -/
theorem dwe_ev (xs : List Int) (hn : xs.length ≤ 4000000) : ∃ (kd sz gn : Int) (key : ByteArray) (rs : List S170) (es : List S59) (e : Int) (p : ByteArray), Ev (fun k => spec_DrawWithEntry.f k xs) (kd, sz, gn, key, rs, es, e, p) ∧ rs.length ≤ 11 ∧ es.length ≤ 11 := by
  unfold spec_DrawWithEntry.f
  obtain ⟨r, hr⟩ := new_ev xs hn
  obtain ⟨kd, sz, gn, key, rs, es, i1, h1, e1, lr, le, hi1⟩ := anyino_ev xs hn 0 r ⟨by omega, by omega⟩
  obtain ⟨e, p, i2, h2, e2, hi2⟩ := anyent_eq xs hn i1 h1 hi1
  exact ⟨kd, sz, gn, key, rs, es, e, p, Ev.bind hr (Ev.bind e1 (Ev.bind (ev_eq e2) (ev_now rfl))), lr, le⟩
theorem sameR_l (xs : List S170) (hn : xs.length ≤ 1048576) : ∀ i : Nat, i ≤ xs.length → Ev (fun k => laws_sameRecs.l0 k xs xs i) true
  | i, hi => by
    refine Ev.step (laws_sameRecs.l0.eq_2 _ _ _) ?_
    by_cases h : i < xs.length
    · refine ev_pos (by omega) (ev_pos (by omega) (ev_pos (by omega) (ev_neg (by simp) ?_)))
      rw [w64s i (by omega)]
      exact sameR_l xs hn (i + 1) (by omega)
    · exact ev_neg (by omega) (ev_now rfl)
  termination_by i => xs.length - i
theorem sameE_l (xs : List S59) (hn : xs.length ≤ 1048576) : ∀ i : Nat, i ≤ xs.length → Ev (fun k => laws_sameEntrys.l0 k xs xs i) true
  | i, hi => by
    refine Ev.step (laws_sameEntrys.l0.eq_2 _ _ _) ?_
    by_cases h : i < xs.length
    · refine ev_pos (by omega) (ev_pos (by omega) (ev_pos (by omega) (ev_neg (by simp) ?_)))
      rw [w64s i (by omega)]
      exact sameE_l xs hn (i + 1) (by omega)
    · exact ev_neg (by omega) (ev_now rfl)
  termination_by i => xs.length - i
theorem sameI_ev (kd sz gn : Int) (key : ByteArray) (rs : List S170) (es : List S59) (hr : rs.length ≤ 1048576) (he : es.length ≤ 1048576) : Ev (fun k => laws_sameInode.f k kd sz gn key rs es kd sz gn key rs es) true := by
  unfold laws_sameInode.f laws_sameRecs.f laws_sameEntrys.f
  exact ev_pos rfl (ev_pos rfl (ev_pos rfl (ev_pos rfl (Ev.bind (ev_pos rfl (sameR_l rs hr 0 (by omega))) (ev_pos rfl (Ev.bind (ev_pos rfl (sameE_l es he 0 (by omega))) (ev_now rfl)))))))
theorem filt_put (q : S59 → Bool) (x : S59) (es : List S59) : (putE x es).filter q = ((dropE x.f1 es).takeWhile (fun y => Op.bytesLess y.f1.toList x.f1.toList)).filter q ++ [x].filter q ++ ((dropE x.f1 es).dropWhile (fun y => Op.bytesLess y.f1.toList x.f1.toList)).filter q := by
  unfold putE insE
  rw [List.filter_append, List.filter_append]
theorem drop_put (x : S59) (es : List S59) : dropE x.f1 (putE x es) = dropE x.f1 es := by
  have e := congrArg (List.filter (fun y : S59 => !(y.f1.toList == x.f1.toList))) (List.takeWhile_append_dropWhile (p := fun y : S59 => Op.bytesLess y.f1.toList x.f1.toList) (l := dropE x.f1 es))
  rw [List.filter_append] at e
  show List.filter _ (putE x es) = _
  rw [filt_put, show List.filter (fun y : S59 => !(y.f1.toList == x.f1.toList)) [x] = [] by simp, List.append_nil, e]
  unfold dropE
  rw [List.filter_filter]
  simp
theorem cnt_put (x : S59) (es : List S59) : ((putE x es).filter (fun y => y.f1.toList == x.f1.toList)).length = 1 := by
  have e := congrArg (fun l => (List.filter (fun y : S59 => y.f1.toList == x.f1.toList) l).length) (List.takeWhile_append_dropWhile (p := fun y : S59 => Op.bytesLess y.f1.toList x.f1.toList) (l := dropE x.f1 es))
  have e0 : (List.filter (fun y : S59 => y.f1.toList == x.f1.toList) (dropE x.f1 es)).length = 0 := by
    unfold dropE
    rw [List.filter_filter]
    simp
  simp only [List.filter_append, List.length_append] at e
  rw [filt_put, List.length_append, List.length_append, show List.filter (fun y : S59 => y.f1.toList == x.f1.toList) [x] = [x] by simp]
  simp only [List.length_singleton]
  omega
theorem pnew : spec_PartNew.f 1 6 3 1 = some (0, List.replicate 6 0, [⟨2, 0, 1, (⟨#[]⟩ : ByteArray), [], []⟩, z49, z49]) := by kernel_rfl
theorem fe_l0 (e : Int) (p : ByteArray) (kd sz gn : Int) (key : ByteArray) (rs : List S170) (out : List S59) (kd2 sz2 gn2 : Int) (key2 : ByteArray) (rs2 : List S170) (less : List S59) (hn : out.length ≤ 1048576) (hl : out.length = less.length + 1) : ∀ (i c : Nat), i ≤ out.length → c + ((out.drop i).filter (fun y => y.f1.toList == p.toList)).length = 1 → Ev (fun k => laws_FnEntries.l0 k c i e p kd sz gn key rs out kd2 sz2 gn2 key2 rs2 less) true
  | i, c, hi, hc => by
    refine Ev.step (laws_FnEntries.l0.eq_2 _ _ _ _ _ _ _ _ _ _ _ _ _ _ _ _) ?_
    by_cases h : i < out.length
    · refine ev_pos (by omega) (ev_pos (by omega) ?_)
      rw [rdiEntry out i h, w64s i (by omega)]
      rw [drop_at out i h, List.filter_cons] at hc
      by_cases he : out[i].f1.toList = p.toList
      · rw [if_pos (by simpa using he), List.length_cons] at hc
        refine ev_pos he ?_
        rw [w64s c (by omega)]
        exact fe_l0 e p kd sz gn key rs out kd2 sz2 gn2 key2 rs2 less hn hl (i + 1) (c + 1) (by omega) (by omega)
      · rw [if_neg (by simpa using he)] at hc
        exact ev_neg he (fe_l0 e p kd sz gn key rs out kd2 sz2 gn2 key2 rs2 less hn hl (i + 1) c (by omega) hc)
    · rw [List.drop_of_length_le (by omega)] at hc
      have hc1 : c = 1 := by simpa using hc
      refine ev_neg (by omega) (Ev.bind (ev_eq pnew) (ev_pos (by omega) ?_))
      rw [w64 (x := (out.length : Int) - 1) (by omega) (by omega)]
      exact ev_pos (by omega) (Ev.bind (iFree_ev 0 (List.replicate 6 0) [⟨2, 0, 1, (⟨#[]⟩ : ByteArray), [], []⟩, z49, z49] (by decide)) (ev_now rfl))
  termination_by i => out.length - i
theorem FnEntries : laws_FnEntries.Law := by
  intro xs hx
  apply Ev.rounds
  unfold laws_FnEntries.f laws_big.f
  refine Ev.bind (ev_now rfl) ?_
  by_cases hb : (xs.length : Int) > 1048576
  · exact ev_pos (by simpa using hb) (ev_now rfl)
  refine ev_neg (by simpa using hb) ?_
  obtain ⟨kd, sz, gn, key, rs, es, e, p, hd, lr, le⟩ := dwe_ev xs (by omega)
  have hl1 := putE_len ⟨e, p⟩ es
  have hl2 := dropE_len p es
  have hl3 : (putE ⟨e, p⟩ es).length = (dropE p es).length + 1 := hl1
  have hw := iWoE_eq p kd sz gn key rs (putE ⟨e, p⟩ es) (by omega) (by omega)
  rw [show dropE p (putE ⟨e, p⟩ es) = dropE p es from drop_put ⟨e, p⟩ es] at hw
  refine Ev.step (laws_FnEntries.j0.eq_2 _) ?_
  refine Ev.bind hd ?_
  refine Ev.bind (ev_eq (iWiE_eq e p kd sz gn key rs es (by omega) (by omega))) ?_
  refine Ev.bind (ev_eq hw) ?_
  refine Ev.bind (sWiE_ev e p kd sz gn key rs es (by omega) (by omega)) ?_
  refine Ev.bind (sameI_ev kd sz gn key rs (putE ⟨e, p⟩ es) (by omega) (by omega)) ?_
  refine ev_pos rfl ?_
  refine Ev.bind (sWoE_ev p kd sz gn key rs es (by omega) (by omega)) ?_
  refine Ev.bind (sameI_ev kd sz gn key rs (dropE p es) (by omega) (by omega)) ?_
  refine Ev.step (laws_FnEntries.j1.eq_2 _ _ _ _ _ _ _ _ _ _ _ _ _ _ _) ?_
  refine ev_neg (by simp) ?_
  refine Ev.step (laws_FnEntries.j2.eq_2 _ _ _ _ _ _ _ _ _ _ _ _ _ _) ?_
  exact fe_l0 e p kd sz gn key rs (putE ⟨e, p⟩ es) kd sz gn key rs (dropE p es) (by omega) hl3 0 0 (by omega) (by rw [List.drop_zero, Nat.zero_add]; exact cnt_put ⟨e, p⟩ es)

end Go.Proofs.Ytcdnfkoahajhhaa.Pure
