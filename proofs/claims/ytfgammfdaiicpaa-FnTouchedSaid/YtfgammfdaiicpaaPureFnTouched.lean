/- The pure statement of FnTouched is proved: for all arguments within the row's own bounds the Lean function that the law's walk comes to answers true. Conditions: none beyond these bounds. -/
import Derived.Test.YtfgammfdaiicpaaStFnTouched
import Derived.Test.YtfgammfdaiicpaaBase
namespace Go.Proofs.Ytfgammfdaiicpaa.Pure
open Go.RowKit Go.Proofs.Ytfgammfdaiicpaa.PFnTouched Go.Proofs.YtfgammfdaiicpaaW.PrintWords Go.Proofs.YtfgammfdaiicpaaW.PrintLast Go.Proofs.Ytfgammfdaiicpaa.Base
set_option linter.unusedVariables false
set_option linter.unusedSimpArgs false
/-! ### draw -/
theorem and255 (x : Int) : 0 ≤ Go.bits .and .i64 x 255 ∧ Go.bits .and .i64 x 255 ≤ 255 := by
  have h : (BitVec.ofInt IntKind.i64.bits x &&& BitVec.ofInt IntKind.i64.bits 255).toNat ≤ 255 := by
    rw [BitVec.toNat_and]
    exact Nat.le_trans Nat.and_le_right (by decide)
  show 0 ≤ IntKind.i64.wrap (((BitVec.ofInt IntKind.i64.bits x &&& BitVec.ofInt IntKind.i64.bits 255).toNat : Nat) : Int) ∧ IntKind.i64.wrap (((BitVec.ofInt IntKind.i64.bits x &&& BitVec.ofInt IntKind.i64.bits 255).toNat : Nat) : Int) ≤ 255
  generalize (BitVec.ofInt IntKind.i64.bits x &&& BitVec.ofInt IntKind.i64.bits 255).toNat = m at h
  rw [IntKind.wrap_i64]
  omega
theorem new_l (xs : List Int) (hn : xs.length ≤ 4000000) : ∀ (i : Nat) (h : Int), i ≤ xs.length → ∃ r, Ev (fun k => spec_l01New.l0 k xs h i) (xs, 0, r)
  | i, h, hi => by
    by_cases c : i < xs.length
    · by_cases c2 : (i : Int) < 4000
      · obtain ⟨r, hr⟩ := new_l xs hn (i + 1) (Go.bits .and .i64 (wrap64 ((wrap64 ((wrap64 (h * 131)) + (wrap64 (rd xs i)))) + 7)) 1073741823) (by omega)
        refine ⟨r, ?_⟩
        refine Ev.step (spec_l01New.l0.eq_2 _ _ _) ?_
        refine ev_pos (by omega) (ev_pos c2 (ev_pos (by omega) ?_))
        rw [w64s i (by omega)]
        exact hr
      · refine ⟨h, ?_⟩
        refine Ev.step (spec_l01New.l0.eq_2 _ _ _) ?_
        exact ev_pos (by omega) (ev_neg c2 (ev_now rfl))
    · refine ⟨h, ?_⟩
      refine Ev.step (spec_l01New.l0.eq_2 _ _ _) ?_
      exact ev_neg (by omega) (ev_now rfl)
  termination_by i => xs.length - i
theorem new_ev (xs : List Int) (hn : xs.length ≤ 4000000) : ∃ r, Ev (fun k => spec_l01New.f k xs) (xs, 0, r) := by
  unfold spec_l01New.f
  exact new_l xs hn 0 _ (by omega)
/-- A cursor's place: right, and no further than n. -/
def crs (n i : Int) : Prop := 0 ≤ i ∧ i ≤ n
theorem byte_eq (xs : List Int) (hn : xs.length ≤ 4000000) (i h : Int) (hi : crs 4000000 i) : ∃ b i' h', spec_l01Byte.f xs i h = some (b, i', h') ∧ 0 ≤ b ∧ b ≤ 255 ∧ crs 4000000 i' := by
  unfold spec_l01Byte.f
  obtain ⟨h0, h1⟩ := hi
  by_cases c : i < (xs.length : Int)
  · refine ⟨_, _, _, by rw [if_pos c, if_pos h0], (and255 _).1, (and255 _).2, ?_⟩
    rw [w64 (by omega) (by omega)]
    exact ⟨by omega, by omega⟩
  · exact ⟨_, _, _, by rw [if_neg c], (and255 _).1, (and255 _).2, h0, h1⟩
theorem below_eq (xs : List Int) (hn : xs.length ≤ 4000000) (i h : Int) (hi : crs 4000000 i) (n : Int) (h0 : 0 < n) (h1 : n ≤ 256) : ∃ b i' h', spec_l01Below.f xs i h n = some (b, i', h') ∧ 0 ≤ b ∧ b < n ∧ crs 4000000 i' := by
  unfold spec_l01Below.f
  obtain ⟨b, i', h', e, b0, b1, hi'⟩ := byte_eq xs hn i h hi
  refine ⟨Int.tmod b n, i', h', ?_, ?_, ?_, hi'⟩
  · rw [if_neg (by omega), if_pos h1, e, Option.bind_some, if_neg (by omega)]
  · rw [Int.tmod_eq_emod_of_nonneg b0]; exact Int.emod_nonneg _ (by omega)
  · rw [Int.tmod_eq_emod_of_nonneg b0]; exact Int.emod_lt_of_pos _ h0
theorem pick_eq (xs : List Int) (hn : xs.length ≤ 4000000) (i h : Int) (hi : crs 4000000 i) (l : List Int) (h0 : 0 < l.length) (h1 : l.length ≤ 256) : ∃ x i' h', spec_l01PickInt.f xs i h l = some (x, i', h') ∧ x ∈ l ∧ crs 4000000 i' := by
  unfold spec_l01PickInt.f
  obtain ⟨b, i', h', e, b0, b1, hi'⟩ := below_eq xs hn i h hi (l.length : Int) (by omega) (by omega)
  obtain ⟨m, rfl⟩ := Int.eq_ofNat_of_zero_le b0
  refine ⟨l[m]'(by omega), i', h', ?_, List.getElem_mem _, hi'⟩
  rw [e, Option.bind_some, if_pos b0, if_pos b1, rd_at l m (by omega)]

/-! ### drawtext -/
theorem text_l (xs : List Int) (hn : xs.length ≤ 4000000) (n : Nat) (hb : n ≤ 5000) : ∀ (j : Nat) (o : List Int) (i h : Int), j ≤ n → o.length = j → crs 4000000 i → ∃ t i' h', Ev (fun k => spec_l01Text.l0 k n o j xs i h) (t, i', h') ∧ t.size = n ∧ crs 4000000 i'
  | j, o, i, h, hj, ho, hi => by
    by_cases c : j < n
    · obtain ⟨b, i1, h1, e, b0, b1, hi1⟩ := byte_eq xs hn i h hi
      obtain ⟨t, i2, h2, e2, t2, hi2⟩ := text_l xs hn n hb (j + 1) (o ++ [b % 256]) i1 h1 (by omega) (by simp [ho]) hi1
      refine ⟨t, i2, h2, ?_, t2, hi2⟩
      refine Ev.step (spec_l01Text.l0.eq_2 _ _ _ _ _ _) ?_
      refine ev_pos (by omega) (Ev.bind (ev_eq e) (ev_pos (by omega) ?_))
      rw [w64s j (by omega)]
      exact e2
    · refine ⟨strOfNums o, i, h, ?_, by rw [strOfNums_size]; omega, hi⟩
      refine Ev.step (spec_l01Text.l0.eq_2 _ _ _ _ _ _) ?_
      exact ev_neg (by omega) (ev_now rfl)
  termination_by j => n - j
theorem text_ev (xs : List Int) (hn : xs.length ≤ 4000000) (i h : Int) (hi : crs 4000000 i) (n : Int) (h0 : 0 ≤ n) (h1 : n ≤ 5000) : ∃ t i' h', Ev (fun k => spec_l01Text.f k xs i h n) (t, i', h') ∧ t.size = n.toNat ∧ crs 4000000 i' := by
  obtain ⟨m, rfl⟩ := Int.eq_ofNat_of_zero_le h0
  obtain ⟨t, i2, h2, e2, t2, hi2⟩ := text_l xs hn m (by omega) 0 [] i h (by omega) rfl hi
  refine ⟨t, i2, h2, ?_, by omega, hi2⟩
  unfold spec_l01Text.f
  refine ev_neg (by omega) ?_
  refine Ev.step (spec_l01Text.j0.eq_2 _ _ _ _) ?_
  exact e2

/-! ### lin -/
theorem l01In_eq (a b c : Int) : spec_l01In.f a b c = some (decide (b ≤ a ∧ a ≤ c)) := by
  unfold spec_l01In.f
  by_cases h : a ≥ b
  · rw [if_pos h]; congr 1; simp; omega
  · rw [if_neg h]; congr 1; simp; omega

/-! ### zerotext -/
theorem long_l (n : Nat) (hn : n ≤ 1048576) : ∀ (i : Nat) (ys : List Int), i ≤ n → ys.length = n → (∀ y ∈ ys, y = 0) → Ev (fun k => spec_l01Long.l0 k n 0 ys i) (strOfNums ys)
  | i, ys, hi, hl, hz => by
    refine Ev.step (spec_l01Long.l0.eq_2 _ _ _ _) ?_
    by_cases h : i < n
    · refine ev_pos (by omega) (ev_pos (by omega) (ev_pos (by omega) ?_))
      rw [w64s i (by omega), Int.toNat_natCast]
      have e : ys.set i 0 = ys := by
        apply List.ext_getElem (by simp)
        intro j h1 h2
        rw [List.getElem_set]
        split
        · exact (hz _ (List.getElem_mem h2)).symm
        · rfl
      rw [e]
      exact long_l n hn (i + 1) ys (by omega) hl hz
    · exact ev_neg (by omega) (ev_now rfl)
  termination_by i => n - i
theorem long_ev (n : Nat) (hn : n ≤ 1048576) : Ev (fun k => spec_l01Long.f k n 0) (zb n) := by
  unfold spec_l01Long.f
  refine ev_pos (by omega) (ev_pos (by omega) (ev_to (long_l n hn 0 _ (by omega) (by simp) (by simp)) ?_))
  simp [strOfNums, zb]
theorem zeroText_ev (n : Nat) (hn : n ≤ 20000) : Ev (fun k => spec_ZeroText.f k (n : Int)) (zb n) := by
  unfold spec_ZeroText.f
  exact Ev.bind (ev_eq (l01In_eq _ _ _)) (ev_pos (by simp; omega) (Ev.bind (long_ev n (by omega)) (ev_now rfl)))

/-! ### drawask -/
theorem pickS_eq (xs : List Int) (hn : xs.length ≤ 4000000) (i h : Int) (hi : crs 4000000 i) (l : List ByteArray) (h0 : 0 < l.length) (h1 : l.length ≤ 256) : ∃ x i' h', spec_l01Pick.f xs i h l = some (x, i', h') ∧ crs 4000000 i' := by
  unfold spec_l01Pick.f
  obtain ⟨b, i', h', e, b0, b1, hi'⟩ := below_eq xs hn i h hi (l.length : Int) (by omega) (by omega)
  exact ⟨_, i', h', by rw [e, Option.bind_some, if_pos b0, if_pos b1], hi'⟩
theorem pickB_eq (xs : List Int) (hn : xs.length ≤ 4000000) (i h : Int) (hi : crs 4000000 i) (l : List ByteArray) (h0 : 0 < l.length) (h1 : l.length ≤ 256) : ∃ x i' h', ((spec_l01Pick.f xs i h l).bind fun b => some (b.1, b.2.1, b.2.2)) = some (x, i', h') ∧ crs 4000000 i' := by
  obtain ⟨x, i', h', e, hi'⟩ := pickS_eq xs hn i h hi l h0 h1
  exact ⟨_, _, _, by rw [e, Option.bind_some], hi'⟩
theorem once_eq (xs : List Int) (hn : xs.length ≤ 4000000) (i h : Int) (hi : crs 4000000 i) (n : Int) (h0 : 0 < n) (h1 : n ≤ 256) : ∃ x i' h', spec_l01Once.f xs i h n = some (x, i', h') ∧ crs 4000000 i' := by
  unfold spec_l01Once.f
  obtain ⟨b, i', h', e, b0, b1, hi'⟩ := below_eq xs hn i h hi n h0 h1
  exact ⟨_, i', h', by rw [e, Option.bind_some], hi'⟩
theorem path_eq (xs : List Int) (hn : xs.length ≤ 4000000) (i h : Int) (hi : crs 4000000 i) : ∃ x i' h', spec_l15Path.f xs i h = some (x, i', h') ∧ crs 4000000 i' := by
  unfold spec_l15Path.f
  exact pickB_eq xs hn i h hi _ (by decide) (by decide)
theorem anyP_eq (xs : List Int) (hn : xs.length ≤ 4000000) (i h : Int) (hi : crs 4000000 i) : ∃ x i' h', spec_l15Any.f xs i h = some (x, i', h') ∧ crs 4000000 i' := by
  unfold spec_l15Any.f
  obtain ⟨b, i1, h1, e, hi1⟩ := once_eq xs hn i h hi 5 (by omega) (by omega)
  rw [e, Option.bind_some]
  cases b with
  | true =>
    rw [if_pos rfl]
    exact pickB_eq xs hn i1 h1 hi1 _ (by decide) (by decide)
  | false =>
    obtain ⟨x, i', h', e, hi'⟩ := path_eq xs hn i1 h1 hi1
    exact ⟨_, _, _, by rw [if_neg (by simp), e, Option.bind_some], hi'⟩
theorem long_s (n : Nat) (hn : n ≤ 1048576) (x : Int) : ∀ (i : Nat) (ys : List Int), i ≤ n → ys.length = n → ∃ t, Ev (fun k => spec_l01Long.l0 k n x ys i) t ∧ t.size = n
  | i, ys, hi, hl => by
    by_cases h : i < n
    · obtain ⟨t, e, z⟩ := long_s n hn x (i + 1) (ys.set i x) (by omega) (by simp [hl])
      refine ⟨t, ?_, z⟩
      refine Ev.step (spec_l01Long.l0.eq_2 _ _ _ _) ?_
      refine ev_pos (by omega) (ev_pos (by omega) (ev_pos (by omega) ?_))
      rw [w64s i (by omega), Int.toNat_natCast]
      exact e
    · refine ⟨strOfNums ys, ?_, by rw [strOfNums_size, hl]⟩
      refine Ev.step (spec_l01Long.l0.eq_2 _ _ _ _) ?_
      exact ev_neg (by omega) (ev_now rfl)
  termination_by i => n - i
theorem longx_ev (n : Int) (h0 : 0 ≤ n) (h1 : n ≤ 1048576) (x : Int) : ∃ t, Ev (fun k => spec_l01Long.f k n x) t ∧ t.size = n.toNat := by
  obtain ⟨m, rfl⟩ := Int.eq_ofNat_of_zero_le h0
  obtain ⟨t, e, z⟩ := long_s m (by omega) x 0 (List.replicate m 0) (by omega) (by simp)
  refine ⟨t, ?_, by rw [z, Int.toNat_natCast]⟩
  unfold spec_l01Long.f
  refine ev_pos (by omega) (ev_pos (by omega) ?_)
  rw [Int.toNat_natCast]
  exact e
/-- What an ask's numbers and text keep tu. -/
def askOk (off len : Int) (t : ByteArray) : Prop := (-1 ≤ off ∧ off ≤ 9223372036854775807) ∧ (-1 ≤ len ∧ len ≤ 9223372036854775807) ∧ t.size ≤ 1000
theorem ask_j (xs : List Int) (hn : xs.length ≤ 4000000) (i h : Int) (hi : crs 4000000 i) (kd : Int) (p : ByteArray) : ∃ kd' p' tu off len t i' h', Ev (fun k => spec_l17Ask.j0 k xs i h kd p (⟨#[]⟩ : ByteArray) 0 0 (⟨#[]⟩ : ByteArray)) (kd', p', tu, off, len, t, i', h') ∧ askOk off len t ∧ crs 4000000 i' := by
  have z0 : (⟨#[]⟩ : ByteArray).size ≤ 1000 := Nat.zero_le _
  by_cases k5 : kd = 5
  · obtain ⟨x, i', h', e, hi'⟩ := path_eq xs hn i h hi
    refine ⟨kd, p, x, 0, 0, ⟨#[]⟩, i', h', ?_, ⟨⟨by omega, by omega⟩, ⟨by omega, by omega⟩, z0⟩, hi'⟩
    refine Ev.step (spec_l17Ask.j0.eq_2 _ _ _ _ _ _ _ _ _) ?_
    exact ev_pos k5 (Ev.bind (ev_eq e) (ev_now rfl))
  by_cases k6 : kd = 6
  · obtain ⟨x, i1, h1, e1, m1, hi1⟩ := pick_eq xs hn i h hi [0, 1, 5, 32, 100, 200] (by decide) (by decide)
    obtain ⟨y, i2, h2, e2, m2, hi2⟩ := pick_eq xs hn i1 h1 hi1 [0, 1, 10, 40, 128, 1000] (by decide) (by decide)
    simp only [List.mem_cons, List.not_mem_nil, or_false] at m1 m2
    refine ⟨kd, p, ⟨#[]⟩, x, y, ⟨#[]⟩, i2, h2, ?_, ⟨⟨by omega, by omega⟩, ⟨by omega, by omega⟩, z0⟩, hi2⟩
    refine Ev.step (spec_l17Ask.j0.eq_2 _ _ _ _ _ _ _ _ _) ?_
    exact ev_neg k5 (ev_pos k6 (Ev.bind (ev_eq e1) (Ev.bind (ev_eq e2) (ev_now rfl))))
  by_cases k7 : kd = 7
  · obtain ⟨x, i1, h1, e1, m1, hi1⟩ := pick_eq xs hn i h hi [0, 0, 0, 1, 5, 30, 32, 33, 64, 100] (by decide) (by decide)
    obtain ⟨y, i2, h2, e2, m2, hi2⟩ := pick_eq xs hn i1 h1 hi1 [0, 1, 2, 5, 20, 32, 40] (by decide) (by decide)
    simp only [List.mem_cons, List.not_mem_nil, or_false] at m1 m2
    obtain ⟨t, i3, h3, e3, z3, hi3⟩ := text_ev xs hn i2 h2 hi2 y (by omega) (by omega)
    refine ⟨kd, p, ⟨#[]⟩, x, 0, t, i3, h3, ?_, ⟨⟨by omega, by omega⟩, ⟨by omega, by omega⟩, by omega⟩, hi3⟩
    refine Ev.step (spec_l17Ask.j0.eq_2 _ _ _ _ _ _ _ _ _) ?_
    exact ev_neg k5 (ev_neg k6 (ev_pos k7 (Ev.bind (ev_eq e1) (Ev.bind (ev_eq e2) (Ev.bind e3 (ev_now rfl))))))
  by_cases k8 : kd = 8
  · obtain ⟨x, i1, h1, e1, m1, hi1⟩ := pick_eq xs hn i h hi [0, 1, 5, 31, 32, 33, 64, 70, 128, 129] (by decide) (by decide)
    simp only [List.mem_cons, List.not_mem_nil, or_false] at m1
    refine ⟨kd, p, ⟨#[]⟩, 0, x, ⟨#[]⟩, i1, h1, ?_, ⟨⟨by omega, by omega⟩, ⟨by omega, by omega⟩, z0⟩, hi1⟩
    refine Ev.step (spec_l17Ask.j0.eq_2 _ _ _ _ _ _ _ _ _) ?_
    exact ev_neg k5 (ev_neg k6 (ev_neg k7 (ev_pos k8 (Ev.bind (ev_eq e1) (ev_now rfl)))))
  · refine ⟨kd, p, ⟨#[]⟩, 0, 0, ⟨#[]⟩, i, h, ?_, ⟨⟨by omega, by omega⟩, ⟨by omega, by omega⟩, z0⟩, hi⟩
    refine Ev.step (spec_l17Ask.j0.eq_2 _ _ _ _ _ _ _ _ _) ?_
    exact ev_neg k5 (ev_neg k6 (ev_neg k7 (ev_neg k8 (ev_now rfl))))
theorem ask_ev (xs : List Int) (hn : xs.length ≤ 4000000) (i h : Int) (hi : crs 4000000 i) : ∃ kd p tu off len t i' h', Ev (fun k => spec_l17Ask.f k xs i h) (kd, p, tu, off, len, t, i', h') ∧ askOk off len t ∧ crs 4000000 i' := by
  unfold spec_l17Ask.f
  obtain ⟨kd, i1, h1, e1, m1, hi1⟩ := pick_eq xs hn i h hi [1, 1, 1, 2, 2, 3, 4, 5, 5, 6, 7, 7, 7, 7, 7, 8, 8, 9, 10, 11] (by decide) (by decide)
  obtain ⟨p, i2, h2, e2, hi2⟩ := path_eq xs hn i1 h1 hi1
  obtain ⟨b, i3, h3, e3, hi3⟩ := once_eq xs hn i2 h2 hi2 12 (by omega) (by omega)
  cases b with
  | true =>
    obtain ⟨q, i4, h4, e4, hi4⟩ := anyP_eq xs hn i3 h3 hi3
    obtain ⟨kd', p', tu, off, len, t, i', h', e5, ok, hi'⟩ := ask_j xs hn i4 h4 hi4 kd q
    exact ⟨_, _, _, _, _, _, _, _, Ev.bind (ev_eq e1) (Ev.bind (ev_eq e2) (Ev.bind (ev_eq e3) (ev_pos rfl (Ev.bind (ev_eq e4) e5)))), ok, hi'⟩
  | false =>
    obtain ⟨kd', p', tu, off, len, t, i', h', e5, ok, hi'⟩ := ask_j xs hn i3 h3 hi3 kd p
    exact ⟨_, _, _, _, _, _, _, _, Ev.bind (ev_eq e1) (Ev.bind (ev_eq e2) (Ev.bind (ev_eq e3) (ev_neg (by simp) e5))), ok, hi'⟩
theorem anyA_ev (xs : List Int) (hn : xs.length ≤ 4000000) (i h : Int) (hi : crs 4000000 i) : ∃ kd p tu off len t i' h', Ev (fun k => spec_l17Any.f k xs i h) (kd, p, tu, off, len, t, i', h') ∧ askOk off len t ∧ crs 4000000 i' := by
  unfold spec_l17Any.f
  obtain ⟨kd, p, tu, off, len, t, i1, h1, e1, ok, hi1⟩ := ask_ev xs hn i h hi
  obtain ⟨b, i2, h2, e2, b0, b1, hi2⟩ := below_eq xs hn i1 h1 hi1 12 (by omega) (by omega)
  obtain ⟨ok1, ok2, ok3⟩ := ok
  by_cases k0 : b = 0
  · obtain ⟨x, i3, h3, e3, m3, hi3⟩ := pick_eq xs hn i2 h2 hi2 [0, 12, (-1)] (by decide) (by decide)
    exact ⟨_, _, _, _, _, _, _, _, Ev.bind e1 (Ev.bind (ev_eq e2) (ev_pos k0 (Ev.bind (ev_eq e3) (ev_now rfl)))), ⟨ok1, ok2, ok3⟩, hi3⟩
  by_cases k1 : b = 1
  · obtain ⟨x, i3, h3, e3, hi3⟩ := anyP_eq xs hn i2 h2 hi2
    exact ⟨_, _, _, _, _, _, _, _, Ev.bind e1 (Ev.bind (ev_eq e2) (ev_neg k0 (ev_pos k1 (Ev.bind (ev_eq e3) (ev_now rfl))))), ⟨ok1, ok2, ok3⟩, hi3⟩
  by_cases k2 : b = 2
  · obtain ⟨x, i3, h3, e3, hi3⟩ := anyP_eq xs hn i2 h2 hi2
    exact ⟨_, _, _, _, _, _, _, _, Ev.bind e1 (Ev.bind (ev_eq e2) (ev_neg k0 (ev_neg k1 (ev_pos k2 (Ev.bind (ev_eq e3) (ev_now rfl)))))), ⟨ok1, ok2, ok3⟩, hi3⟩
  by_cases k3 : b = 3
  · obtain ⟨x, i3, h3, e3, m3, hi3⟩ := pick_eq xs hn i2 h2 hi2 [(-1), 9223372036854775807, 127, 128, 129] (by decide) (by decide)
    simp only [List.mem_cons, List.not_mem_nil, or_false] at m3
    exact ⟨_, _, _, x, _, _, _, _, Ev.bind e1 (Ev.bind (ev_eq e2) (ev_neg k0 (ev_neg k1 (ev_neg k2 (ev_pos k3 (Ev.bind (ev_eq e3) (ev_now rfl))))))), ⟨⟨by omega, by omega⟩, ok2, ok3⟩, hi3⟩
  by_cases k4 : b = 4
  · obtain ⟨x, i3, h3, e3, m3, hi3⟩ := pick_eq xs hn i2 h2 hi2 [(-1), 9223372036854775807] (by decide) (by decide)
    simp only [List.mem_cons, List.not_mem_nil, or_false] at m3
    exact ⟨_, _, _, _, x, _, _, _, Ev.bind e1 (Ev.bind (ev_eq e2) (ev_neg k0 (ev_neg k1 (ev_neg k2 (ev_neg k3 (ev_pos k4 (Ev.bind (ev_eq e3) (ev_now rfl)))))))), ⟨ok1, ⟨by omega, by omega⟩, ok3⟩, hi3⟩
  by_cases k5 : b = 5
  · obtain ⟨x, i3, h3, e3, m3, hi3⟩ := pick_eq xs hn i2 h2 hi2 [128, 129, 200, 201] (by decide) (by decide)
    simp only [List.mem_cons, List.not_mem_nil, or_false] at m3
    obtain ⟨u, e4, z4⟩ := longx_ev x (by omega) (by omega) 97
    exact ⟨_, _, _, _, _, u, _, _, Ev.bind e1 (Ev.bind (ev_eq e2) (ev_neg k0 (ev_neg k1 (ev_neg k2 (ev_neg k3 (ev_neg k4 (ev_pos k5 (Ev.bind (ev_eq e3) (Ev.bind e4 (ev_now rfl)))))))))), ⟨ok1, ok2, by omega⟩, hi3⟩
  · exact ⟨_, _, _, _, _, _, _, _, Ev.bind e1 (Ev.bind (ev_eq e2) (ev_neg k0 (ev_neg k1 (ev_neg k2 (ev_neg k3 (ev_neg k4 (ev_neg k5 (ev_now rfl)))))))), ⟨ok1, ok2, ok3⟩, hi2⟩
theorem drawT_ev (xs : List Int) (hn : xs.length ≤ 4000000) : ∃ old kd p tu off len t, Ev (fun k => spec_DrawTouchedBy.f k xs) (old, kd, p, tu, off, len, t) ∧ askOk off len t := by
  unfold spec_DrawTouchedBy.f
  obtain ⟨h0, e0⟩ := new_ev xs hn
  obtain ⟨kd, p, tu, off, len, t, i1, h1, e1, ok, hi1⟩ := anyA_ev xs hn 0 h0 ⟨by omega, by omega⟩
  obtain ⟨b, i2, h2, e2, hi2⟩ := once_eq xs hn i1 h1 hi1 2 (by omega) (by omega)
  obtain ⟨ok1, ok2, ok3⟩ := ok
  cases b with
  | true =>
    obtain ⟨x, i3, h3, e3, m3, hi3⟩ := pick_eq xs hn i2 h2 hi2 [7, 8] (by decide) (by decide)
    obtain ⟨y, i4, h4, e4, m4, hi4⟩ := pick_eq xs hn i3 h3 hi3 [0, 1, 31, 32, 33, 64, 100, 128] (by decide) (by decide)
    obtain ⟨z, i5, h5, e5, m5, hi5⟩ := pick_eq xs hn i4 h4 hi4 [0, 1, 5, 31, 32, 33, 64, 100, 128, 129, (-1)] (by decide) (by decide)
    simp only [List.mem_cons, List.not_mem_nil, or_false] at m4
    exact ⟨_, _, _, _, _, y, _, Ev.bind e0 (Ev.bind e1 (Ev.bind (ev_eq e2) (ev_pos rfl (Ev.bind (ev_eq e3) (Ev.bind (ev_eq e4) (Ev.bind (ev_eq e5) (ev_now rfl))))))), ⟨ok1, ⟨by omega, by omega⟩, ok3⟩⟩
  | false =>
    obtain ⟨z, i5, h5, e5, m5, hi5⟩ := pick_eq xs hn i2 h2 hi2 [0, 1, 5, 31, 32, 33, 64, 100, 128, 129, (-1)] (by decide) (by decide)
    exact ⟨_, _, _, _, _, _, _, Ev.bind e0 (Ev.bind e1 (Ev.bind (ev_eq e2) (ev_neg (by simp) (Ev.bind (ev_eq e5) (ev_now rfl))))), ⟨ok1, ok2, ok3⟩⟩

/-! ### within -/
theorem within_eq (a b c : Int) : impl_within.f a b c = some (decide (b ≤ a ∧ a ≤ c)) := by
  unfold impl_within.f
  by_cases h : a ≥ b
  · rw [if_pos h]; congr 1; simp; omega
  · rw [if_neg h]; congr 1; simp; omega

/-! ### padded -/
theorem repeat_eq (n : Nat) (h : n ≤ 1048576) : strings_Repeat.f (⟨#[0]⟩ : ByteArray) (n : Int) = some (zb n) := by
  unfold strings_Repeat.f
  have h1 : (⟨#[0]⟩ : ByteArray).size = 1 := rfl
  rw [if_pos ⟨by omega, by omega, by rw [Int.toNat_natCast, h1]; omega⟩]
  congr 1
  unfold zb
  rw [← repeat_zero, Int.toNat_natCast]
theorem padded_eq (s : ByteArray) (n : Int) (h0 : 0 ≤ n) (h1 : n ≤ 1048576) (hs : s.size ≤ 4000000) : impl_padded.f s n = some (s ++ zb (n - s.size).toNat) := by
  unfold impl_padded.f
  rw [w64 (by omega) (by omega)]
  have hm : mx 0 (n - (s.size : Int)) = (((n - s.size).toNat : Nat) : Int) := by
    show (if (0 : Int) < n - (s.size : Int) then n - (s.size : Int) else 0) = _
    split <;> omega
  rw [hm, repeat_eq _ (by omega), Option.bind_some, if_pos (by rw [zb_size]; omega)]

/-! ### pageof -/
def pgOf (s : ByteArray) (k : Int) : ByteArray := if 0 ≤ k ∧ k ≤ 3 then ⟨(((s.data.toList.drop (k.toNat * 32)).take 32) ++ List.replicate (32 - ((s.data.toList.drop (k.toNat * 32)).take 32).length) 0).toArray⟩ else ⟨#[]⟩
theorem pg_fill (x : ByteArray) (l : List UInt8) (h : x.data.toList = l) : x ++ zb (32 - x.size) = ⟨(l ++ List.replicate (32 - l.length) 0).toArray⟩ := by
  apply b_inj
  rw [b_app, b_mk, zb_list, h, ← b_len, h]
theorem sPageOf_ev (s : ByteArray) (k : Int) (hs : s.size ≤ 4000000) : Ev (fun n => spec_PageOf.f n s k) (pgOf s k) := by
  unfold spec_PageOf.f pgOf
  refine Ev.bind (ev_eq (l01In_eq _ _ _)) ?_
  by_cases h : 0 ≤ k ∧ k ≤ 3
  · rw [if_pos h]
    refine ev_pos (by simpa using h) ?_
    obtain ⟨q, rfl⟩ := Int.eq_ofNat_of_zero_le h.1
    rw [w64 (by omega) (by omega), Int.toNat_natCast]
    have e : ((q : Int) * 32).toNat = q * 32 := by omega
    rw [e]
    by_cases h1 : (q : Int) * 32 < (s.size : Int)
    · refine ev_pos h1 (ev_pos (by omega) (ev_pos (by omega) (Ev.bind (Ev.now _) ?_)))
      have hx : (s.extract (q * 32) s.size).data.toList = s.data.toList.drop (q * 32) := by rw [b_cut, List.take_of_length_le (by rw [b_len]; omega)]
      have hsz : (s.extract (q * 32) s.size).size = s.size - q * 32 := by rw [ByteArray.size_extract]; omega
      generalize s.extract (q * 32) s.size = y at hx hsz
      rw [← hx]
      by_cases h2 : (y.size : Int) > 32
      · refine ev_pos h2 (ev_pos (by omega) (Ev.bind (Ev.now _) ?_))
        have hy : (y.extract 0 32).data.toList = y.data.toList.take 32 := by rw [b_cut]; rfl
        have hz : (y.extract 0 32).size = 32 := by rw [ByteArray.size_extract]; omega
        rw [w64 (by omega) (by omega), show (32 : Int) - ((y.extract 0 32).size : Int) = ((32 - (y.extract 0 32).size : Nat) : Int) by omega]
        exact Ev.bind (zeroText_ev _ (by omega)) (ev_pos (by rw [zb_size]; omega) (Ev.bind (Ev.now _) (ev_now (pg_fill _ _ hy))))
      · refine ev_neg h2 ?_
        rw [w64 (by omega) (by omega), show (32 : Int) - (y.size : Int) = ((32 - y.size : Nat) : Int) by omega]
        refine Ev.bind (zeroText_ev _ (by omega)) (ev_pos (by rw [zb_size]; omega) (Ev.bind (Ev.now _) (ev_now (pg_fill _ _ ?_))))
        rw [List.take_of_length_le]; rw [b_len]; omega
    · refine ev_neg h1 ?_
      refine Ev.bind (zeroText_ev 32 (by omega)) (ev_pos (by rw [zb_size]; omega) (Ev.bind (Ev.now _) (ev_now ?_)))
      have hn : s.data.toList.drop (q * 32) = [] := List.drop_of_length_le (by rw [b_len]; omega)
      rw [hn]
      apply b_inj
      rw [b_app, b_mk, zb_list]; rfl
  · rw [if_neg h]
    exact ev_neg (by simpa using h) (ev_now rfl)
theorem iPageOf_eq (s : ByteArray) (k : Int) (hs : s.size ≤ 4000000) : impl_PageOf.f s k = some (pgOf s k) := by
  unfold impl_PageOf.f pgOf
  rw [within_eq, Option.bind_some]
  by_cases h : 0 ≤ k ∧ k ≤ 3
  · rw [if_pos h, if_pos (by simpa using h)]
    obtain ⟨q, rfl⟩ := Int.eq_ofNat_of_zero_le h.1
    rw [w64 (x := (q : Int) * 32) (by omega) (by omega), Int.toNat_natCast]
    have m1 : mn ((q : Int) * 32) (s.size : Int) = ((min (q * 32) s.size : Nat) : Int) := by
      show (if (s.size : Int) < (q : Int) * 32 then (s.size : Int) else (q : Int) * 32) = _
      split <;> omega
    rw [m1, w64 (by omega) (by omega)]
    have m2 : mn (((min (q * 32) s.size : Nat) : Int) + 32) (s.size : Int) = ((min (min (q * 32) s.size + 32) s.size : Nat) : Int) := by
      show (if (s.size : Int) < ((min (q * 32) s.size : Nat) : Int) + 32 then (s.size : Int) else ((min (q * 32) s.size : Nat) : Int) + 32) = _
      split <;> omega
    rw [m2, if_pos (by omega), if_pos (by omega), if_pos (by omega), Int.toNat_natCast, Int.toNat_natCast]
    have hx : (s.extract (min (q * 32) s.size) (min (min (q * 32) s.size + 32) s.size)).data.toList = (s.data.toList.drop (q * 32)).take 32 := by
      rw [b_cut, List.drop_take]
      by_cases hq : q * 32 ≤ s.size
      · rw [Nat.min_eq_left hq]
        by_cases hr : q * 32 + 32 ≤ s.size
        · rw [Nat.min_eq_left hr]; congr 1; omega
        · rw [Nat.min_eq_right (by omega), List.take_of_length_le (by rw [List.length_drop, b_len]; omega), List.take_of_length_le (by rw [List.length_drop, b_len]; omega)]
      · rw [Nat.min_eq_right (by omega), List.drop_of_length_le (by rw [b_len]; omega), List.drop_of_length_le (by rw [b_len]; omega)]; simp
    have hsz : (s.extract (min (q * 32) s.size) (min (min (q * 32) s.size + 32) s.size)).size ≤ 32 := by rw [ByteArray.size_extract]; omega
    generalize s.extract (min (q * 32) s.size) (min (min (q * 32) s.size + 32) s.size) = y at hx hsz
    rw [padded_eq y 32 (by omega) (by omega) (by omega), Option.bind_some, show ((32 : Int) - (y.size : Int)).toNat = 32 - y.size by omega, pg_fill y _ hx]
  · rw [if_neg h, if_neg (by simpa using h)]

/-! ### textwith -/
def lay (b : ByteArray) (off : Nat) (t : ByteArray) : ByteArray := ⟨(b.data.toList.take off ++ t.data.toList ++ b.data.toList.drop (off + t.size)).toArray⟩
def twOk (s : ByteArray) (off : Int) (t : ByteArray) : Prop := t.size ≠ 0 ∧ 0 ≤ off ∧ off + t.size ≤ 128 ∧ s.size ≤ 128
open Classical in
noncomputable def tw (s : ByteArray) (off : Int) (t : ByteArray) : ByteArray := if twOk s off t then lay (s ++ zb (off - s.size).toNat) off.toNat t else s
theorem nil_size (t : ByteArray) : t.toList = [] ↔ t.size = 0 := by
  rw [b_toList, ← b_len]
  exact ⟨fun h => by rw [h]; rfl, fun h => List.eq_nil_of_length_eq_zero h⟩
theorem lay_short (b : ByteArray) (off : Nat) (t : ByteArray) (h : b.size ≤ off + t.size) : b.extract 0 off ++ t = lay b off t := by
  apply b_inj
  unfold lay
  have hd : b.data.toList.drop (off + t.size) = [] := List.drop_of_length_le (by rw [b_len]; exact h)
  rw [b_app, b_cut, b_mk, hd]
  simp
theorem lay_long (b : ByteArray) (off : Nat) (t : ByteArray) : b.extract 0 off ++ t ++ b.extract (off + t.size) b.size = lay b off t := by
  apply b_inj
  unfold lay
  have hd : b.data.toList.take b.size = b.data.toList := List.take_of_length_le (by rw [b_len]; exact Nat.le_refl _)
  rw [b_app, b_app, b_cut, b_cut, b_mk, hd]
  simp
theorem tail_ev (b : ByteArray) (off : Int) (t : ByteArray) (h0 : 0 ≤ off) (h1 : off ≤ b.size) (h2 : off + t.size ≤ 128) (h3 : b.size ≤ 1000) : Ev (fun _ => if (wrap64 (off + (t.size : Int))) > (b.size : Int) then (if 0 ≤ off then (if off ≤ (b.size : Int) then ((some (b.extract 0 (off : Int).toNat : ByteArray)).bind fun y => (if y.size + t.size ≤ 9223372036854775807 then ((some (y ++ t : ByteArray)).bind fun z => (some z)) else (none))) else (none)) else (none)) else (if 0 ≤ off then (if off ≤ (b.size : Int) then ((some (b.extract 0 (off : Int).toNat : ByteArray)).bind fun y => (if y.size + t.size ≤ 9223372036854775807 then ((some (y ++ t : ByteArray)).bind fun z => (if 0 ≤ (wrap64 (off + (t.size : Int))) then (if (wrap64 (off + (t.size : Int))) ≤ (b.size : Int) then ((some (b.extract ((wrap64 (off + (t.size : Int))) : Int).toNat b.size : ByteArray)).bind fun u => (if z.size + u.size ≤ 9223372036854775807 then ((some (z ++ u : ByteArray)).bind fun v => (some v)) else (none))) else (none)) else (none))) else (none))) else (none)) else (none))) (lay b off.toNat t) := by
  rw [w64 (by omega) (by omega)]
  obtain ⟨o, rfl⟩ := Int.eq_ofNat_of_zero_le h0
  have e : ((o : Int) + (t.size : Int)).toNat = o + t.size := by omega
  rw [e, Int.toNat_natCast]
  have z1 : (b.extract 0 o).size ≤ 1000 := by rw [ByteArray.size_extract]; omega
  have z2 : (b.extract (o + t.size) b.size).size ≤ 1000 := by rw [ByteArray.size_extract]; omega
  by_cases h : (o : Int) + (t.size : Int) > (b.size : Int)
  · exact ev_pos h (ev_pos h0 (ev_pos h1 (Ev.bind (Ev.now _) (ev_pos (by omega) (Ev.bind (Ev.now _) (ev_now (lay_short b o t (by omega))))))))
  · refine ev_neg h (ev_pos h0 (ev_pos h1 (Ev.bind (Ev.now _) (ev_pos (by omega) (Ev.bind (Ev.now _) (ev_pos (by omega) (ev_pos (by omega) (Ev.bind (Ev.now _) (ev_pos ?_ (Ev.bind (Ev.now _) (ev_now (lay_long b o t))))))))))))
    rw [ByteArray.size_append]; omega
theorem sTextWith_ev (s : ByteArray) (off : Int) (t : ByteArray) (hs : s.size ≤ 4000000) (ht : t.size ≤ 4000000) (ho : (Lit.int .i64 off).wf = true) : Ev (fun k => spec_TextWith.f k s off t) (tw s off t) := by
  unfold spec_TextWith.f
  rw [w64 (x := 128 - (t.size : Int)) (by omega) (by omega)]
  have out : ¬ twOk s off t → Ev (fun k => spec_TextWith.j0 k s off t true) (tw s off t) := by
    intro h
    unfold tw
    rw [if_neg h]
    refine Ev.step (spec_TextWith.j0.eq_2 _ _ _ _) ?_
    exact ev_pos rfl (ev_now rfl)
  by_cases h1 : t.size = 0
  · exact ev_pos ((nil_size t).2 h1) (out (fun h => h.1 h1))
  refine ev_neg (fun h => h1 ((nil_size t).1 h)) ?_
  by_cases h2 : off < 0
  · exact ev_pos h2 (out (fun h => by have := h.2.1; omega))
  refine ev_neg h2 ?_
  by_cases h3 : off > 128 - (t.size : Int)
  · exact ev_pos h3 (out (fun h => by have := h.2.2.1; omega))
  refine ev_neg h3 ?_
  by_cases h4 : (s.size : Int) > 128
  · rw [decide_eq_true h4]
    exact out (fun h => by have := h.2.2.2; omega)
  rw [decide_eq_false h4]
  have ok : twOk s off t := ⟨h1, by omega, by omega, by omega⟩
  unfold tw
  rw [if_pos ok]
  refine Ev.step (spec_TextWith.j0.eq_2 _ _ _ _) ?_
  refine ev_neg (by simp) ?_
  by_cases h5 : (s.size : Int) < off
  · refine ev_pos h5 ?_
    rw [w64 (x := off - (s.size : Int)) (by omega) (by omega), show off - (s.size : Int) = (((off - s.size).toNat : Nat) : Int) by omega]
    refine Ev.bind (zeroText_ev _ (by omega)) (ev_pos (by rw [zb_size]; omega) (Ev.bind (Ev.now _) ?_))
    rw [← show off - (s.size : Int) = (((off - s.size).toNat : Nat) : Int) by omega]
    have hz : (s ++ zb (off - (s.size : Int)).toNat).size = off.toNat := by rw [ByteArray.size_append, zb_size]; omega
    exact tail_ev _ off t (by omega) (by omega) (by omega) (by omega)
  · refine ev_neg h5 ?_
    have e : s ++ zb (off - (s.size : Int)).toNat = s := by
      apply b_inj
      rw [b_app, zb_list, show (off - (s.size : Int)).toNat = 0 by omega]; simp
    rw [e]
    exact tail_ev s off t (by omega) (by omega) (by omega) (by omega)


/-! ### textcut -/
def cutS (s : ByteArray) (n : Int) : ByteArray := if 0 ≤ n ∧ n ≤ 128 then ⟨((s.data.toList ++ List.replicate (n - s.size).toNat 0).take n.toNat).toArray⟩ else s
theorem sTextCut_ev (s : ByteArray) (n : Int) (hs : s.size ≤ 4000000) : Ev (fun k => spec_TextCut.f k s n) (cutS s n) := by
  unfold spec_TextCut.f cutS
  refine Ev.bind (ev_eq (l01In_eq _ _ _)) ?_
  by_cases h : 0 ≤ n ∧ n ≤ 128
  · rw [if_pos h]
    refine ev_pos (by simpa using h) ?_
    by_cases h2 : n ≤ (s.size : Int)
    · refine ev_pos h2 (ev_pos h.1 (ev_now (b_inj ?_)))
      rw [b_cut, b_mk, List.take_append_of_le_length (by rw [b_len]; omega)]; simp
    · refine ev_neg h2 ?_
      rw [w64 (by omega) (by omega), show n - (s.size : Int) = (((n - s.size).toNat : Nat) : Int) by omega]
      refine Ev.bind (zeroText_ev _ (by omega)) (ev_pos (by rw [zb_size]; omega) (ev_now (b_inj ?_)))
      rw [b_app, b_mk, zb_list, List.take_of_length_le]
      · congr 2
      · simp only [List.length_append, b_len, List.length_replicate]; omega
  · rw [if_neg h]
    exact ev_neg (by simpa using h) (ev_now rfl)



/-! ### touched -/
def rng (i : Nat) : List Int := (List.range' i (4 - i)).map (fun j : Nat => (j : Int))
theorem rng_cons (i : Nat) (h : i < 4) : rng i = (i : Int) :: rng (i + 1) := by
  unfold rng
  rw [show 4 - i = (4 - (i + 1)) + 1 by omega, List.range'_succ]
  rfl
theorem rng_nil (i : Nat) (h : 4 ≤ i) : rng i = [] := by
  unfold rng
  rw [show 4 - i = 0 by omega]; rfl
theorem sTouch_l (a b : Int) : ∀ (i : Nat) (o : List Int), o.length ≤ i → i ≤ 4 →
    Ev (fun k => spec_TouchedBy.l0 k o a b i) (o ++ (rng i).filter (fun j => decide (j * 32 < b) && decide ((j + 1) * 32 > a)))
  | i, o, ho, hi => by
    refine Ev.step (spec_TouchedBy.l0.eq_2 _ _ _ _) ?_
    by_cases h : i < 4
    · refine ev_pos (by omega) ?_
      rw [w64s i (by omega), w64 (x := (i : Int) * 32) (by omega) (by omega), w64 (x := ((i + 1 : Nat) : Int) * 32) (by omega) (by omega), rng_cons i h, List.filter_cons]
      by_cases h1 : (i : Int) * 32 < b
      · refine ev_pos h1 ?_
        by_cases h2 : ((i + 1 : Nat) : Int) * 32 > a
        · have h3 : ((i : Int) + 1) * 32 > a := by omega
          refine ev_pos h2 (ev_pos (by omega) (ev_to (sTouch_l a b (i + 1) _ (by simp; omega) (by omega)) ?_))
          simp [h1, h3]
        · have h3 : ¬ ((i : Int) + 1) * 32 > a := by omega
          refine ev_neg h2 (ev_to (sTouch_l a b (i + 1) _ (by omega) (by omega)) ?_)
          simp [h3]
      · refine ev_neg h1 (ev_to (sTouch_l a b (i + 1) _ (by omega) (by omega)) ?_)
        simp [h1]
    · refine ev_neg (by omega) (ev_now ?_)
      rw [rng_nil i (by omega)]; simp
  termination_by i => 4 - i
theorem iPages_l (b : Int) (hb : b ≤ 128) : ∀ (i : Nat) (o : List Int), o.length ≤ i → i ≤ 4 →
    Ev (fun k => impl_pagesFrom.l0 k b o i) (o ++ (rng i).filter (fun j => decide (j * 32 < b)))
  | i, o, ho, hi => by
    refine Ev.step (impl_pagesFrom.l0.eq_2 _ _ _) ?_
    rw [w64s i (by omega), w64 (x := (i : Int) * 32) (by omega) (by omega)]
    by_cases h1 : (i : Int) * 32 < b
    · have h : i < 4 := by omega
      refine ev_pos h1 (ev_pos (by omega) (ev_to (iPages_l b hb (i + 1) _ (by simp; omega) (by omega)) ?_))
      rw [rng_cons i h, List.filter_cons]
      simp [h1]
    · refine ev_neg h1 (ev_now ?_)
      have : (rng i).filter (fun j => decide (j * 32 < b)) = [] := by
        rw [List.filter_eq_nil_iff]
        intro j hj
        unfold rng at hj
        simp only [List.mem_map, List.mem_range'_1] at hj
        obtain ⟨m, hm, rfl⟩ := hj
        simp only [decide_eq_true_eq]; omega
      rw [this, List.append_nil]
  termination_by i => 4 - i
def pgs (a b : Int) : List Int := (rng 0).filter (fun j => decide (j * 32 < b) && decide ((j + 1) * 32 > a))
theorem rng4 : rng 0 = [0, 1, 2, 3] ∧ rng 1 = [1, 2, 3] ∧ rng 2 = [2, 3] ∧ rng 3 = [3] ∧ rng 4 = [] := by decide
theorem pgs_from (a b : Int) (h0 : 0 ≤ a) (h1 : a ≤ 128) : (rng (a / 32).toNat).filter (fun j => decide (j * 32 < b)) = pgs a b := by
  unfold pgs
  obtain ⟨r0, r1, r2, r3, r4⟩ := rng4
  have hq : a / 32 = 0 ∨ a / 32 = 1 ∨ a / 32 = 2 ∨ a / 32 = 3 ∨ a / 32 = 4 := by omega
  rcases hq with hq | hq | hq | hq | hq
  · have e1 : decide (((0 : Int) + 1) * 32 > a) = true := by simp; omega
    have e2 : decide (((1 : Int) + 1) * 32 > a) = true := by simp; omega
    have e3 : decide (((2 : Int) + 1) * 32 > a) = true := by simp; omega
    have e4 : decide (((3 : Int) + 1) * 32 > a) = true := by simp; omega
    rw [hq, r0]; simp only [List.filter_cons, e1, e2, e3, e4, Bool.and_true]; rw [show (0 : Int).toNat = 0 from rfl, r0]; simp only [List.filter_cons]
    simp
  · have e1 : decide (((0 : Int) + 1) * 32 > a) = false := by simp; omega
    have e2 : decide (((1 : Int) + 1) * 32 > a) = true := by simp; omega
    have e3 : decide (((2 : Int) + 1) * 32 > a) = true := by simp; omega
    have e4 : decide (((3 : Int) + 1) * 32 > a) = true := by simp; omega
    rw [hq, r0]; simp only [List.filter_cons, e1, e2, e3, e4, Bool.and_true, Bool.and_false]; rw [show (1 : Int).toNat = 1 from rfl, r1]; simp only [List.filter_cons]
    simp
  · have e1 : decide (((0 : Int) + 1) * 32 > a) = false := by simp; omega
    have e2 : decide (((1 : Int) + 1) * 32 > a) = false := by simp; omega
    have e3 : decide (((2 : Int) + 1) * 32 > a) = true := by simp; omega
    have e4 : decide (((3 : Int) + 1) * 32 > a) = true := by simp; omega
    rw [hq, r0]; simp only [List.filter_cons, e1, e2, e3, e4, Bool.and_true, Bool.and_false]; rw [show (2 : Int).toNat = 2 from rfl, r2]; simp only [List.filter_cons]
    simp
  · have e1 : decide (((0 : Int) + 1) * 32 > a) = false := by simp; omega
    have e2 : decide (((1 : Int) + 1) * 32 > a) = false := by simp; omega
    have e3 : decide (((2 : Int) + 1) * 32 > a) = false := by simp; omega
    have e4 : decide (((3 : Int) + 1) * 32 > a) = true := by simp; omega
    rw [hq, r0]; simp only [List.filter_cons, e1, e2, e3, e4, Bool.and_true, Bool.and_false]; rw [show (3 : Int).toNat = 3 from rfl, r3]; simp only [List.filter_cons]
    simp
  · have e1 : decide (((0 : Int) + 1) * 32 > a) = false := by simp; omega
    have e2 : decide (((1 : Int) + 1) * 32 > a) = false := by simp; omega
    have e3 : decide (((2 : Int) + 1) * 32 > a) = false := by simp; omega
    have e4 : decide (((3 : Int) + 1) * 32 > a) = false := by simp; omega
    rw [hq, r0]; simp only [List.filter_cons, e1, e2, e3, e4, Bool.and_true, Bool.and_false]; rw [show (4 : Int).toNat = 4 from rfl, r4]; simp
theorem pgs_none (a b : Int) (h : ∀ j ∈ rng 0, ¬ (j * 32 < b ∧ (j + 1) * 32 > a)) : pgs a b = [] := by
  unfold pgs
  rw [List.filter_eq_nil_iff]
  intro j hj
  have := h j hj
  simp only [Bool.and_eq_true, decide_eq_true_eq]
  omega
theorem pgs_one (b : Int) (h0 : 0 < b) (h1 : b ≤ 128) : pgs (b - 1) b = [(b - 1) / 32] := by
  rw [← pgs_from (b - 1) b (by omega) (by omega)]
  have hq : (b - 1) / 32 = 0 ∨ (b - 1) / 32 = 1 ∨ (b - 1) / 32 = 2 ∨ (b - 1) / 32 = 3 := by omega
  obtain ⟨r0, r1, r2, r3, r4⟩ := rng4
  rcases hq with hq | hq | hq | hq
  · have e1 : decide ((0 : Int) * 32 < b) = true := by simp; omega
    have e2 : decide ((1 : Int) * 32 < b) = false := by simp; omega
    have e3 : decide ((2 : Int) * 32 < b) = false := by simp; omega
    have e4 : decide ((3 : Int) * 32 < b) = false := by simp; omega
    rw [hq, show (0 : Int).toNat = 0 from rfl, r0]; simp only [List.filter_cons, e1, e2, e3, e4]; simp
  · have e2 : decide ((1 : Int) * 32 < b) = true := by simp; omega
    have e3 : decide ((2 : Int) * 32 < b) = false := by simp; omega
    have e4 : decide ((3 : Int) * 32 < b) = false := by simp; omega
    rw [hq, show (1 : Int).toNat = 1 from rfl, r1]; simp only [List.filter_cons, e2, e3, e4]; simp
  · have e3 : decide ((2 : Int) * 32 < b) = true := by simp; omega
    have e4 : decide ((3 : Int) * 32 < b) = false := by simp; omega
    rw [hq, show (2 : Int).toNat = 2 from rfl, r2]; simp only [List.filter_cons, e3, e4]; simp
  · have e4 : decide ((3 : Int) * 32 < b) = true := by simp; omega
    rw [hq, show (3 : Int).toNat = 3 from rfl, r3]; simp only [List.filter_cons, e4]; simp
theorem pgs_len (a b : Int) : (pgs a b).length ≤ 4 := by
  unfold pgs
  have := List.length_filter_le (fun j => decide (j * 32 < b) && decide ((j + 1) * 32 > a)) (rng 0)
  rw [rng4.1] at this ⊢
  simpa using this
theorem iPages_ev (a b : Int) (h0 : 0 ≤ a) (h1 : a ≤ 128) (hb : b ≤ 128) : Ev (fun k => impl_pagesFrom.f k a b) (pgs a b) := by
  unfold impl_pagesFrom.f
  rw [Int.tdiv_eq_ediv_of_nonneg h0, w64 (by omega) (by omega), ← pgs_from a b h0 h1]
  have := iPages_l b hb (a / 32).toNat [] (by simp) (by omega)
  rw [Int.toNat_of_nonneg (by omega)] at this
  simpa using this
/-- What both come to. -/
def tch (old kd off len : Int) (n : Nat) : List Int :=
  if ¬ (0 ≤ old ∧ old ≤ 128) then []
  else if kd = 7 then (if n = 0 then [] else if ¬ (0 ≤ off ∧ off ≤ 128 - n) then [] else pgs (if off < old then off else old) (off + n))
  else if kd = 8 then (if ¬ (0 ≤ len ∧ len ≤ 128) then [] else if len = old then [] else if len > old then pgs old len else if len % 32 = 0 then [] else pgs (len - 1) len)
  else []
theorem toList_nil (s : ByteArray) : s.toList = [] ↔ s.size = 0 := by
  rw [Go.ByteArray.toList_eq]
  constructor
  · intro h; have := congrArg List.length h; simpa using this
  · intro h; exact List.eq_nil_of_length_eq_zero (by simpa using h)
theorem iTouch_ev (old kd : Int) (p t : ByteArray) (off len : Int) (x : ByteArray) (hx : x.size ≤ 1048576) : Ev (fun k => impl_TouchedBy.f k old kd p t off len x) (tch old kd off len x.size) := by
  unfold impl_TouchedBy.f
  refine Ev.bind (ev_eq (within_eq _ _ _)) ?_
  by_cases h : 0 ≤ old ∧ old ≤ 128
  · refine ev_pos (by simp [h]) ?_
    by_cases h7 : kd = 7
    · refine ev_pos h7 (Ev.bind (ev_eq (within_eq _ _ _)) ?_)
      rw [w64 (by omega) (by omega)]
      by_cases ho : 0 ≤ off ∧ off ≤ 128 - (x.size : Int)
      · refine ev_pos (by simpa using ho) ?_
        by_cases hz : x.size = 0
        · exact ev_pos ((toList_nil x).2 hz) (ev_now (by simp (disch := omega) only [tch, if_pos, if_neg]))
        · refine ev_neg (fun h => hz ((toList_nil x).1 h)) ?_
          rw [w64 (by omega) (by omega)]
          have hm : mn old off = if off < old then off else old := rfl
          rw [hm]
          exact Ev.bind (iPages_ev _ _ (by split <;> omega) (by split <;> omega) (by omega)) (ev_now (by simp (disch := omega) only [tch, if_pos, if_neg]))
      · exact ev_neg (by simpa using ho) (ev_now (by simp (disch := omega) only [tch, if_pos, if_neg]; split <;> rfl))
    · refine ev_neg h7 ?_
      by_cases h8 : kd = 8
      · refine ev_pos h8 (Ev.bind (ev_eq (within_eq _ _ _)) ?_)
        by_cases ho : 0 ≤ len ∧ len ≤ 128
        · refine ev_pos (by simpa using ho) ?_
          by_cases h1 : len > old
          · exact ev_pos h1 (Ev.bind (iPages_ev _ _ (by omega) (by omega) (by omega)) (ev_now (by simp (disch := omega) only [tch, if_pos, if_neg])))
          · refine ev_neg h1 ?_
            by_cases h2 : len < old
            · refine ev_pos h2 ?_
              rw [Int.tmod_eq_emod_of_nonneg ho.1]
              by_cases h3 : len % 32 = 0
              · exact ev_pos h3 (ev_now (by simp (disch := omega) only [tch, if_pos, if_neg]))
              · refine ev_neg h3 (ev_now ?_)
                rw [w64 (x := len - 1) (by omega) (by omega), Int.tdiv_eq_ediv_of_nonneg (by omega), w64 (by omega) (by omega), ← pgs_one len (by omega) (by omega)]
                simp (disch := omega) only [tch, if_pos, if_neg]
            · exact ev_neg h2 (ev_now (by simp (disch := omega) only [tch, if_pos, if_neg]))
        · exact ev_neg (by simpa using ho) (ev_now (by simp (disch := omega) only [tch, if_pos, if_neg]))
      · exact ev_neg h8 (ev_now (by simp (disch := omega) only [tch, if_pos, if_neg]))
  · exact ev_neg (by simpa using h) (ev_now (by simp (disch := omega) only [tch, if_pos, if_neg]))
theorem sTouch_j1 (old a b : Int) : Ev (fun k => spec_TouchedBy.j1 k old [] a b) (if 0 ≤ old ∧ old ≤ 128 ∧ 0 ≤ b ∧ b ≤ 128 then pgs a b else []) := by
  refine Ev.step (spec_TouchedBy.j1.eq_2 _ _ _ _) ?_
  refine Ev.bind (ev_eq (l01In_eq _ _ _)) ?_
  by_cases h : 0 ≤ old ∧ old ≤ 128
  · refine ev_pos (by simpa using h) (Ev.bind (ev_eq (l01In_eq _ _ _)) ?_)
    refine Ev.step (spec_TouchedBy.j2.eq_2 _ _ _ _) ?_
    by_cases hb : 0 ≤ b ∧ b ≤ 128
    · rw [if_pos (by omega)]
      refine ev_neg (by simp; omega) ?_
      have := sTouch_l a b 0 [] (by simp) (by omega)
      simpa [pgs] using this
    · rw [if_neg (by omega)]
      exact ev_pos (by simp; omega) (ev_now rfl)
  · rw [if_neg (by omega)]
    refine ev_neg (by simpa using h) (Ev.step (spec_TouchedBy.j2.eq_2 _ _ _ _) (ev_pos rfl (ev_now rfl)))
theorem sTouch_ev (old kd : Int) (p t : ByteArray) (off len : Int) (x : ByteArray) (hx : x.size ≤ 1048576) (hlo : (Lit.int .i64 len).wf = true) : Ev (fun k => spec_TouchedBy.f k old kd p t off len x) (tch old kd off len x.size) := by
  unfold spec_TouchedBy.f
  refine Ev.bind (Ev.now _) ?_
  by_cases h7 : kd = 7
  · refine ev_pos h7 ?_
    by_cases hz : x.size = 0
    · refine ev_pos ((toList_nil x).2 hz) (Ev.step (spec_TouchedBy.j0.eq_2 _ _ _ _ _ _ _ _ _ _) (ev_pos rfl (ev_now ?_)))
      simp (disch := omega) only [tch, if_pos, if_neg]; split <;> rfl
    · refine ev_neg (fun h => hz ((toList_nil x).1 h)) ?_
      by_cases ho : off < 0
      · refine ev_pos ho (Ev.step (spec_TouchedBy.j0.eq_2 _ _ _ _ _ _ _ _ _ _) (ev_pos rfl (ev_now ?_)))
        simp (disch := omega) only [tch, if_pos, if_neg]; split <;> rfl
      · refine ev_neg ho (Ev.step (spec_TouchedBy.j0.eq_2 _ _ _ _ _ _ _ _ _ _) ?_)
        rw [w64 (x := 128 - (x.size : Int)) (by omega) (by omega)]
        by_cases h1 : off > 128 - (x.size : Int)
        · refine ev_pos (by simpa using h1) (ev_now ?_)
          simp (disch := omega) only [tch, if_pos, if_neg]; split <;> rfl
        · refine ev_neg (by simpa using h1) ?_
          rw [w64 (x := off + (x.size : Int)) (by omega) (by omega)]
          by_cases h2 : off < old
          · refine ev_pos h2 (ev_to (sTouch_j1 _ _ _) ?_)
            by_cases h : 0 ≤ old ∧ old ≤ 128
            · simp (disch := omega) only [tch, if_pos, if_neg]
            · simp (disch := omega) only [tch, if_pos, if_neg]
          · refine ev_neg h2 (ev_to (sTouch_j1 _ _ _) ?_)
            by_cases h : 0 ≤ old ∧ old ≤ 128
            · simp (disch := omega) only [tch, if_pos, if_neg]
            · simp (disch := omega) only [tch, if_pos, if_neg]
  · refine ev_neg h7 ?_
    by_cases h8 : kd = 8
    · refine ev_pos h8 ?_
      by_cases he : len = old
      · refine ev_pos he (ev_now ?_)
        by_cases h : 0 ≤ old ∧ old ≤ 128
        · simp (disch := omega) only [tch, if_pos, if_neg]
        · simp (disch := omega) only [tch, if_pos, if_neg]
      · refine ev_neg he ?_
        have main : ∀ a, (0 ≤ old ∧ old ≤ 128 → 0 ≤ len ∧ len ≤ 128 → pgs a len = if len > old then pgs old len else if len % 32 = 0 then [] else pgs (len - 1) len) →
            Ev (fun k => spec_TouchedBy.j1 k old [] a len) (tch old kd off len x.size) := by
          intro a ha
          refine ev_to (sTouch_j1 _ _ _) ?_
          by_cases h : 0 ≤ old ∧ old ≤ 128
          · by_cases hl : 0 ≤ len ∧ len ≤ 128
            · rw [if_pos (by omega), ha h hl]
              simp (disch := omega) only [tch, if_pos, if_neg]
            · simp (disch := omega) only [tch, if_pos, if_neg]
          · simp (disch := omega) only [tch, if_pos, if_neg]
        have far : len % 32 = 0 → len < old → 0 ≤ len → pgs old len = [] := by
          intro h1 h2 h3
          refine pgs_none _ _ (fun j hj => ?_)
          omega
        have hl2 := wf64 hlo
        by_cases h0 : len ≥ 0
        · refine ev_pos h0 ?_
          by_cases h1 : len < old
          · refine ev_pos h1 ?_
            rw [Int.tmod_eq_emod_of_nonneg h0]
            by_cases h2 : len % 32 > 0
            · refine ev_pos h2 ?_
              rw [w64 (by omega) (by omega)]
              exact main _ (fun _ _ => by rw [if_neg (by omega), if_neg (by omega)])
            · refine ev_neg h2 (main _ (fun _ _ => ?_))
              rw [if_neg (by omega), if_pos (by omega)]
              exact far (by omega) h1 h0
          · exact ev_neg h1 (main _ (fun _ _ => by rw [if_pos (by omega)]))
        · exact ev_neg h0 (main _ (fun _ _ => by omega))
    · exact ev_neg h8 (ev_now (by simp (disch := omega) only [tch, if_pos, if_neg]; split <;> rfl))
theorem tch_len (old kd off len : Int) (n : Nat) : (tch old kd off len n).length ≤ 4 := by
  unfold tch
  have := pgs_len
  repeat' split
  all_goals first | exact this _ _ | simp

/-! ### samepage -/
/-- A page's bytes. -/
def pgl (A : List UInt8) (k : Nat) : List UInt8 := (A.drop (k * 32)).take 32
theorem drop_far (A C : List UInt8) (d : Nat) (h : A.length ≤ d) : (A ++ C).drop d = C.drop (d - A.length) := by
  rw [List.drop_append, List.drop_of_length_le h, List.nil_append]
theorem drop_zs (A : List UInt8) (n d : Nat) (h : n = 0 ∨ A.length + n ≤ d) : (A ++ List.replicate n 0).drop d = A.drop d := by
  rcases h with h | h
  · subst h; simp
  · rw [List.drop_append, List.drop_of_length_le (l := List.replicate n 0) (by rw [List.length_replicate]; omega), List.append_nil]
theorem pgl_take (A : List UInt8) (m k : Nat) (h : k * 32 + 32 ≤ m) : pgl (A.take m) k = pgl A k := by
  unfold pgl
  rw [List.drop_take, List.take_take, Nat.min_eq_left (by omega)]
theorem pgl_app (A B : List UInt8) (k : Nat) (h : k * 32 + 32 ≤ A.length) : pgl (A ++ B) k = pgl A k := by
  unfold pgl
  rw [List.drop_append_of_le_length (by omega), List.take_append_of_le_length (by rw [List.length_drop]; omega)]
theorem pgOf_eq {s u : ByteArray} {k : Nat} (h : pgl s.data.toList k = pgl u.data.toList k) : pgOf s (k : Int) = pgOf u (k : Int) := by
  unfold pgOf
  rw [Int.toNat_natCast]
  have h2 : (s.data.toList.drop (k * 32)).take 32 = (u.data.toList.drop (k * 32)).take 32 := h
  rw [h2]
theorem pgOf_size (s : ByteArray) (k : Nat) (h : k < 4) : (pgOf s (k : Int)).size = 32 := by
  unfold pgOf
  rw [if_pos ⟨by omega, by omega⟩, b_size, List.length_append, List.length_replicate, List.length_take]
  omega
theorem mem_pgs (a b : Int) (k : Nat) (hk : k < 4) : (k : Int) ∈ pgs a b ↔ ((k : Int) * 32 < b ∧ ((k : Int) + 1) * 32 > a) := by
  unfold pgs
  rw [List.mem_filter, rng4.1]
  have : (k : Int) ∈ [(0 : Int), 1, 2, 3] := by
    have : k = 0 ∨ k = 1 ∨ k = 2 ∨ k = 3 := by omega
    rcases this with h | h | h | h <;> subst h <;> decide
  simp [this]
/-- What the text comes to. -/
noncomputable def newsT (tx : ByteArray) (kd off len : Int) (x : ByteArray) : ByteArray := if kd = 8 then cutS tx len else if kd = 7 then tw tx off x else tx
theorem same_page (tx : ByteArray) (ht : tx.size ≤ 128) (kd off len : Int) (x : ByteArray) (k : Nat) (hk : k < 4) : (k : Int) ∈ tch tx.size kd off len x.size ∨ pgOf tx k = pgOf (newsT tx kd off len x) k ∨ ((newsT tx kd off len x).size : Int) ≤ (k : Int) * 32 := by
  have hold : (0 : Int) ≤ (tx.size : Int) ∧ (tx.size : Int) ≤ 128 := by omega
  by_cases h8 : kd = 8
  · subst h8
    have hN : newsT tx 8 off len x = cutS tx len := by unfold newsT; rw [if_pos rfl]
    rw [hN]
    have hT : tch tx.size 8 off len x.size = if ¬ (0 ≤ len ∧ len ≤ 128) then [] else if len = tx.size then [] else if len > tx.size then pgs tx.size len else if len % 32 = 0 then [] else pgs (len - 1) len := by
      unfold tch; rw [if_neg (by omega), if_neg (by omega), if_pos rfl]
    rw [hT]
    by_cases hl : 0 ≤ len ∧ len ≤ 128
    · rw [if_neg (by omega)]
      obtain ⟨m, rfl⟩ := Int.eq_ofNat_of_zero_le hl.1
      have hz : (cutS tx (m : Int)).data.toList = (tx.data.toList ++ List.replicate (m - tx.size) 0).take m := by
        unfold cutS
        rw [if_pos hl, b_mk, Int.toNat_natCast, show ((m : Int) - (tx.size : Int)).toNat = m - tx.size by omega]
      have hs : (cutS tx (m : Int)).size = m := by
        rw [← b_len, hz, List.length_take, List.length_append, List.length_replicate, b_len]; omega
      have near : k * 32 + 32 ≤ m → k * 32 + 32 ≤ tx.size → pgOf tx (k : Int) = pgOf (cutS tx (m : Int)) (k : Int) := by
        intro g1 g2
        refine pgOf_eq ?_
        rw [hz, pgl_take _ _ _ g1, pgl_app _ _ _ (by rw [b_len]; exact g2)]
      rw [hs]
      by_cases e1 : (m : Int) = tx.size
      · right; left
        have : m = tx.size := by omega
        refine pgOf_eq ?_
        rw [hz, this, Nat.sub_self, List.replicate_zero, List.append_nil, List.take_of_length_le (by rw [b_len]; exact Nat.le_refl _)]
      · rw [if_neg e1]
        by_cases e2 : (m : Int) > tx.size
        · rw [if_pos e2, mem_pgs _ _ k hk]
          by_cases g1 : (k : Int) * 32 < m
          · by_cases g2 : ((k : Int) + 1) * 32 > tx.size
            · exact Or.inl ⟨g1, g2⟩
            · exact Or.inr (Or.inl (near (by omega) (by omega)))
          · exact Or.inr (Or.inr (by omega))
        · rw [if_neg e2]
          by_cases e3 : (m : Int) % 32 = 0
          · rw [if_pos e3]
            by_cases g1 : (k : Int) * 32 < m
            · exact Or.inr (Or.inl (near (by omega) (by omega)))
            · exact Or.inr (Or.inr (by omega))
          · rw [if_neg e3, mem_pgs _ _ k hk]
            by_cases g1 : (k : Int) * 32 < m
            · by_cases g2 : ((k : Int) + 1) * 32 > (m : Int) - 1
              · exact Or.inl ⟨g1, g2⟩
              · exact Or.inr (Or.inl (near (by omega) (by omega)))
            · exact Or.inr (Or.inr (by omega))
    · right; left
      have : cutS tx len = tx := by unfold cutS; rw [if_neg hl]
      rw [this]
  by_cases h7 : kd = 7
  · subst h7
    have hN : newsT tx 7 off len x = tw tx off x := by unfold newsT; rw [if_neg (by omega), if_pos rfl]
    rw [hN]
    by_cases ok : twOk tx off x
    · obtain ⟨q1, q2, q3, q4⟩ := ok
      have hT : tch tx.size 7 off len x.size = pgs (if off < tx.size then off else tx.size) (off + x.size) := by
        unfold tch; rw [if_neg (by omega), if_pos rfl, if_neg q1, if_neg (by omega)]
      rw [hT, mem_pgs _ _ k hk]
      obtain ⟨f, rfl⟩ := Int.eq_ofNat_of_zero_le q2
      have et : tw tx (f : Int) x = lay (tx ++ zb (f - tx.size)) f x := by
        unfold tw; rw [if_pos ⟨q1, q2, q3, q4⟩, Int.toNat_natCast, show ((f : Int) - (tx.size : Int)).toNat = f - tx.size by omega]
      have hl : (tw tx (f : Int) x).data.toList = (tx.data.toList ++ List.replicate (f - tx.size) 0).take f ++ x.data.toList ++ (tx.data.toList ++ List.replicate (f - tx.size) 0).drop (f + x.size) := by
        rw [et]; unfold lay; rw [b_mk, b_app, zb_list]
      have hB : (tx.data.toList ++ List.replicate (f - tx.size) (0 : UInt8)).length = max tx.size f := by rw [List.length_append, List.length_replicate, b_len]; omega
      by_cases g1 : (k : Int) * 32 < (f : Int) + x.size
      · by_cases g2 : ((k : Int) + 1) * 32 > (if (f : Int) < tx.size then (f : Int) else tx.size)
        · exact Or.inl ⟨g1, g2⟩
        · right; left
          have g3 : k * 32 + 32 ≤ f ∧ k * 32 + 32 ≤ tx.size := by split at g2 <;> omega
          refine pgOf_eq ?_
          rw [hl, List.append_assoc, pgl_app _ _ _ (by rw [List.length_take, hB]; omega), pgl_take _ _ _ g3.1, pgl_app _ _ _ (by rw [b_len]; exact g3.2)]
      · right; left
        refine pgOf_eq ?_
        have d1 : ((tx.data.toList ++ List.replicate (f - tx.size) (0 : UInt8)).take f ++ x.data.toList).length = f + x.size := by rw [List.length_append, List.length_take, hB, b_len]; omega
        unfold pgl
        congr 1
        rw [hl, drop_far _ _ _ (by omega), d1, List.drop_drop, show f + x.size + (k * 32 - (f + x.size)) = k * 32 by omega, drop_zs _ _ _ (by rw [b_len]; omega)]
    · right; left
      have : tw tx off x = tx := by unfold tw; rw [if_neg ok]
      rw [this]
  · right; left
    have : newsT tx kd off len x = tx := by unfold newsT; rw [if_neg h8, if_neg h7]
    rw [this]

/-! ### FnTouched -/
theorem same_l (xs : List Int) (hn : xs.length ≤ 4000000) : ∀ (i : Nat), i ≤ xs.length → Ev (fun k => laws_sameInts.l0 k xs xs i) true
  | i, hi => by
    refine Ev.step (laws_sameInts.l0.eq_2 _ _ _) ?_
    by_cases h : i < xs.length
    · refine ev_pos (by omega) (ev_pos (by omega) (ev_pos (by omega) (ev_pos rfl ?_)))
      rw [w64s i (by omega)]
      exact same_l xs hn (i + 1) (by omega)
    · exact ev_neg (by omega) (ev_now rfl)
  termination_by i => xs.length - i
theorem same_ev (xs : List Int) (hn : xs.length ≤ 4000000) : Ev (fun k => laws_sameInts.f k xs xs) true := by
  unfold laws_sameInts.f
  exact ev_pos rfl (same_l xs hn 0 (by omega))
theorem ft_l2 (xs : List Int) (hn : xs.length ≤ 4000000) (tx nw : ByteArray) (k : Nat) (hk : k < 4) (a b : ByteArray) (ha : a.size = 32) (hb : b.size = 32) (next : Ev (fun n => laws_FnTouched.l1 n xs tx nw (wrap64 ((k : Int) + 1))) true) : ∀ (i : Nat) (m : Bool), i ≤ xs.length → (m = true ∨ (k : Int) ∈ xs.drop i ∨ a = b ∨ (nw.size : Int) ≤ (k : Int) * 32) → Ev (fun n => laws_FnTouched.l2 n xs tx nw k a b m i) true
  | i, m, hi, hc => by
    refine Ev.step (laws_FnTouched.l2.eq_2 _ _ _ _ _ _ _ _) ?_
    by_cases h : i < xs.length
    · refine ev_pos (by omega) ?_
      rw [w64s i (by omega)]
      cases m with
      | true => exact ev_pos rfl (ft_l2 xs hn tx nw k hk a b ha hb next (i + 1) true (by omega) (Or.inl rfl))
      | false =>
        refine ev_neg (by simp) (ev_pos (by omega) ?_)
        rw [rd_at _ i h]
        refine ft_l2 xs hn tx nw k hk a b ha hb next (i + 1) _ (by omega) ?_
        rw [drop_at xs i h] at hc
        rcases hc with hc | hc | hc | hc
        · cases hc
        · rcases List.mem_cons.1 hc with hc | hc
          · exact Or.inl (by simp [hc])
          · exact Or.inr (Or.inl hc)
        · exact Or.inr (Or.inr (Or.inl hc))
        · exact Or.inr (Or.inr (Or.inr hc))
    · refine ev_neg (by omega) (ev_pos (by omega) (ev_pos (by omega) ?_))
      rw [List.drop_of_length_le (by omega)] at hc
      by_cases hm : m = true
      · exact ev_pos hm next
      · refine ev_neg hm ?_
        by_cases he : a.toList = b.toList
        · exact ev_pos he next
        · refine ev_neg he ?_
          rw [w64 (x := (k : Int) * 32) (by omega) (by omega)]
          rcases hc with hc | hc | hc | hc
          · exact absurd hc hm
          · cases hc
          · exact absurd (by rw [hc]) he
          · exact ev_neg (by omega) next
  termination_by i => xs.length - i
theorem ft_l1 (xs : List Int) (hn : xs.length ≤ 4000000) (tx nw : ByteArray) (ht : tx.size ≤ 4000000) (hw : nw.size ≤ 4000000) (hc : ∀ k : Nat, k < 4 → (k : Int) ∈ xs ∨ pgOf tx k = pgOf nw k ∨ (nw.size : Int) ≤ (k : Int) * 32) : ∀ (k : Nat), k ≤ 4 → Ev (fun n => laws_FnTouched.l1 n xs tx nw k) true
  | k, hk => by
    refine Ev.step (laws_FnTouched.l1.eq_2 _ _ _ _) ?_
    by_cases h : k < 4
    · refine ev_pos (by omega) (Ev.bind (ev_eq (iPageOf_eq _ _ ht)) (Ev.bind (ev_eq (iPageOf_eq _ _ hw)) ?_))
      refine ft_l2 xs hn tx nw k h _ _ (pgOf_size _ k h) (pgOf_size _ k h) (by rw [w64s k (by omega)]; exact ft_l1 xs hn tx nw ht hw hc (k + 1) (by omega)) 0 false (by omega) ?_
      rw [List.drop_zero]
      exact Or.inr (hc k h)
    · exact ev_neg (by omega) (Ev.bind (ev_eq (iPageOf_eq _ _ hw)) (Ev.bind (sPageOf_ev _ _ hw) (ev_now (by simp))))
  termination_by k => 4 - k
theorem cutS_le (s : ByteArray) (n : Int) (h : s.size ≤ 128) : (cutS s n).size ≤ 128 := by
  unfold cutS
  split
  · rw [b_size, List.length_take]; omega
  · exact h
theorem tw_le (s : ByteArray) (off : Int) (t : ByteArray) (h : s.size ≤ 128) : (tw s off t).size ≤ 400 := by
  unfold tw
  split
  · rename_i ok
    obtain ⟨q1, q2, q3, q4⟩ := ok
    unfold lay
    rw [b_size]
    simp only [List.length_append, List.length_take, List.length_drop, b_len, ByteArray.size_append, zb_size]
    omega
  · omega
theorem ft_l0 (old kd : Int) (p tu : ByteArray) (off len : Int) (x : ByteArray) (ok : askOk off len x) (h0 : 0 ≤ old) (h1 : old ≤ 128) : ∀ (tx : ByteArray), (tx.size : Int) ≤ old → Ev (fun n => laws_FnTouched.l0 n old (tch old kd off len x.size) tx kd p tu off len x) true
  | tx, hs => by
    have hl := tch_len old kd off len x.size
    have e1 : (⟨#[113]⟩ : ByteArray).size = 1 := rfl
    refine Ev.step (laws_FnTouched.l0.eq_2 _ _ _ _ _ _ _ _ _) ?_
    by_cases h : (tx.size : Int) < old
    · exact ev_pos h (ev_pos (by omega) (ft_l0 old kd p tu off len x ok h0 h1 (tx ++ ⟨#[113]⟩) (by rw [ByteArray.size_append, e1]; omega)))
    · refine ev_neg h ?_
      have he : old = (tx.size : Int) := by omega
      obtain ⟨ok1, ok2, ok3⟩ := ok
      have hw9 : -9223372036854775808 ≤ off ∧ off ≤ 9223372036854775807 := ⟨by omega, ok1.2⟩
      have hwf : (Lit.int .i64 off).wf = true := by simp only [Lit.wf, Bool.and_eq_true, decide_eq_true_eq]; exact hw9
      have last : ∀ nw : ByteArray, nw = newsT tx kd off len x → nw.size ≤ 400 → Ev (fun n => laws_FnTouched.j4 n (tch old kd off len x.size) tx nw) true := by
        intro nw hw hz
        refine Ev.step (laws_FnTouched.j4.eq_2 _ _ _) ?_
        refine ft_l1 _ (by omega) tx nw (by omega) (by omega) ?_ 0 (by omega)
        intro k hk
        rw [he, hw]
        exact same_page tx (by omega) kd off len x k hk
      by_cases h7 : kd = 7
      · refine ev_pos h7 (Ev.bind (sTextWith_ev tx off x (by omega) (by omega) hwf) ?_)
        refine Ev.step (laws_FnTouched.j3.eq_2 _ _ _ _ _ _ _ _ _) ?_
        exact ev_neg (by omega) (last _ (by unfold newsT; rw [if_neg (by omega), if_pos h7]) (tw_le _ _ _ (by omega)))
      · refine ev_neg h7 ?_
        refine Ev.step (laws_FnTouched.j3.eq_2 _ _ _ _ _ _ _ _ _) ?_
        by_cases h8 : kd = 8
        · exact ev_pos h8 (Ev.bind (sTextCut_ev tx len (by omega)) (last _ (by unfold newsT; rw [if_pos h8]) (by have := cutS_le tx len (by omega); omega)))
        · exact ev_neg h8 (last _ (by unfold newsT; rw [if_neg h8, if_neg h7]) (by omega))
  termination_by tx => 129 - tx.size
  decreasing_by rw [ByteArray.size_append]; omega
theorem FnTouched : laws_FnTouched.Law := by
  intro xs hx
  apply Ev.rounds
  unfold laws_FnTouched.f laws_big.f
  refine Ev.bind (Ev.now _) ?_
  by_cases hb : (xs.length : Int) > 1048576
  · exact ev_pos (by simpa using hb) (ev_now rfl)
  refine ev_neg (by simpa using hb) ?_
  obtain ⟨old, kd, p, tu, off, len, t, e, ok⟩ := drawT_ev xs (by omega)
  obtain ⟨ok1, ok2, ok3⟩ := ok
  have hw9 : -9223372036854775808 ≤ len ∧ len ≤ 9223372036854775807 := ⟨by omega, ok2.2⟩
  have hwl : (Lit.int .i64 len).wf = true := by simp only [Lit.wf, Bool.and_eq_true, decide_eq_true_eq]; exact hw9
  have hl := tch_len old kd off len t.size
  refine Ev.bind e (Ev.bind (iTouch_ev old kd p tu off len t (by omega)) (Ev.bind (sTouch_ev old kd p tu off len t (by omega) hwl) (Ev.bind (same_ev _ (by omega)) (ev_pos rfl ?_))))
  have z2 : (⟨#[97, 98]⟩ : ByteArray).size = 2 := rfl
  have z3 : (pgOf ⟨#[97, 98]⟩ 0).size = 32 := pgOf_size _ 0 (by omega)
  refine Ev.bind (ev_eq (iPageOf_eq _ 0 (by omega))) ?_
  rw [z3]
  refine Ev.step (laws_FnTouched.j0.eq_2 _ _ _ _ _ _ _ _ _) ?_
  refine ev_neg (by simp) ?_
  have bad : ¬ (0 ≤ old ∧ old ≤ 128) → Ev (fun k => laws_FnTouched.j1 k old (tch old kd off len t.size) true kd p tu off len t) true := by
    intro h
    refine Ev.step (laws_FnTouched.j1.eq_2 _ _ _ _ _ _ _ _ _) ?_
    exact ev_pos rfl (ev_now (by unfold tch; rw [if_pos h]; rfl))
  by_cases h0 : old < 0
  · exact ev_pos h0 (bad (by omega))
  · refine ev_neg h0 ?_
    by_cases h1 : old > 128
    · rw [decide_eq_true h1]; exact bad (by omega)
    · rw [decide_eq_false h1]
      refine Ev.step (laws_FnTouched.j1.eq_2 _ _ _ _ _ _ _ _ _) ?_
      have e0 : (⟨#[]⟩ : ByteArray).size = 0 := rfl
      exact ev_neg (by simp) (ft_l0 old kd p tu off len t ⟨ok1, ok2, ok3⟩ (by omega) (by omega) _ (by rw [e0]; omega))

end Go.Proofs.Ytfgammfdaiicpaa.Pure
