/- The pure statement of FnWritten is proved: for all arguments within the row's own bounds the Lean function that the law's walk comes to answers true. Conditions: none beyond these bounds. -/
import Derived.Test.YtfgammfdaiicpaaStFnWritten
import Derived.Test.YtfgammfdaiicpaaBase
namespace Go.Proofs.Ytfgammfdaiicpaa.Pure
open Go.RowKit Go.Proofs.Ytfgammfdaiicpaa.PFnWritten Go.Proofs.YtfgammfdaiicpaaW.PrintWords Go.Proofs.YtfgammfdaiicpaaW.PrintLast Go.Proofs.Ytfgammfdaiicpaa.Base
set_option linter.unusedVariables false
set_option linter.unusedSimpArgs false
/-! ### draw -/
theorem and255 (x : Int) : 0 ≤ Go.bits .and .i64 x 255 ∧ Go.bits .and .i64 x 255 ≤ 255 := by
  have h : (BitVec.ofInt IntKind.i64.bits x &&& BitVec.ofInt IntKind.i64.bits 255).toNat ≤ 255 := by
    rw [BitVec.toNat_and]
    exact Nat.le_trans Nat.and_le_right (by decide)
  show 0 ≤ IntKind.i64.wrap (((BitVec.ofInt IntKind.i64.bits x &&& BitVec.ofInt IntKind.i64.bits 255).toNat : Nat) : Int) ∧ IntKind.i64.wrap (((BitVec.ofInt IntKind.i64.bits x &&& BitVec.ofInt IntKind.i64.bits 255).toNat : Nat) : Int) ≤ 255
  generalize (BitVec.ofInt IntKind.i64.bits x &&& BitVec.ofInt IntKind.i64.bits 255).toNat = m at h
  rw [IntKind.wrap_i64]
  omega
theorem new_l (xs : List Int) (hn : xs.length ≤ 4000000) : ∀ (i : Nat) (h : Int), i ≤ xs.length → ∃ r, Ev (fun k => spec_l01New.l0 k xs h i) (xs, 0, r)
  | i, h, hi => by
    by_cases c : i < xs.length
    · by_cases c2 : (i : Int) < 4000
      · obtain ⟨r, hr⟩ := new_l xs hn (i + 1) (Go.bits .and .i64 (wrap64 ((wrap64 ((wrap64 (h * 131)) + (wrap64 (rd xs i)))) + 7)) 1073741823) (by omega)
        refine ⟨r, ?_⟩
        refine Ev.step (spec_l01New.l0.eq_2 _ _ _) ?_
        refine ev_pos (by omega) (ev_pos c2 (ev_pos (by omega) ?_))
        rw [w64s i (by omega)]
        exact hr
      · refine ⟨h, ?_⟩
        refine Ev.step (spec_l01New.l0.eq_2 _ _ _) ?_
        exact ev_pos (by omega) (ev_neg c2 (ev_now rfl))
    · refine ⟨h, ?_⟩
      refine Ev.step (spec_l01New.l0.eq_2 _ _ _) ?_
      exact ev_neg (by omega) (ev_now rfl)
  termination_by i => xs.length - i
theorem new_ev (xs : List Int) (hn : xs.length ≤ 4000000) : ∃ r, Ev (fun k => spec_l01New.f k xs) (xs, 0, r) := by
  unfold spec_l01New.f
  exact new_l xs hn 0 _ (by omega)
/-- A cursor's place: right, and no further than n. -/
def crs (n i : Int) : Prop := 0 ≤ i ∧ i ≤ n
theorem byte_eq (xs : List Int) (hn : xs.length ≤ 4000000) (i h : Int) (hi : crs 4000000 i) : ∃ b i' h', spec_l01Byte.f xs i h = some (b, i', h') ∧ 0 ≤ b ∧ b ≤ 255 ∧ crs 4000000 i' := by
  unfold spec_l01Byte.f
  obtain ⟨h0, h1⟩ := hi
  by_cases c : i < (xs.length : Int)
  · refine ⟨_, _, _, by rw [if_pos c, if_pos h0], (and255 _).1, (and255 _).2, ?_⟩
    rw [w64 (by omega) (by omega)]
    exact ⟨by omega, by omega⟩
  · exact ⟨_, _, _, by rw [if_neg c], (and255 _).1, (and255 _).2, h0, h1⟩
theorem below_eq (xs : List Int) (hn : xs.length ≤ 4000000) (i h : Int) (hi : crs 4000000 i) (n : Int) (h0 : 0 < n) (h1 : n ≤ 256) : ∃ b i' h', spec_l01Below.f xs i h n = some (b, i', h') ∧ 0 ≤ b ∧ b < n ∧ crs 4000000 i' := by
  unfold spec_l01Below.f
  obtain ⟨b, i', h', e, b0, b1, hi'⟩ := byte_eq xs hn i h hi
  refine ⟨Int.tmod b n, i', h', ?_, ?_, ?_, hi'⟩
  · rw [if_neg (by omega), if_pos h1, e, Option.bind_some, if_neg (by omega)]
  · rw [Int.tmod_eq_emod_of_nonneg b0]; exact Int.emod_nonneg _ (by omega)
  · rw [Int.tmod_eq_emod_of_nonneg b0]; exact Int.emod_lt_of_pos _ h0
theorem pick_eq (xs : List Int) (hn : xs.length ≤ 4000000) (i h : Int) (hi : crs 4000000 i) (l : List Int) (h0 : 0 < l.length) (h1 : l.length ≤ 256) : ∃ x i' h', spec_l01PickInt.f xs i h l = some (x, i', h') ∧ x ∈ l ∧ crs 4000000 i' := by
  unfold spec_l01PickInt.f
  obtain ⟨b, i', h', e, b0, b1, hi'⟩ := below_eq xs hn i h hi (l.length : Int) (by omega) (by omega)
  obtain ⟨m, rfl⟩ := Int.eq_ofNat_of_zero_le b0
  refine ⟨l[m]'(by omega), i', h', ?_, List.getElem_mem _, hi'⟩
  rw [e, Option.bind_some, if_pos b0, if_pos b1, rd_at l m (by omega)]

/-! ### drawtext -/
theorem text_l (xs : List Int) (hn : xs.length ≤ 4000000) (n : Nat) (hb : n ≤ 5000) : ∀ (j : Nat) (o : List Int) (i h : Int), j ≤ n → o.length = j → crs 4000000 i → ∃ t i' h', Ev (fun k => spec_l01Text.l0 k n o j xs i h) (t, i', h') ∧ t.size = n ∧ crs 4000000 i'
  | j, o, i, h, hj, ho, hi => by
    by_cases c : j < n
    · obtain ⟨b, i1, h1, e, b0, b1, hi1⟩ := byte_eq xs hn i h hi
      obtain ⟨t, i2, h2, e2, t2, hi2⟩ := text_l xs hn n hb (j + 1) (o ++ [b % 256]) i1 h1 (by omega) (by simp [ho]) hi1
      refine ⟨t, i2, h2, ?_, t2, hi2⟩
      refine Ev.step (spec_l01Text.l0.eq_2 _ _ _ _ _ _) ?_
      refine ev_pos (by omega) (Ev.bind (ev_eq e) (ev_pos (by omega) ?_))
      rw [w64s j (by omega)]
      exact e2
    · refine ⟨strOfNums o, i, h, ?_, by rw [strOfNums_size]; omega, hi⟩
      refine Ev.step (spec_l01Text.l0.eq_2 _ _ _ _ _ _) ?_
      exact ev_neg (by omega) (ev_now rfl)
  termination_by j => n - j
theorem text_ev (xs : List Int) (hn : xs.length ≤ 4000000) (i h : Int) (hi : crs 4000000 i) (n : Int) (h0 : 0 ≤ n) (h1 : n ≤ 5000) : ∃ t i' h', Ev (fun k => spec_l01Text.f k xs i h n) (t, i', h') ∧ t.size = n.toNat ∧ crs 4000000 i' := by
  obtain ⟨m, rfl⟩ := Int.eq_ofNat_of_zero_le h0
  obtain ⟨t, i2, h2, e2, t2, hi2⟩ := text_l xs hn m (by omega) 0 [] i h (by omega) rfl hi
  refine ⟨t, i2, h2, ?_, by omega, hi2⟩
  unfold spec_l01Text.f
  refine ev_neg (by omega) ?_
  refine Ev.step (spec_l01Text.j0.eq_2 _ _ _ _) ?_
  exact e2

/-! ### lin -/
theorem l01In_eq (a b c : Int) : spec_l01In.f a b c = some (decide (b ≤ a ∧ a ≤ c)) := by
  unfold spec_l01In.f
  by_cases h : a ≥ b
  · rw [if_pos h]; congr 1; simp; omega
  · rw [if_neg h]; congr 1; simp; omega

/-! ### zerotext -/
theorem long_l (n : Nat) (hn : n ≤ 1048576) : ∀ (i : Nat) (ys : List Int), i ≤ n → ys.length = n → (∀ y ∈ ys, y = 0) → Ev (fun k => spec_l01Long.l0 k n 0 ys i) (strOfNums ys)
  | i, ys, hi, hl, hz => by
    refine Ev.step (spec_l01Long.l0.eq_2 _ _ _ _) ?_
    by_cases h : i < n
    · refine ev_pos (by omega) (ev_pos (by omega) (ev_pos (by omega) ?_))
      rw [w64s i (by omega), Int.toNat_natCast]
      have e : ys.set i 0 = ys := by
        apply List.ext_getElem (by simp)
        intro j h1 h2
        rw [List.getElem_set]
        split
        · exact (hz _ (List.getElem_mem h2)).symm
        · rfl
      rw [e]
      exact long_l n hn (i + 1) ys (by omega) hl hz
    · exact ev_neg (by omega) (ev_now rfl)
  termination_by i => n - i
theorem long_ev (n : Nat) (hn : n ≤ 1048576) : Ev (fun k => spec_l01Long.f k n 0) (zb n) := by
  unfold spec_l01Long.f
  refine ev_pos (by omega) (ev_pos (by omega) (ev_to (long_l n hn 0 _ (by omega) (by simp) (by simp)) ?_))
  simp [strOfNums, zb]
theorem zeroText_ev (n : Nat) (hn : n ≤ 20000) : Ev (fun k => spec_ZeroText.f k (n : Int)) (zb n) := by
  unfold spec_ZeroText.f
  exact Ev.bind (ev_eq (l01In_eq _ _ _)) (ev_pos (by simp; omega) (Ev.bind (long_ev n (by omega)) (ev_now rfl)))

/-! ### padded -/
theorem repeat_eq (n : Nat) (h : n ≤ 1048576) : strings_Repeat.f (⟨#[0]⟩ : ByteArray) (n : Int) = some (zb n) := by
  unfold strings_Repeat.f
  have h1 : (⟨#[0]⟩ : ByteArray).size = 1 := rfl
  rw [if_pos ⟨by omega, by omega, by rw [Int.toNat_natCast, h1]; omega⟩]
  congr 1
  unfold zb
  rw [← repeat_zero, Int.toNat_natCast]
theorem padded_eq (s : ByteArray) (n : Int) (h0 : 0 ≤ n) (h1 : n ≤ 1048576) (hs : s.size ≤ 4000000) : impl_padded.f s n = some (s ++ zb (n - s.size).toNat) := by
  unfold impl_padded.f
  rw [w64 (by omega) (by omega)]
  have hm : mx 0 (n - (s.size : Int)) = (((n - s.size).toNat : Nat) : Int) := by
    show (if (0 : Int) < n - (s.size : Int) then n - (s.size : Int) else 0) = _
    split <;> omega
  rw [hm, repeat_eq _ (by omega), Option.bind_some, if_pos (by rw [zb_size]; omega)]

/-! ### textwith -/
def lay (b : ByteArray) (off : Nat) (t : ByteArray) : ByteArray := ⟨(b.data.toList.take off ++ t.data.toList ++ b.data.toList.drop (off + t.size)).toArray⟩
def twOk (s : ByteArray) (off : Int) (t : ByteArray) : Prop := t.size ≠ 0 ∧ 0 ≤ off ∧ off + t.size ≤ 128 ∧ s.size ≤ 128
open Classical in
noncomputable def tw (s : ByteArray) (off : Int) (t : ByteArray) : ByteArray := if twOk s off t then lay (s ++ zb (off - s.size).toNat) off.toNat t else s
theorem nil_size (t : ByteArray) : t.toList = [] ↔ t.size = 0 := by
  rw [b_toList, ← b_len]
  exact ⟨fun h => by rw [h]; rfl, fun h => List.eq_nil_of_length_eq_zero h⟩
theorem lay_short (b : ByteArray) (off : Nat) (t : ByteArray) (h : b.size ≤ off + t.size) : b.extract 0 off ++ t = lay b off t := by
  apply b_inj
  unfold lay
  have hd : b.data.toList.drop (off + t.size) = [] := List.drop_of_length_le (by rw [b_len]; exact h)
  rw [b_app, b_cut, b_mk, hd]
  simp
theorem lay_long (b : ByteArray) (off : Nat) (t : ByteArray) : b.extract 0 off ++ t ++ b.extract (off + t.size) b.size = lay b off t := by
  apply b_inj
  unfold lay
  have hd : b.data.toList.take b.size = b.data.toList := List.take_of_length_le (by rw [b_len]; exact Nat.le_refl _)
  rw [b_app, b_app, b_cut, b_cut, b_mk, hd]
  simp
theorem tail_ev (b : ByteArray) (off : Int) (t : ByteArray) (h0 : 0 ≤ off) (h1 : off ≤ b.size) (h2 : off + t.size ≤ 128) (h3 : b.size ≤ 1000) : Ev (fun _ => if (wrap64 (off + (t.size : Int))) > (b.size : Int) then (if 0 ≤ off then (if off ≤ (b.size : Int) then ((some (b.extract 0 (off : Int).toNat : ByteArray)).bind fun y => (if y.size + t.size ≤ 9223372036854775807 then ((some (y ++ t : ByteArray)).bind fun z => (some z)) else (none))) else (none)) else (none)) else (if 0 ≤ off then (if off ≤ (b.size : Int) then ((some (b.extract 0 (off : Int).toNat : ByteArray)).bind fun y => (if y.size + t.size ≤ 9223372036854775807 then ((some (y ++ t : ByteArray)).bind fun z => (if 0 ≤ (wrap64 (off + (t.size : Int))) then (if (wrap64 (off + (t.size : Int))) ≤ (b.size : Int) then ((some (b.extract ((wrap64 (off + (t.size : Int))) : Int).toNat b.size : ByteArray)).bind fun u => (if z.size + u.size ≤ 9223372036854775807 then ((some (z ++ u : ByteArray)).bind fun v => (some v)) else (none))) else (none)) else (none))) else (none))) else (none)) else (none))) (lay b off.toNat t) := by
  rw [w64 (by omega) (by omega)]
  obtain ⟨o, rfl⟩ := Int.eq_ofNat_of_zero_le h0
  have e : ((o : Int) + (t.size : Int)).toNat = o + t.size := by omega
  rw [e, Int.toNat_natCast]
  have z1 : (b.extract 0 o).size ≤ 1000 := by rw [ByteArray.size_extract]; omega
  have z2 : (b.extract (o + t.size) b.size).size ≤ 1000 := by rw [ByteArray.size_extract]; omega
  by_cases h : (o : Int) + (t.size : Int) > (b.size : Int)
  · exact ev_pos h (ev_pos h0 (ev_pos h1 (Ev.bind (Ev.now _) (ev_pos (by omega) (Ev.bind (Ev.now _) (ev_now (lay_short b o t (by omega))))))))
  · refine ev_neg h (ev_pos h0 (ev_pos h1 (Ev.bind (Ev.now _) (ev_pos (by omega) (Ev.bind (Ev.now _) (ev_pos (by omega) (ev_pos (by omega) (Ev.bind (Ev.now _) (ev_pos ?_ (Ev.bind (Ev.now _) (ev_now (lay_long b o t))))))))))))
    rw [ByteArray.size_append]; omega
theorem sTextWith_ev (s : ByteArray) (off : Int) (t : ByteArray) (hs : s.size ≤ 4000000) (ht : t.size ≤ 4000000) (ho : (Lit.int .i64 off).wf = true) : Ev (fun k => spec_TextWith.f k s off t) (tw s off t) := by
  unfold spec_TextWith.f
  rw [w64 (x := 128 - (t.size : Int)) (by omega) (by omega)]
  have out : ¬ twOk s off t → Ev (fun k => spec_TextWith.j0 k s off t true) (tw s off t) := by
    intro h
    unfold tw
    rw [if_neg h]
    refine Ev.step (spec_TextWith.j0.eq_2 _ _ _ _) ?_
    exact ev_pos rfl (ev_now rfl)
  by_cases h1 : t.size = 0
  · exact ev_pos ((nil_size t).2 h1) (out (fun h => h.1 h1))
  refine ev_neg (fun h => h1 ((nil_size t).1 h)) ?_
  by_cases h2 : off < 0
  · exact ev_pos h2 (out (fun h => by have := h.2.1; omega))
  refine ev_neg h2 ?_
  by_cases h3 : off > 128 - (t.size : Int)
  · exact ev_pos h3 (out (fun h => by have := h.2.2.1; omega))
  refine ev_neg h3 ?_
  by_cases h4 : (s.size : Int) > 128
  · rw [decide_eq_true h4]
    exact out (fun h => by have := h.2.2.2; omega)
  rw [decide_eq_false h4]
  have ok : twOk s off t := ⟨h1, by omega, by omega, by omega⟩
  unfold tw
  rw [if_pos ok]
  refine Ev.step (spec_TextWith.j0.eq_2 _ _ _ _) ?_
  refine ev_neg (by simp) ?_
  by_cases h5 : (s.size : Int) < off
  · refine ev_pos h5 ?_
    rw [w64 (x := off - (s.size : Int)) (by omega) (by omega), show off - (s.size : Int) = (((off - s.size).toNat : Nat) : Int) by omega]
    refine Ev.bind (zeroText_ev _ (by omega)) (ev_pos (by rw [zb_size]; omega) (Ev.bind (Ev.now _) ?_))
    rw [← show off - (s.size : Int) = (((off - s.size).toNat : Nat) : Int) by omega]
    have hz : (s ++ zb (off - (s.size : Int)).toNat).size = off.toNat := by rw [ByteArray.size_append, zb_size]; omega
    exact tail_ev _ off t (by omega) (by omega) (by omega) (by omega)
  · refine ev_neg h5 ?_
    have e : s ++ zb (off - (s.size : Int)).toNat = s := by
      apply b_inj
      rw [b_app, zb_list, show (off - (s.size : Int)).toNat = 0 by omega]; simp
    rw [e]
    exact tail_ev s off t (by omega) (by omega) (by omega) (by omega)
theorem iTextWith_eq (s : ByteArray) (off : Int) (t : ByteArray) (hs : s.size ≤ 4000000) (ht : t.size ≤ 4000000) (ho : (Lit.int .i64 off).wf = true) : impl_TextWith.f s off t = some (tw s off t) := by
  unfold impl_TextWith.f
  have out : ¬ twOk s off t → some s = some (tw s off t) := by
    intro h
    unfold tw
    rw [if_neg h]
  by_cases h1 : t.size = 0
  · rw [if_pos ((nil_size t).2 h1)]; exact out (fun h => h.1 h1)
  rw [if_neg (fun h => h1 ((nil_size t).1 h))]
  by_cases h2 : off < 0
  · rw [if_pos h2]; exact out (fun h => by have := h.2.1; omega)
  rw [if_neg h2]
  by_cases h3 : off > 128
  · rw [if_pos h3]; exact out (fun h => by have := h.2.2.1; omega)
  rw [if_neg h3, w64 (x := off + (t.size : Int)) (by omega) (by omega)]
  have hm : mx (s.size : Int) (off + (t.size : Int)) = if (s.size : Int) < off + t.size then off + t.size else s.size := rfl
  rw [hm]
  by_cases h4 : (if (s.size : Int) < off + t.size then off + t.size else s.size) > 128
  · rw [if_pos h4]
    exact out (fun h => by have h5 := h.2.2.1; have h6 := h.2.2.2; split at h4 <;> omega)
  rw [if_neg h4]
  have hb : off + t.size ≤ 128 ∧ s.size ≤ 128 := by split at h4 <;> omega
  have ok : twOk s off t := ⟨h1, by omega, hb.1, hb.2⟩
  unfold tw
  rw [if_pos ok, padded_eq s off (by omega) (by omega) (by omega), Option.bind_some]
  have hz : (s ++ zb (off - (s.size : Int)).toNat).size = s.size + (off - (s.size : Int)).toNat := by rw [ByteArray.size_append, zb_size]
  generalize s ++ zb (off - (s.size : Int)).toNat = b at hz ⊢
  obtain ⟨o, rfl⟩ := Int.eq_ofNat_of_zero_le (show 0 ≤ off by omega)
  have hn : mn ((o : Int) + t.size) (b.size : Int) = (((if b.size < o + t.size then b.size else o + t.size) : Nat) : Int) := by
    show (if (b.size : Int) < (o : Int) + t.size then (b.size : Int) else (o : Int) + t.size) = _
    split <;> split <;> omega
  rw [hn]
  simp only [Int.toNat_natCast]
  have z1 : (b.extract 0 o).size ≤ 1000 := by rw [ByteArray.size_extract]; omega
  by_cases h6 : b.size < o + t.size
  · rw [if_pos h6, if_pos (by omega), if_pos (by omega), if_pos (by omega), if_pos (by omega), if_pos (by omega), if_pos]
    · congr 1
      rw [← lay_short b o t (by omega)]
      apply b_inj
      rw [b_app, b_cut b b.size b.size, List.drop_of_length_le (by simp)]; simp
    · rw [ByteArray.size_append, ByteArray.size_extract (b := b.size)]; omega
  · rw [if_neg h6, if_pos (by omega), if_pos (by omega), if_pos (by omega), if_pos (by omega), if_pos (by omega), if_pos]
    · rw [lay_long]
    · rw [ByteArray.size_append, ByteArray.size_extract (b := o + t.size)]; omega


/-! ### within -/
theorem within_eq (a b c : Int) : impl_within.f a b c = some (decide (b ≤ a ∧ a ≤ c)) := by
  unfold impl_within.f
  by_cases h : a ≥ b
  · rw [if_pos h]; congr 1; simp; omega
  · rw [if_neg h]; congr 1; simp; omega

/-! ### textcut -/
def cutS (s : ByteArray) (n : Int) : ByteArray := if 0 ≤ n ∧ n ≤ 128 then ⟨((s.data.toList ++ List.replicate (n - s.size).toNat 0).take n.toNat).toArray⟩ else s

theorem iTextCut_eq (s : ByteArray) (n : Int) (hs : s.size ≤ 4000000) : impl_TextCut.f s n = some (cutS s n) := by
  unfold impl_TextCut.f cutS
  rw [within_eq, Option.bind_some]
  by_cases h : 0 ≤ n ∧ n ≤ 128
  · rw [if_pos h, if_pos (by simpa using h), padded_eq s n (by omega) (by omega) hs, Option.bind_some, if_pos h.1, if_pos]
    · congr 1
      refine b_inj ?_
      rw [b_cut, b_app, b_mk, zb_list]; simp
    · rw [ByteArray.size_append, zb_size]; omega
  · rw [if_neg h, if_neg (by simpa using h)]


/-! ### written -/
def btq (l : List UInt8) (i : Nat) : Int := match l[i]? with | some b => (b.toNat : Int) | none => 0
theorem bt_q (s : ByteArray) (i : Nat) : bt s (i : Int) = btq s.data.toList i := by
  unfold bt btq
  rw [Int.toNat_natCast]
  by_cases h : i < s.size
  · have h2 : i < s.data.toList.length := by rw [b_len]; exact h
    rw [dif_pos h, List.getElem?_eq_getElem h2]
    rfl
  · have h2 : s.data.toList.length ≤ i := by rw [b_len]; omega
    rw [dif_neg h, List.getElem?_eq_none h2]
theorem btq_app1 (a b : List UInt8) (i : Nat) (h : i < a.length) : btq (a ++ b) i = btq a i := by unfold btq; rw [List.getElem?_append_left h]
theorem btq_app2 (a b : List UInt8) (i : Nat) (h : a.length ≤ i) : btq (a ++ b) i = btq b (i - a.length) := by unfold btq; rw [List.getElem?_append_right h]
theorem btq_zeros (n i : Nat) : btq (List.replicate n 0) i = 0 := by
  unfold btq
  by_cases h : i < n
  · rw [List.getElem?_replicate_of_lt h]; rfl
  · rw [List.getElem?_eq_none (by rw [List.length_replicate]; omega)]
theorem btq_pad (a : List UInt8) (n i : Nat) : btq (a ++ List.replicate n 0) i = if i < a.length then btq a i else 0 := by
  split
  · exact btq_app1 _ _ _ (by assumption)
  · rw [btq_app2 _ _ _ (by omega), btq_zeros]
theorem btq_take (a : List UInt8) (n i : Nat) (h : i < n) : btq (a.take n) i = btq a i := by unfold btq; rw [List.getElem?_take, if_pos h]
theorem btq_drop (a : List UInt8) (n i : Nat) : btq (a.drop n) i = btq a (n + i) := by unfold btq; rw [List.getElem?_drop]
theorem cutS_size (s : ByteArray) (n : Nat) (h : n ≤ 128) : (cutS s n).size = n := by
  unfold cutS
  rw [if_pos ⟨by omega, by omega⟩, b_size, List.length_take, List.length_append, List.length_replicate, b_len]
  omega
theorem cutS_bt (s : ByteArray) (n i : Nat) (h : n ≤ 128) (hi : i < n) : bt (cutS s n) (i : Int) = if i < s.size then bt s (i : Int) else 0 := by
  unfold cutS
  rw [if_pos ⟨by omega, by omega⟩, bt_q, b_mk, btq_take _ _ _ (by omega), btq_pad, bt_q, b_len]
theorem lay_size (b : ByteArray) (off : Nat) (t : ByteArray) (h : off ≤ b.size) : (lay b off t).size = max b.size (off + t.size) := by
  unfold lay
  rw [b_size]
  simp only [List.length_append, List.length_take, List.length_drop, b_len]
  omega
theorem lay_bt1 (b : ByteArray) (off : Nat) (t : ByteArray) (i : Nat) (h : off ≤ b.size) (hi : i < off) : bt (lay b off t) (i : Int) = bt b (i : Int) := by
  unfold lay
  rw [bt_q, b_mk, List.append_assoc, btq_app1 _ _ _ (by rw [List.length_take, b_len]; omega), btq_take _ _ _ hi, bt_q]
theorem lay_bt2 (b : ByteArray) (off : Nat) (t : ByteArray) (i : Nat) (h : off ≤ b.size) (hi : off + t.size ≤ i) : bt (lay b off t) (i : Int) = bt b (i : Int) := by
  unfold lay
  have hl : (b.data.toList.take off ++ t.data.toList).length = off + t.size := by rw [List.length_append, List.length_take, b_len, b_len]; omega
  rw [bt_q, b_mk, btq_app2 _ _ _ (by omega), hl, btq_drop, bt_q]
  congr 1; omega
theorem lay_cut (b : ByteArray) (off : Nat) (t : ByteArray) (h : off ≤ b.size) : (lay b off t).extract off (off + t.size) = t := by
  apply b_inj
  unfold lay
  have h1 : (b.data.toList.take off).length = off := by rw [List.length_take, b_len]; omega
  have hl : (b.data.toList.take off ++ t.data.toList).length = off + t.size := by rw [List.length_append, h1, b_len]
  rw [b_cut, b_mk, List.take_append_of_le_length (by omega), List.take_of_length_le (by omega), List.drop_append_of_le_length (by omega), List.drop_of_length_le (by omega)]
  rfl
theorem zpad_bt (s : ByteArray) (n i : Nat) : bt (s ++ zb n) (i : Int) = if i < s.size then bt s (i : Int) else 0 := by
  rw [bt_q, b_app, zb_list, btq_pad, bt_q, b_len]
/-- The last loop: byte for byte. -/
theorem wr_l1 (o : ByteArray) (f : Nat) (t s : ByteArray) (hf : f + t.size ≤ 128) (hz : s.size = max (max o.size f) (f + t.size)) (hs : s.size ≤ 1000) (g1 : ∀ i : Nat, i < f → bt s (i : Int) = if i < o.size then bt o (i : Int) else 0) (g2 : ∀ i : Nat, f + t.size ≤ i → i < s.size → bt s (i : Int) = bt o (i : Int)) : ∀ i : Nat, i ≤ s.size → Ev (fun k => laws_FnWritten.l1 k o f t s i) true
  | i, hi => by
    refine Ev.step (laws_FnWritten.l1.eq_2 _ _ _ _ _) ?_
    rw [w64 (x := (f : Int) + (t.size : Int)) (by omega) (by omega)]
    by_cases h : i < s.size
    · refine ev_pos (by omega) ?_
      rw [w64s i (by omega)]
      have next := wr_l1 o f t s hf hz hs g1 g2 (i + 1) (by omega)
      by_cases h1 : i < f
      · refine ev_pos (by omega) ?_
        have e := g1 i h1
        by_cases h2 : i < o.size
        · rw [if_pos h2] at e
          exact ev_pos (by omega) (ev_pos (by omega) (ev_pos e (ev_neg (by omega) (ev_neg (by omega) next))))
        · rw [if_neg h2] at e
          exact ev_neg (by omega) (ev_pos (by omega) (ev_pos (by omega) (ev_pos e (ev_neg (by omega) next))))
      · refine ev_neg (by omega) ?_
        by_cases h2 : (i : Int) ≥ (f : Int) + (t.size : Int)
        · exact ev_pos h2 (ev_pos (by omega) (ev_pos (by omega) (ev_pos (g2 i (by omega) h) next)))
        · exact ev_neg h2 next
    · exact ev_neg (by omega) (ev_now rfl)
  termination_by i => s.size - i
theorem wr_j4 (o : ByteArray) (off : Int) (t : ByteArray) (ho : o.size ≤ 50) (ht : t.size ≤ 12) (hw : -9223372036854775808 ≤ off ∧ off ≤ 9223372036854775807) (b : Bool) (hb : b = true ↔ (t.size = 0 ∨ off < 0 ∨ off > 128 - (t.size : Int))) : Ev (fun k => laws_FnWritten.j4 k o off t (tw o off t) b) true := by
  refine Ev.step (laws_FnWritten.j4.eq_2 _ _ _ _ _) ?_
  by_cases c : b = true
  · refine ev_pos c (ev_now ?_)
    have hn : ¬ twOk o off t := by
      rintro ⟨q1, q2, q3, q4⟩
      rcases hb.1 c with h | h | h <;> omega
    unfold tw
    rw [if_neg hn]
    simp
  · refine ev_neg c ?_
    have hq : ¬ (t.size = 0 ∨ off < 0 ∨ off > 128 - (t.size : Int)) := fun h => c (hb.2 h)
    have ok : twOk o off t := ⟨by omega, by omega, by omega, by omega⟩
    have et : tw o off t = lay (o ++ zb (off - o.size).toNat) off.toNat t := by unfold tw; rw [if_pos ok]
    rw [et]
    obtain ⟨f, rfl⟩ := Int.eq_ofNat_of_zero_le (show 0 ≤ off by omega)
    rw [Int.toNat_natCast]
    have hB : (o ++ zb ((f : Int) - o.size).toNat).size = max o.size f := by rw [ByteArray.size_append, zb_size]; omega
    have hz := lay_size (o ++ zb ((f : Int) - o.size).toNat) f t (by omega)
    rw [hB] at hz
    have g1 : ∀ i : Nat, i < f → bt (lay (o ++ zb ((f : Int) - o.size).toNat) f t) (i : Int) = if i < o.size then bt o (i : Int) else 0 := by
      intro i hi
      rw [lay_bt1 _ _ _ _ (by omega) hi, zpad_bt]
    have g2 : ∀ i : Nat, f + t.size ≤ i → i < (lay (o ++ zb ((f : Int) - o.size).toNat) f t).size → bt (lay (o ++ zb ((f : Int) - o.size).toNat) f t) (i : Int) = bt o (i : Int) := by
      intro i hi hl
      rw [lay_bt2 _ _ _ _ (by omega) hi, zpad_bt, if_pos (by omega)]
    have hc := lay_cut (o ++ zb ((f : Int) - o.size).toNat) f t (by omega)
    generalize lay (o ++ zb ((f : Int) - o.size).toNat) f t = s at hz g1 g2 hc
    rw [w64 (x := (f : Int) + (t.size : Int)) (by omega) (by omega)]
    refine ev_neg (by omega) (ev_pos (by omega) (ev_pos (by omega) (ev_pos (by omega) ?_)))
    have e : ((f : Int) + (t.size : Int)).toNat = f + t.size := by omega
    rw [e, hc]
    refine Ev.step (laws_FnWritten.j5.eq_2 _ _ _ _ _) ?_
    exact ev_neg (by simp) (wr_l1 o f t s (by omega) (by omega) (by omega) g1 g2 0 (by omega))
theorem wr_l0 (o : ByteArray) (off : Int) (t : ByteArray) (ho : o.size ≤ 50) (ht : t.size ≤ 12) (hw : -9223372036854775808 ≤ off ∧ off ≤ 9223372036854775807) (c : ByteArray) (n : Int) : ∀ i : Nat, (i ≤ 128) → (n ≤ 128 → (i : Int) ≤ max n 0) → Ev (fun k => laws_FnWritten.l0 k o off t (tw o off t) c n (cutS c n) i) true
  | i, h1, hi => by
    have fin : Ev (fun k => laws_FnWritten.j3 k o off t (tw o off t) c n (cutS c n) i false) true := by
      refine Ev.step (laws_FnWritten.j3.eq_2 _ _ _ _ _ _ _ _ _) ?_
      refine ev_neg (by simp) ?_
      rw [w64 (x := 128 - (t.size : Int)) (by omega) (by omega)]
      by_cases q1 : (t.size : Int) = 0
      · exact ev_pos q1 (wr_j4 o off t ho ht hw true ⟨fun _ => by omega, fun _ => rfl⟩)
      · refine ev_neg q1 ?_
        by_cases q2 : off < 0
        · exact ev_pos q2 (wr_j4 o off t ho ht hw true ⟨fun _ => by omega, fun _ => rfl⟩)
        · refine ev_neg q2 (wr_j4 o off t ho ht hw _ ?_)
          rw [decide_eq_true_eq]
          omega
    refine Ev.step (laws_FnWritten.l0.eq_2 _ _ _ _ _ _ _ _) ?_
    by_cases h : (i : Int) < n
    · refine ev_pos h ?_
      by_cases hn : n ≤ 128
      · rw [decide_eq_true hn]
        refine Ev.step (laws_FnWritten.j3.eq_2 _ _ _ _ _ _ _ _ _) ?_
        refine ev_pos rfl ?_
        rw [w64s i (by omega)]
        obtain ⟨m, rfl⟩ := Int.eq_ofNat_of_zero_le (show 0 ≤ n by omega)
        have hz := cutS_size c m (by omega)
        have e := cutS_bt c m i (by omega) (by omega)
        have next := wr_l0 o off t ho ht hw c (m : Int) (i + 1) (by omega) (by omega)
        by_cases h2 : i < c.size
        · rw [if_pos h2] at e
          exact ev_pos (by omega) (ev_pos (by omega) (ev_pos (by omega) (ev_pos e (ev_neg (by omega) next))))
        · rw [if_neg h2] at e
          exact ev_neg (by omega) (ev_pos (by omega) (ev_pos (by omega) (ev_pos (by omega) (ev_pos e next))))
      · rw [decide_eq_false hn]
        exact fin
    · exact ev_neg h fin
  termination_by i => 129 - i

/-! ### FnWritten -/
theorem FnWritten : laws_FnWritten.Law := by
  intro xs hx
  apply Ev.rounds
  unfold laws_FnWritten.f laws_big.f
  refine Ev.bind (Ev.now _) ?_
  by_cases hb : (xs.length : Int) > 1048576
  · exact ev_pos (by simpa using hb) (ev_now rfl)
  refine ev_neg (by simpa using hb) ?_
  have hn : xs.length ≤ 4000000 := by omega
  have draw1 : ∃ o off t, Ev (fun k => spec_DrawTextWith.f k xs) (o, off, t) ∧ o.size ≤ 50 ∧ t.size ≤ 12 ∧ -9223372036854775808 ≤ off ∧ off ≤ 9223372036854775807 := by
    unfold spec_DrawTextWith.f
    obtain ⟨h0, e0⟩ := new_ev xs hn
    obtain ⟨b1, i1, h1, e1, p1, q1, c1⟩ := below_eq xs hn 0 h0 ⟨by omega, by omega⟩ 50 (by omega) (by omega)
    obtain ⟨o, i2, h2, e2, z2, c2⟩ := text_ev xs hn i1 h1 c1 b1 p1 (by omega)
    obtain ⟨off, i3, h3, e3, m3, c3⟩ := pick_eq xs hn i2 h2 c2 [0, 1, 5, 40, 60, 120, 128, (-1), 9223372036854775807] (by decide) (by decide)
    obtain ⟨b4, i4, h4, e4, p4, q4, c4⟩ := below_eq xs hn i3 h3 c3 12 (by omega) (by omega)
    obtain ⟨t, i5, h5, e5, z5, c5⟩ := text_ev xs hn i4 h4 c4 b4 p4 (by omega)
    refine ⟨o, off, t, Ev.bind e0 (Ev.bind (ev_eq e1) (Ev.bind e2 (Ev.bind (ev_eq e3) (Ev.bind (ev_eq e4) (Ev.bind e5 (ev_now rfl)))))), by omega, by omega, ?_⟩
    simp only [List.mem_cons, List.not_mem_nil, or_false] at m3
    omega
  have draw2 : ∃ c n, Ev (fun k => spec_DrawTextCut.f k xs) (c, n) ∧ c.size ≤ 50 := by
    unfold spec_DrawTextCut.f
    obtain ⟨h0, e0⟩ := new_ev xs hn
    obtain ⟨b1, i1, h1, e1, p1, q1, c1⟩ := below_eq xs hn 0 h0 ⟨by omega, by omega⟩ 50 (by omega) (by omega)
    obtain ⟨o, i2, h2, e2, z2, c2⟩ := text_ev xs hn i1 h1 c1 b1 p1 (by omega)
    obtain ⟨off, i3, h3, e3, m3, c3⟩ := pick_eq xs hn i2 h2 c2 [0, 1, 5, 40, 60, 128, 129, (-1)] (by decide) (by decide)
    exact ⟨o, off, Ev.bind e0 (Ev.bind (ev_eq e1) (Ev.bind e2 (Ev.bind (ev_eq e3) (ev_now rfl)))), by omega⟩
  obtain ⟨o, off, t, e1, ho, ht, hw⟩ := draw1
  obtain ⟨c, n, e2, hc⟩ := draw2
  have hwf : (Lit.int .i64 off).wf = true := by simp only [Lit.wf, Bool.and_eq_true, decide_eq_true_eq]; exact hw
  refine Ev.bind e1 (Ev.bind (ev_eq (iTextWith_eq o off t (by omega) (by omega) hwf)) (Ev.bind (sTextWith_ev o off t (by omega) (by omega) hwf) (ev_pos rfl ?_)))
  have e3 : (cutS ⟨#[97, 98, 99]⟩ 2).toList = [97, 98] := by rw [b_toList]; rfl
  have z3 : (⟨#[97, 98, 99]⟩ : ByteArray).size = 3 := rfl
  refine Ev.bind (ev_eq (iTextCut_eq _ 2 (by omega))) ?_
  rw [e3]
  refine Ev.step (laws_FnWritten.j0.eq_2 _ _ _ _ _ _) ?_
  refine ev_neg (by simp) (Ev.bind e2 (Ev.bind (ev_eq (iTextCut_eq c n (by omega))) ?_))
  have last : Ev (fun k => laws_FnWritten.j1 k o off t (tw o off t) c n (cutS c n) false) true := by
    refine Ev.step (laws_FnWritten.j1.eq_2 _ _ _ _ _ _ _ _) ?_
    exact ev_neg (by simp) (wr_l0 o off t ho ht hw c n 0 (by omega) (by omega))
  by_cases g1 : n ≥ 0
  · refine ev_pos g1 ?_
    by_cases g2 : n ≤ 128
    · refine ev_pos g2 ?_
      obtain ⟨m, rfl⟩ := Int.eq_ofNat_of_zero_le g1
      have hz := cutS_size c m (by omega)
      rw [show (((cutS c (m : Int)).size : Int) != (m : Int)) = false by rw [hz]; simp]
      exact last
    · exact ev_neg g2 last
  · exact ev_neg g1 last

end Go.Proofs.Ytfgammfdaiicpaa.Pure
