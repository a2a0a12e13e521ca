/- The pure statement of FnExactSerialWord is proved: for all arguments within the row's own bounds the Lean function that the law's walk comes to answers true. Conditions: none beyond these bounds. -/
import Derived.Test.YtakcojednmlheaaStFnExactSerialWord
import Derived.Test.YtakcojednmlheaaBase
namespace Go.Proofs.Ytakcojednmlheaa.Pure
open Go.RowKit Go.Proofs.Ytakcojednmlheaa.PFnExactSerialWord Go.Proofs.YtakcojednmlheaaW.PrintWords Go.Proofs.YtakcojednmlheaaW.PrintLast Go.Proofs.Ytakcojednmlheaa.Base
set_option linter.unusedVariables false
set_option linter.unusedSimpArgs false
/-! ### lin -/
theorem l01In_eq (a b c : Int) : spec_l01In.f a b c = some (decide (b ≤ a ∧ a ≤ c)) := by
  unfold spec_l01In.f
  by_cases h : a ≥ b
  · rw [if_pos h]; congr 1; simp; omega
  · rw [if_neg h]; congr 1; simp; omega

/-! ### within -/
theorem within_eq (a b c : Int) : impl_within.f a b c = some (decide (b ≤ a ∧ a ≤ c)) := by
  unfold impl_within.f
  by_cases h : a ≥ b
  · rw [if_pos h]; congr 1; simp; omega
  · rw [if_neg h]; congr 1; simp; omega

/-! ### numtext -/
theorem u64w (x : Int) (h0 : 0 ≤ x) (h1 : x < 18446744073709551616) : IntKind.u64.wrap x = x := by
  have b : IntKind.u64.bits = 64 := rfl
  have s : IntKind.u64.signed = false := rfl
  simp only [IntKind.wrap, b, s, Bool.false_and, Bool.false_eq_true, if_false]
  omega
def dg (n : Int) (i : Nat) : Int := n / 2 ^ (8 * i) % 256
def dn (n : Int) : Nat → List Int
  | 0 => []
  | i + 1 => dg n i :: dn n i
theorem dn_len (n : Int) (w : Nat) : (dn n w).length = w := by
  induction w with
  | zero => rfl
  | succ w ih => simp [dn, ih]
theorem dn_get (n : Int) : ∀ (w p : Nat) (h : p < (dn n w).length), (dn n w)[p] = dg n (w - 1 - p)
  | 0, p, h => by simp [dn] at h
  | w + 1, 0, h => by simp [dn]
  | w + 1, p + 1, h => by
    simp only [dn, List.getElem_cons_succ]
    rw [dn_get n w p (by simpa [dn] using h)]
    congr 1; omega
theorem shr_eq (n : Int) (i : Nat) (h : i ≤ 7) (y : Int) (hy : y = 8 * (i : Int)) : shr .i64 n y = n / 2 ^ (8 * i) := by
  subst hy
  have e : (8 * (i : Int)).toNat = 8 * i := by omega
  have b : IntKind.i64.bits = 64 := rfl
  unfold shr
  rw [e, b, Nat.min_eq_left (by omega)]
def ntOk (n : Int) (w : Nat) : Prop := 0 ≤ n ∧ 1 ≤ w ∧ w ≤ 7 ∧ n < 2 ^ (8 * w)
open Classical in
noncomputable def nt (n : Int) (w : Nat) : ByteArray := if ntOk n w then strOfNums (dn n w) else ⟨#[]⟩
theorem sNum_l (n : Int) (w : Nat) (hw : w ≤ 7) : ∀ (i : Nat) (o : List Int), i ≤ w → o.length ≤ 7 → o.length + i ≤ 7 → Ev (fun k => spec_NumText.l0 k n o ((i : Int) - 1)) (strOfNums (o ++ dn n i))
  | 0, o, hi, ho, hs => by
    refine Ev.step (spec_NumText.l0.eq_2 _ _ _) ?_
    refine ev_neg (by omega) (ev_now ?_)
    simp [dn]
  | i + 1, o, hi, ho, hs => by
    refine Ev.step (spec_NumText.l0.eq_2 _ _ _) ?_
    have e : ((i + 1 : Nat) : Int) - 1 = (i : Int) := by omega
    rw [e, u64w (i : Int) (by omega) (by omega), u64w (8 * (i : Int)) (by omega) (by omega), shr_eq n i (by omega) _ rfl, w64 (x := (i : Int) - 1) (by omega) (by omega)]
    refine ev_pos (by omega) (ev_pos (by omega) (ev_pos (by omega) (ev_to (sNum_l n w hw i _ (by omega) (by simp; omega) (by simp; omega)) ?_)))
    simp [dn, dg]
theorem pow_le (w : Nat) (h : w ≤ 7) : (1 : Int) ≤ 2 ^ (8 * w) ∧ (2 : Int) ^ (8 * w) ≤ 72057594037927936 := by
  have : w = 0 ∨ w = 1 ∨ w = 2 ∨ w = 3 ∨ w = 4 ∨ w = 5 ∨ w = 6 ∨ w = 7 := by omega
  rcases this with h | h | h | h | h | h | h | h <;> subst h <;> decide
theorem div_pos (n : Int) (w : Nat) (hw : w ≤ 7) (h0 : 0 ≤ n) : n / 2 ^ (8 * w) > 0 ↔ ¬ n < 2 ^ (8 * w) := by
  have hp := pow_le w hw
  constructor
  · intro h hl
    have := Int.ediv_eq_zero_of_lt h0 hl
    omega
  · intro h
    exact (Int.le_ediv_iff_mul_le (by omega)).2 (by omega)
theorem sNum_ev (n : Int) (w : Nat) (hw : w ≤ 7) (h1 : 1 ≤ w) : Ev (fun k => spec_NumText.f k n (w : Int)) (nt n w) := by
  unfold spec_NumText.f
  have bad : ¬ ntOk n w → Ev (fun k => spec_NumText.j0 k n w true) (nt n w) := by
    intro h
    unfold nt
    rw [if_neg h]
    refine Ev.step (spec_NumText.j0.eq_2 _ _ _) ?_
    exact ev_pos rfl (ev_now rfl)
  by_cases h0 : n < 0
  · exact ev_pos h0 (bad (fun h => by have := h.1; omega))
  · refine ev_neg h0 (Ev.bind (ev_eq (l01In_eq _ _ _)) (ev_pos (by simp; omega) ?_))
    rw [u64w (w : Int) (by omega) (by omega), u64w (8 * (w : Int)) (by omega) (by omega), shr_eq n w hw _ rfl]
    refine ev_pos (by omega) ?_
    by_cases hl : n < 2 ^ (8 * w)
    · have hz : ¬ n / 2 ^ (8 * w) > 0 := fun h => (div_pos n w hw (by omega)).1 h hl
      rw [decide_eq_false hz]
      refine Ev.step (spec_NumText.j0.eq_2 _ _ _) ?_
      refine ev_neg (by simp) ?_
      rw [w64 (by omega) (by omega)]
      refine ev_to (sNum_l n w hw w [] (Nat.le_refl _) (by simp) (by simp; omega)) ?_
      unfold nt
      rw [if_pos ⟨by omega, h1, hw, hl⟩]
      simp
    · have hz : n / 2 ^ (8 * w) > 0 := (div_pos n w hw (by omega)).2 hl
      rw [decide_eq_true hz]
      exact bad (fun h => hl h.2.2.2)
theorem iNum_l (n : Int) (w : Nat) (hw : w ≤ 7) : ∀ (p : Nat) (ys : List Int), p ≤ w → ys.length = w → ys.take p = (dn n w).take p → Ev (fun k => impl_NumText.l0 k n w ys w p) (strOfNums (dn n w))
  | p, ys, hp, hl, ht => by
    have hd := dn_len n w
    refine Ev.step (impl_NumText.l0.eq_2 _ _ _ _ _) ?_
    by_cases h : p < w
    · rw [w64 (x := (w : Int) - 1) (by omega) (by omega), w64 (x := (w : Int) - 1 - p) (by omega) (by omega), w64 (x := 8 * ((w : Int) - 1 - p)) (by omega) (by omega), w64s p (by omega), shr_eq n (w - 1 - p) (by omega) _ (by omega), Int.toNat_natCast]
      refine ev_pos (by omega) (ev_pos (by omega) (ev_pos (by omega) (ev_pos (by omega) ?_)))
      exact iNum_l n w hw (p + 1) _ (by omega) (by simp [hl]) (take_set (by omega) ht (by omega) (by rw [dn_get]; rfl))
    · have : p = w := by omega
      subst this
      refine ev_neg (by omega) (ev_now ?_)
      rw [show ys = dn n p from take_all (xs := dn n p) (by omega) (by rw [hd]; exact ht)]
  termination_by p => w - p
theorem shl_eq (w : Nat) (hw : w ≤ 7) : shl .i64 1 (8 * (w : Int)) = 2 ^ (8 * w) := by
  have : w = 0 ∨ w = 1 ∨ w = 2 ∨ w = 3 ∨ w = 4 ∨ w = 5 ∨ w = 6 ∨ w = 7 := by omega
  rcases this with h | h | h | h | h | h | h | h <;> subst h <;> decide
theorem iNum_ev (n : Int) (w : Nat) (hw : w ≤ 7) (h1 : 1 ≤ w) : Ev (fun k => impl_NumText.f k n (w : Int)) (nt n w) := by
  unfold impl_NumText.f
  have bad : ¬ ntOk n w → Ev (fun k => impl_NumText.j0 k n w true) (nt n w) := by
    intro h
    unfold nt
    rw [if_neg h]
    refine Ev.step (impl_NumText.j0.eq_2 _ _ _) ?_
    exact ev_pos rfl (ev_now rfl)
  by_cases h0 : n < 0
  · exact ev_pos h0 (bad (fun h => by have := h.1; omega))
  · refine ev_neg h0 (Ev.bind (ev_eq (within_eq _ _ _)) (ev_pos (by simp; omega) ?_))
    rw [w64 (x := 8 * (w : Int)) (by omega) (by omega), shl_eq w hw]
    refine ev_pos (by omega) ?_
    by_cases hl : n < 2 ^ (8 * w)
    · rw [decide_eq_false (by omega)]
      refine Ev.step (impl_NumText.j0.eq_2 _ _ _) ?_
      refine ev_neg (by simp) (ev_pos (by omega) (ev_pos (by omega) (Ev.bind (Ev.now _) ?_)))
      rw [Int.toNat_natCast]
      have := iNum_l n w hw 0 (List.replicate w 0) (by omega) (by simp) (by simp)
      rw [List.length_replicate]
      refine ev_to this ?_
      unfold nt
      rw [if_pos ⟨by omega, h1, hw, hl⟩]
    · rw [decide_eq_true (by omega)]
      exact bad (fun h => hl h.2.2.2)
theorem nt_size (n : Int) (w : Nat) : (nt n w).size ≤ w := by
  unfold nt
  split
  · have := dn_len n w
    unfold strOfNums
    rw [b_size, List.length_map]; omega
  · show 0 ≤ w; omega

/-! ### zerotext -/
theorem long_l (n : Nat) (hn : n ≤ 1048576) : ∀ (i : Nat) (ys : List Int), i ≤ n → ys.length = n → (∀ y ∈ ys, y = 0) → Ev (fun k => spec_l01Long.l0 k n 0 ys i) (strOfNums ys)
  | i, ys, hi, hl, hz => by
    refine Ev.step (spec_l01Long.l0.eq_2 _ _ _ _) ?_
    by_cases h : i < n
    · refine ev_pos (by omega) (ev_pos (by omega) (ev_pos (by omega) ?_))
      rw [w64s i (by omega), Int.toNat_natCast]
      have e : ys.set i 0 = ys := by
        apply List.ext_getElem (by simp)
        intro j h1 h2
        rw [List.getElem_set]
        split
        · exact (hz _ (List.getElem_mem h2)).symm
        · rfl
      rw [e]
      exact long_l n hn (i + 1) ys (by omega) hl hz
    · exact ev_neg (by omega) (ev_now rfl)
  termination_by i => n - i
theorem long_ev (n : Nat) (hn : n ≤ 1048576) : Ev (fun k => spec_l01Long.f k n 0) (zb n) := by
  unfold spec_l01Long.f
  refine ev_pos (by omega) (ev_pos (by omega) (ev_to (long_l n hn 0 _ (by omega) (by simp) (by simp)) ?_))
  simp [strOfNums, zb]
theorem zeroText_ev (n : Nat) (hn : n ≤ 20000) : Ev (fun k => spec_ZeroText.f k (n : Int)) (zb n) := by
  unfold spec_ZeroText.f
  exact Ev.bind (ev_eq (l01In_eq _ _ _)) (ev_pos (by simp; omega) (Ev.bind (long_ev n (by omega)) (ev_now rfl)))

/-! ### padded -/
theorem repeat_eq (n : Nat) (h : n ≤ 1048576) : strings_Repeat.f (⟨#[0]⟩ : ByteArray) (n : Int) = some (zb n) := by
  unfold strings_Repeat.f
  have h1 : (⟨#[0]⟩ : ByteArray).size = 1 := rfl
  rw [if_pos ⟨by omega, by omega, by rw [Int.toNat_natCast, h1]; omega⟩]
  congr 1
  unfold zb
  rw [← repeat_zero, Int.toNat_natCast]
theorem padded_eq (s : ByteArray) (n : Int) (h0 : 0 ≤ n) (h1 : n ≤ 1048576) (hs : s.size ≤ 4000000) : impl_padded.f s n = some (s ++ zb (n - s.size).toNat) := by
  unfold impl_padded.f
  rw [w64 (by omega) (by omega)]
  have hm : mx 0 (n - (s.size : Int)) = (((n - s.size).toNat : Nat) : Int) := by
    show (if (0 : Int) < n - (s.size : Int) then n - (s.size : Int) else 0) = _
    split <;> omega
  rw [hm, repeat_eq _ (by omega), Option.bind_some, if_pos (by rw [zb_size]; omega)]

/-! ### wordtext -/
def wdT (s : ByteArray) : ByteArray := if s.size > 8 then ⟨#[]⟩ else s ++ zb (8 - s.size)
theorem sWord_ev (s : ByteArray) (hs : s.size ≤ 4000000) : Ev (fun k => spec_WordText.f k s) (wdT s) := by
  unfold spec_WordText.f wdT
  by_cases h : s.size > 8
  · rw [if_pos h]; exact ev_pos (by omega) (ev_now rfl)
  · rw [if_neg h]
    refine ev_neg (by omega) ?_
    rw [show (8 : Int) - (s.size : Int) = ((8 - s.size : Nat) : Int) by omega]
    exact Ev.bind (zeroText_ev _ (by omega)) (ev_pos (by rw [zb_size]; omega) (ev_now rfl))
theorem iWord_eq (s : ByteArray) (hs : s.size ≤ 4000000) : impl_WordText.f s = some (wdT s) := by
  unfold impl_WordText.f wdT
  by_cases h : s.size > 8
  · rw [if_pos h, if_pos (by omega)]
  · rw [if_neg h, if_neg (by omega), padded_eq s 8 (by omega) (by omega) hs, Option.bind_some, show ((8 : Int) - (s.size : Int)).toNat = 8 - s.size by omega]

/-! ### FnExactSerialWord -/
theorem FnExactSerialWord : laws_FnExactSerialWord.Law := by
  intro n _
  apply Ev.rounds
  unfold laws_FnExactSerialWord.f spec_SerialWord.f impl_SerialWord.f
  by_cases h : 0 ≤ n ∧ n ≤ 16777215
  · have hs := nt_size n 3
    have h1 := sNum_ev n 3 (by omega) (by omega)
    have h2 := iNum_ev n 3 (by omega) (by omega)
    refine Ev.bind (a := wdT (nt n 3)) (Ev.bind (ev_eq (l01In_eq _ _ _)) (ev_pos (by simpa using h) (Ev.bind h1 (Ev.bind (sWord_ev _ (by omega)) (ev_now rfl))))) ?_
    refine Ev.bind (a := wdT (nt n 3)) (Ev.bind (ev_eq (within_eq _ _ _)) (ev_pos (by simpa using h) (Ev.bind h2 (Ev.bind (ev_eq (iWord_eq _ (by omega))) (ev_now rfl))))) ?_
    exact ev_pos rfl (ev_now rfl)
  · refine Ev.bind (a := ⟨#[]⟩) (Ev.bind (ev_eq (l01In_eq _ _ _)) (ev_neg (by simpa using h) (ev_now rfl))) ?_
    refine Ev.bind (a := ⟨#[]⟩) (Ev.bind (ev_eq (within_eq _ _ _)) (ev_neg (by simpa using h) (ev_now rfl))) ?_
    exact ev_pos rfl (ev_now rfl)

end Go.Proofs.Ytakcojednmlheaa.Pure
