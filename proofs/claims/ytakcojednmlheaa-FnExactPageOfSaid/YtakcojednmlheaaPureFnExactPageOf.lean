/- The pure statement of FnExactPageOf is proved: for all arguments within the row's own bounds the Lean function that the law's walk comes to answers true. Conditions: none beyond these bounds. -/
import Derived.Test.YtakcojednmlheaaStFnExactPageOf
import Derived.Test.YtakcojednmlheaaBase
namespace Go.Proofs.Ytakcojednmlheaa.Pure
open Go.RowKit Go.Proofs.Ytakcojednmlheaa.PFnExactPageOf Go.Proofs.YtakcojednmlheaaW.PrintWords Go.Proofs.YtakcojednmlheaaW.PrintLast Go.Proofs.Ytakcojednmlheaa.Base
set_option linter.unusedVariables false
set_option linter.unusedSimpArgs false
/-! ### within -/
theorem within_eq (a b c : Int) : impl_within.f a b c = some (decide (b ≤ a ∧ a ≤ c)) := by
  unfold impl_within.f
  by_cases h : a ≥ b
  · rw [if_pos h]; congr 1; simp; omega
  · rw [if_neg h]; congr 1; simp; omega

/-! ### lin -/
theorem l01In_eq (a b c : Int) : spec_l01In.f a b c = some (decide (b ≤ a ∧ a ≤ c)) := by
  unfold spec_l01In.f
  by_cases h : a ≥ b
  · rw [if_pos h]; congr 1; simp; omega
  · rw [if_neg h]; congr 1; simp; omega

/-! ### zerotext -/
theorem long_l (n : Nat) (hn : n ≤ 1048576) : ∀ (i : Nat) (ys : List Int), i ≤ n → ys.length = n → (∀ y ∈ ys, y = 0) → Ev (fun k => spec_l01Long.l0 k n 0 ys i) (strOfNums ys)
  | i, ys, hi, hl, hz => by
    refine Ev.step (spec_l01Long.l0.eq_2 _ _ _ _) ?_
    by_cases h : i < n
    · refine ev_pos (by omega) (ev_pos (by omega) (ev_pos (by omega) ?_))
      rw [w64s i (by omega), Int.toNat_natCast]
      have e : ys.set i 0 = ys := by
        apply List.ext_getElem (by simp)
        intro j h1 h2
        rw [List.getElem_set]
        split
        · exact (hz _ (List.getElem_mem h2)).symm
        · rfl
      rw [e]
      exact long_l n hn (i + 1) ys (by omega) hl hz
    · exact ev_neg (by omega) (ev_now rfl)
  termination_by i => n - i
theorem long_ev (n : Nat) (hn : n ≤ 1048576) : Ev (fun k => spec_l01Long.f k n 0) (zb n) := by
  unfold spec_l01Long.f
  refine ev_pos (by omega) (ev_pos (by omega) (ev_to (long_l n hn 0 _ (by omega) (by simp) (by simp)) ?_))
  simp [strOfNums, zb]
theorem zeroText_ev (n : Nat) (hn : n ≤ 20000) : Ev (fun k => spec_ZeroText.f k (n : Int)) (zb n) := by
  unfold spec_ZeroText.f
  exact Ev.bind (ev_eq (l01In_eq _ _ _)) (ev_pos (by simp; omega) (Ev.bind (long_ev n (by omega)) (ev_now rfl)))

/-! ### padded -/
theorem repeat_eq (n : Nat) (h : n ≤ 1048576) : strings_Repeat.f (⟨#[0]⟩ : ByteArray) (n : Int) = some (zb n) := by
  unfold strings_Repeat.f
  have h1 : (⟨#[0]⟩ : ByteArray).size = 1 := rfl
  rw [if_pos ⟨by omega, by omega, by rw [Int.toNat_natCast, h1]; omega⟩]
  congr 1
  unfold zb
  rw [← repeat_zero, Int.toNat_natCast]
theorem padded_eq (s : ByteArray) (n : Int) (h0 : 0 ≤ n) (h1 : n ≤ 1048576) (hs : s.size ≤ 4000000) : impl_padded.f s n = some (s ++ zb (n - s.size).toNat) := by
  unfold impl_padded.f
  rw [w64 (by omega) (by omega)]
  have hm : mx 0 (n - (s.size : Int)) = (((n - s.size).toNat : Nat) : Int) := by
    show (if (0 : Int) < n - (s.size : Int) then n - (s.size : Int) else 0) = _
    split <;> omega
  rw [hm, repeat_eq _ (by omega), Option.bind_some, if_pos (by rw [zb_size]; omega)]

/-! ### pageof -/
def pgOf (s : ByteArray) (k : Int) : ByteArray := if 0 ≤ k ∧ k ≤ 3 then ⟨(((s.data.toList.drop (k.toNat * 32)).take 32) ++ List.replicate (32 - ((s.data.toList.drop (k.toNat * 32)).take 32).length) 0).toArray⟩ else ⟨#[]⟩
theorem pg_fill (x : ByteArray) (l : List UInt8) (h : x.data.toList = l) : x ++ zb (32 - x.size) = ⟨(l ++ List.replicate (32 - l.length) 0).toArray⟩ := by
  apply b_inj
  rw [b_app, b_mk, zb_list, h, ← b_len, h]
theorem sPageOf_ev (s : ByteArray) (k : Int) (hs : s.size ≤ 4000000) : Ev (fun n => spec_PageOf.f n s k) (pgOf s k) := by
  unfold spec_PageOf.f pgOf
  refine Ev.bind (ev_eq (l01In_eq _ _ _)) ?_
  by_cases h : 0 ≤ k ∧ k ≤ 3
  · rw [if_pos h]
    refine ev_pos (by simpa using h) ?_
    obtain ⟨q, rfl⟩ := Int.eq_ofNat_of_zero_le h.1
    rw [w64 (by omega) (by omega), Int.toNat_natCast]
    have e : ((q : Int) * 32).toNat = q * 32 := by omega
    rw [e]
    by_cases h1 : (q : Int) * 32 < (s.size : Int)
    · refine ev_pos h1 (ev_pos (by omega) (ev_pos (by omega) (Ev.bind (Ev.now _) ?_)))
      have hx : (s.extract (q * 32) s.size).data.toList = s.data.toList.drop (q * 32) := by rw [b_cut, List.take_of_length_le (by rw [b_len]; omega)]
      have hsz : (s.extract (q * 32) s.size).size = s.size - q * 32 := by rw [ByteArray.size_extract]; omega
      generalize s.extract (q * 32) s.size = y at hx hsz
      rw [← hx]
      by_cases h2 : (y.size : Int) > 32
      · refine ev_pos h2 (ev_pos (by omega) (Ev.bind (Ev.now _) ?_))
        have hy : (y.extract 0 32).data.toList = y.data.toList.take 32 := by rw [b_cut]; rfl
        have hz : (y.extract 0 32).size = 32 := by rw [ByteArray.size_extract]; omega
        rw [w64 (by omega) (by omega), show (32 : Int) - ((y.extract 0 32).size : Int) = ((32 - (y.extract 0 32).size : Nat) : Int) by omega]
        exact Ev.bind (zeroText_ev _ (by omega)) (ev_pos (by rw [zb_size]; omega) (Ev.bind (Ev.now _) (ev_now (pg_fill _ _ hy))))
      · refine ev_neg h2 ?_
        rw [w64 (by omega) (by omega), show (32 : Int) - (y.size : Int) = ((32 - y.size : Nat) : Int) by omega]
        refine Ev.bind (zeroText_ev _ (by omega)) (ev_pos (by rw [zb_size]; omega) (Ev.bind (Ev.now _) (ev_now (pg_fill _ _ ?_))))
        rw [List.take_of_length_le]; rw [b_len]; omega
    · refine ev_neg h1 ?_
      refine Ev.bind (zeroText_ev 32 (by omega)) (ev_pos (by rw [zb_size]; omega) (Ev.bind (Ev.now _) (ev_now ?_)))
      have hn : s.data.toList.drop (q * 32) = [] := List.drop_of_length_le (by rw [b_len]; omega)
      rw [hn]
      apply b_inj
      rw [b_app, b_mk, zb_list]; rfl
  · rw [if_neg h]
    exact ev_neg (by simpa using h) (ev_now rfl)
theorem iPageOf_eq (s : ByteArray) (k : Int) (hs : s.size ≤ 4000000) : impl_PageOf.f s k = some (pgOf s k) := by
  unfold impl_PageOf.f pgOf
  rw [within_eq, Option.bind_some]
  by_cases h : 0 ≤ k ∧ k ≤ 3
  · rw [if_pos h, if_pos (by simpa using h)]
    obtain ⟨q, rfl⟩ := Int.eq_ofNat_of_zero_le h.1
    rw [w64 (x := (q : Int) * 32) (by omega) (by omega), Int.toNat_natCast]
    have m1 : mn ((q : Int) * 32) (s.size : Int) = ((min (q * 32) s.size : Nat) : Int) := by
      show (if (s.size : Int) < (q : Int) * 32 then (s.size : Int) else (q : Int) * 32) = _
      split <;> omega
    rw [m1, w64 (by omega) (by omega)]
    have m2 : mn (((min (q * 32) s.size : Nat) : Int) + 32) (s.size : Int) = ((min (min (q * 32) s.size + 32) s.size : Nat) : Int) := by
      show (if (s.size : Int) < ((min (q * 32) s.size : Nat) : Int) + 32 then (s.size : Int) else ((min (q * 32) s.size : Nat) : Int) + 32) = _
      split <;> omega
    rw [m2, if_pos (by omega), if_pos (by omega), if_pos (by omega), Int.toNat_natCast, Int.toNat_natCast]
    have hx : (s.extract (min (q * 32) s.size) (min (min (q * 32) s.size + 32) s.size)).data.toList = (s.data.toList.drop (q * 32)).take 32 := by
      rw [b_cut, List.drop_take]
      by_cases hq : q * 32 ≤ s.size
      · rw [Nat.min_eq_left hq]
        by_cases hr : q * 32 + 32 ≤ s.size
        · rw [Nat.min_eq_left hr]; congr 1; omega
        · rw [Nat.min_eq_right (by omega), List.take_of_length_le (by rw [List.length_drop, b_len]; omega), List.take_of_length_le (by rw [List.length_drop, b_len]; omega)]
      · rw [Nat.min_eq_right (by omega), List.drop_of_length_le (by rw [b_len]; omega), List.drop_of_length_le (by rw [b_len]; omega)]; simp
    have hsz : (s.extract (min (q * 32) s.size) (min (min (q * 32) s.size + 32) s.size)).size ≤ 32 := by rw [ByteArray.size_extract]; omega
    generalize s.extract (min (q * 32) s.size) (min (min (q * 32) s.size + 32) s.size) = y at hx hsz
    rw [padded_eq y 32 (by omega) (by omega) (by omega), Option.bind_some, show ((32 : Int) - (y.size : Int)).toNat = 32 - y.size by omega, pg_fill y _ hx]
  · rw [if_neg h, if_neg (by simpa using h)]

/-! ### FnExactPageOf -/
theorem FnExactPageOf : laws_FnExactPageOf.Law := by
  intro s k hs _
  apply Ev.rounds
  unfold laws_FnExactPageOf.f
  by_cases h : (s.size : Int) > 1048576
  · exact ev_pos h (ev_now rfl)
  exact ev_neg h (Ev.bind (sPageOf_ev s k (by omega)) (Ev.bind (ev_eq (iPageOf_eq s k (by omega))) (ev_pos rfl (ev_now rfl))))

end Go.Proofs.Ytakcojednmlheaa.Pure
