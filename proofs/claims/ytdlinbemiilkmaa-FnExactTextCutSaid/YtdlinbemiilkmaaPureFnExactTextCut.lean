/- The pure statement of FnExactTextCut is proved: for all arguments within the row's own bounds the Lean function that the law's walk comes to answers true. Conditions: none beyond these bounds. -/
import Derived.Test.YtdlinbemiilkmaaStFnExactTextCut
import Derived.Test.YtdlinbemiilkmaaBase
namespace Go.Proofs.Ytdlinbemiilkmaa.Pure
open Go.RowKit Go.Proofs.Ytdlinbemiilkmaa.PFnExactTextCut Go.Proofs.YtdlinbemiilkmaaW.PrintWords Go.Proofs.YtdlinbemiilkmaaW.PrintLast Go.Proofs.Ytdlinbemiilkmaa.Base
set_option linter.unusedVariables false
set_option linter.unusedSimpArgs false
/-! ### lin -/
theorem l01In_eq (a b c : Int) : spec_l01In.f a b c = some (decide (b ≤ a ∧ a ≤ c)) := by
  unfold spec_l01In.f
  by_cases h : a ≥ b
  · rw [if_pos h]; congr 1; simp; omega
  · rw [if_neg h]; congr 1; simp; omega
theorem within_eq (a b c : Int) : impl_within.f a b c = some (decide (b ≤ a ∧ a ≤ c)) := by
  unfold impl_within.f
  by_cases h : a ≥ b
  · rw [if_pos h]; congr 1; simp; omega
  · rw [if_neg h]; congr 1; simp; omega

/-! ### zerotext -/
theorem long_l (n : Nat) (hn : n ≤ 1048576) : ∀ (i : Nat) (ys : List Int), i ≤ n → ys.length = n → (∀ y ∈ ys, y = 0) → Ev (fun k => spec_l01Long.l0 k n 0 ys i) (strOfNums ys)
  | i, ys, hi, hl, hz => by
    refine Ev.step (spec_l01Long.l0.eq_2 _ _ _ _) ?_
    by_cases h : i < n
    · refine ev_pos (by omega) (ev_pos (by omega) (ev_pos (by omega) ?_))
      rw [w64s i (by omega), Int.toNat_natCast]
      have e : ys.set i 0 = ys := by
        apply List.ext_getElem (by simp)
        intro j h1 h2
        rw [List.getElem_set]
        split
        · exact (hz _ (List.getElem_mem h2)).symm
        · rfl
      rw [e]
      exact long_l n hn (i + 1) ys (by omega) hl hz
    · exact ev_neg (by omega) (ev_now rfl)
  termination_by i => n - i
theorem long_ev (n : Nat) (hn : n ≤ 1048576) : Ev (fun k => spec_l01Long.f k n 0) (zb n) := by
  unfold spec_l01Long.f
  refine ev_pos (by omega) (ev_pos (by omega) (ev_to (long_l n hn 0 _ (by omega) (by simp) (by simp)) ?_))
  simp [strOfNums, zb]
theorem zeroText_ev (n : Nat) (hn : n ≤ 20000) : Ev (fun k => spec_ZeroText.f k (n : Int)) (zb n) := by
  unfold spec_ZeroText.f
  exact Ev.bind (ev_eq (l01In_eq _ _ _)) (ev_pos (by simp; omega) (Ev.bind (long_ev n (by omega)) (ev_now rfl)))

/-! ### padded -/
theorem repeat_eq (n : Nat) (h : n ≤ 1048576) : strings_Repeat.f (⟨#[0]⟩ : ByteArray) (n : Int) = some (zb n) := by
  unfold strings_Repeat.f
  have h1 : (⟨#[0]⟩ : ByteArray).size = 1 := rfl
  rw [if_pos ⟨by omega, by omega, by rw [Int.toNat_natCast, h1]; omega⟩]
  congr 1
  unfold zb
  rw [← repeat_zero, Int.toNat_natCast]
theorem padded_eq (s : ByteArray) (n : Int) (h0 : 0 ≤ n) (h1 : n ≤ 1048576) (hs : s.size ≤ 4000000) : impl_padded.f s n = some (s ++ zb (n - s.size).toNat) := by
  unfold impl_padded.f
  rw [w64 (by omega) (by omega)]
  have hm : mx 0 (n - (s.size : Int)) = (((n - s.size).toNat : Nat) : Int) := by
    show (if (0 : Int) < n - (s.size : Int) then n - (s.size : Int) else 0) = _
    split <;> omega
  rw [hm, repeat_eq _ (by omega), Option.bind_some, if_pos (by rw [zb_size]; omega)]

/-! ### textcut -/
def cutS (s : ByteArray) (n : Int) : ByteArray := if 0 ≤ n ∧ n ≤ 128 then ⟨((s.data.toList ++ List.replicate (n - s.size).toNat 0).take n.toNat).toArray⟩ else s
theorem sTextCut_ev (s : ByteArray) (n : Int) (hs : s.size ≤ 4000000) : Ev (fun k => spec_TextCut.f k s n) (cutS s n) := by
  unfold spec_TextCut.f cutS
  refine Ev.bind (ev_eq (l01In_eq _ _ _)) ?_
  by_cases h : 0 ≤ n ∧ n ≤ 128
  · rw [if_pos h]
    refine ev_pos (by simpa using h) ?_
    by_cases h2 : n ≤ (s.size : Int)
    · refine ev_pos h2 (ev_pos h.1 (ev_now (b_inj ?_)))
      rw [b_cut, b_mk, List.take_append_of_le_length (by rw [b_len]; omega)]; simp
    · refine ev_neg h2 ?_
      rw [w64 (by omega) (by omega), show n - (s.size : Int) = (((n - s.size).toNat : Nat) : Int) by omega]
      refine Ev.bind (zeroText_ev _ (by omega)) (ev_pos (by rw [zb_size]; omega) (ev_now (b_inj ?_)))
      rw [b_app, b_mk, zb_list, List.take_of_length_le]
      · congr 2
      · simp only [List.length_append, b_len, List.length_replicate]; omega
  · rw [if_neg h]
    exact ev_neg (by simpa using h) (ev_now rfl)
theorem iTextCut_eq (s : ByteArray) (n : Int) (hs : s.size ≤ 4000000) : impl_TextCut.f s n = some (cutS s n) := by
  unfold impl_TextCut.f cutS
  rw [within_eq, Option.bind_some]
  by_cases h : 0 ≤ n ∧ n ≤ 128
  · rw [if_pos h, if_pos (by simpa using h), padded_eq s n (by omega) (by omega) hs, Option.bind_some, if_pos h.1, if_pos]
    · congr 1
      refine b_inj ?_
      rw [b_cut, b_app, b_mk, zb_list]; simp
    · rw [ByteArray.size_append, zb_size]; omega
  · rw [if_neg h, if_neg (by simpa using h)]

/-! ### FnExactTextCut -/
theorem FnExactTextCut : laws_FnExactTextCut.Law := by
  intro s n hs _
  apply Ev.rounds
  unfold laws_FnExactTextCut.f
  by_cases h : (s.size : Int) > 1048576
  · exact ev_pos h (ev_now rfl)
  refine ev_neg h (Ev.bind (sTextCut_ev s n (by omega)) (Ev.bind (ev_eq (iTextCut_eq s n (by omega))) (ev_pos rfl (ev_now rfl))))

end Go.Proofs.Ytdlinbemiilkmaa.Pure
