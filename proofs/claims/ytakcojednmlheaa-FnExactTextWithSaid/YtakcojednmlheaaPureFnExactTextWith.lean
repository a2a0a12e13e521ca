/- The pure statement of FnExactTextWith is proved: for all arguments within the row's own bounds the Lean function that the law's walk comes to answers true. Conditions: none beyond these bounds. -/
import Derived.Test.YtakcojednmlheaaStFnExactTextWith
import Derived.Test.YtakcojednmlheaaBase
namespace Go.Proofs.Ytakcojednmlheaa.Pure
open Go.RowKit Go.Proofs.Ytakcojednmlheaa.PFnExactTextWith Go.Proofs.YtakcojednmlheaaW.PrintWords Go.Proofs.YtakcojednmlheaaW.PrintLast Go.Proofs.Ytakcojednmlheaa.Base
set_option linter.unusedVariables false
set_option linter.unusedSimpArgs false
/-! ### lin -/
theorem l01In_eq (a b c : Int) : spec_l01In.f a b c = some (decide (b ≤ a ∧ a ≤ c)) := by
  unfold spec_l01In.f
  by_cases h : a ≥ b
  · rw [if_pos h]; congr 1; simp; omega
  · rw [if_neg h]; congr 1; simp; omega

/-! ### zerotext -/
theorem long_l (n : Nat) (hn : n ≤ 1048576) : ∀ (i : Nat) (ys : List Int), i ≤ n → ys.length = n → (∀ y ∈ ys, y = 0) → Ev (fun k => spec_l01Long.l0 k n 0 ys i) (strOfNums ys)
  | i, ys, hi, hl, hz => by
    refine Ev.step (spec_l01Long.l0.eq_2 _ _ _ _) ?_
    by_cases h : i < n
    · refine ev_pos (by omega) (ev_pos (by omega) (ev_pos (by omega) ?_))
      rw [w64s i (by omega), Int.toNat_natCast]
      have e : ys.set i 0 = ys := by
        apply List.ext_getElem (by simp)
        intro j h1 h2
        rw [List.getElem_set]
        split
        · exact (hz _ (List.getElem_mem h2)).symm
        · rfl
      rw [e]
      exact long_l n hn (i + 1) ys (by omega) hl hz
    · exact ev_neg (by omega) (ev_now rfl)
  termination_by i => n - i
theorem long_ev (n : Nat) (hn : n ≤ 1048576) : Ev (fun k => spec_l01Long.f k n 0) (zb n) := by
  unfold spec_l01Long.f
  refine ev_pos (by omega) (ev_pos (by omega) (ev_to (long_l n hn 0 _ (by omega) (by simp) (by simp)) ?_))
  simp [strOfNums, zb]
theorem zeroText_ev (n : Nat) (hn : n ≤ 20000) : Ev (fun k => spec_ZeroText.f k (n : Int)) (zb n) := by
  unfold spec_ZeroText.f
  exact Ev.bind (ev_eq (l01In_eq _ _ _)) (ev_pos (by simp; omega) (Ev.bind (long_ev n (by omega)) (ev_now rfl)))

/-! ### padded -/
theorem repeat_eq (n : Nat) (h : n ≤ 1048576) : strings_Repeat.f (⟨#[0]⟩ : ByteArray) (n : Int) = some (zb n) := by
  unfold strings_Repeat.f
  have h1 : (⟨#[0]⟩ : ByteArray).size = 1 := rfl
  rw [if_pos ⟨by omega, by omega, by rw [Int.toNat_natCast, h1]; omega⟩]
  congr 1
  unfold zb
  rw [← repeat_zero, Int.toNat_natCast]
theorem padded_eq (s : ByteArray) (n : Int) (h0 : 0 ≤ n) (h1 : n ≤ 1048576) (hs : s.size ≤ 4000000) : impl_padded.f s n = some (s ++ zb (n - s.size).toNat) := by
  unfold impl_padded.f
  rw [w64 (by omega) (by omega)]
  have hm : mx 0 (n - (s.size : Int)) = (((n - s.size).toNat : Nat) : Int) := by
    show (if (0 : Int) < n - (s.size : Int) then n - (s.size : Int) else 0) = _
    split <;> omega
  rw [hm, repeat_eq _ (by omega), Option.bind_some, if_pos (by rw [zb_size]; omega)]

/-! ### textwith -/
def lay (b : ByteArray) (off : Nat) (t : ByteArray) : ByteArray := ⟨(b.data.toList.take off ++ t.data.toList ++ b.data.toList.drop (off + t.size)).toArray⟩
def twOk (s : ByteArray) (off : Int) (t : ByteArray) : Prop := t.size ≠ 0 ∧ 0 ≤ off ∧ off + t.size ≤ 128 ∧ s.size ≤ 128
open Classical in
noncomputable def tw (s : ByteArray) (off : Int) (t : ByteArray) : ByteArray := if twOk s off t then lay (s ++ zb (off - s.size).toNat) off.toNat t else s
theorem nil_size (t : ByteArray) : t.toList = [] ↔ t.size = 0 := by
  rw [b_toList, ← b_len]
  exact ⟨fun h => by rw [h]; rfl, fun h => List.eq_nil_of_length_eq_zero h⟩
theorem lay_short (b : ByteArray) (off : Nat) (t : ByteArray) (h : b.size ≤ off + t.size) : b.extract 0 off ++ t = lay b off t := by
  apply b_inj
  unfold lay
  have hd : b.data.toList.drop (off + t.size) = [] := List.drop_of_length_le (by rw [b_len]; exact h)
  rw [b_app, b_cut, b_mk, hd]
  simp
theorem lay_long (b : ByteArray) (off : Nat) (t : ByteArray) : b.extract 0 off ++ t ++ b.extract (off + t.size) b.size = lay b off t := by
  apply b_inj
  unfold lay
  have hd : b.data.toList.take b.size = b.data.toList := List.take_of_length_le (by rw [b_len]; exact Nat.le_refl _)
  rw [b_app, b_app, b_cut, b_cut, b_mk, hd]
  simp
theorem tail_ev (b : ByteArray) (off : Int) (t : ByteArray) (h0 : 0 ≤ off) (h1 : off ≤ b.size) (h2 : off + t.size ≤ 128) (h3 : b.size ≤ 1000) : Ev (fun _ => if (wrap64 (off + (t.size : Int))) > (b.size : Int) then (if 0 ≤ off then (if off ≤ (b.size : Int) then ((some (b.extract 0 (off : Int).toNat : ByteArray)).bind fun y => (if y.size + t.size ≤ 9223372036854775807 then ((some (y ++ t : ByteArray)).bind fun z => (some z)) else (none))) else (none)) else (none)) else (if 0 ≤ off then (if off ≤ (b.size : Int) then ((some (b.extract 0 (off : Int).toNat : ByteArray)).bind fun y => (if y.size + t.size ≤ 9223372036854775807 then ((some (y ++ t : ByteArray)).bind fun z => (if 0 ≤ (wrap64 (off + (t.size : Int))) then (if (wrap64 (off + (t.size : Int))) ≤ (b.size : Int) then ((some (b.extract ((wrap64 (off + (t.size : Int))) : Int).toNat b.size : ByteArray)).bind fun u => (if z.size + u.size ≤ 9223372036854775807 then ((some (z ++ u : ByteArray)).bind fun v => (some v)) else (none))) else (none)) else (none))) else (none))) else (none)) else (none))) (lay b off.toNat t) := by
  rw [w64 (by omega) (by omega)]
  obtain ⟨o, rfl⟩ := Int.eq_ofNat_of_zero_le h0
  have e : ((o : Int) + (t.size : Int)).toNat = o + t.size := by omega
  rw [e, Int.toNat_natCast]
  have z1 : (b.extract 0 o).size ≤ 1000 := by rw [ByteArray.size_extract]; omega
  have z2 : (b.extract (o + t.size) b.size).size ≤ 1000 := by rw [ByteArray.size_extract]; omega
  by_cases h : (o : Int) + (t.size : Int) > (b.size : Int)
  · exact ev_pos h (ev_pos h0 (ev_pos h1 (Ev.bind (Ev.now _) (ev_pos (by omega) (Ev.bind (Ev.now _) (ev_now (lay_short b o t (by omega))))))))
  · refine ev_neg h (ev_pos h0 (ev_pos h1 (Ev.bind (Ev.now _) (ev_pos (by omega) (Ev.bind (Ev.now _) (ev_pos (by omega) (ev_pos (by omega) (Ev.bind (Ev.now _) (ev_pos ?_ (Ev.bind (Ev.now _) (ev_now (lay_long b o t))))))))))))
    rw [ByteArray.size_append]; omega
theorem sTextWith_ev (s : ByteArray) (off : Int) (t : ByteArray) (hs : s.size ≤ 4000000) (ht : t.size ≤ 4000000) (ho : (Lit.int .i64 off).wf = true) : Ev (fun k => spec_TextWith.f k s off t) (tw s off t) := by
  unfold spec_TextWith.f
  rw [w64 (x := 128 - (t.size : Int)) (by omega) (by omega)]
  have out : ¬ twOk s off t → Ev (fun k => spec_TextWith.j0 k s off t true) (tw s off t) := by
    intro h
    unfold tw
    rw [if_neg h]
    refine Ev.step (spec_TextWith.j0.eq_2 _ _ _ _) ?_
    exact ev_pos rfl (ev_now rfl)
  by_cases h1 : t.size = 0
  · exact ev_pos ((nil_size t).2 h1) (out (fun h => h.1 h1))
  refine ev_neg (fun h => h1 ((nil_size t).1 h)) ?_
  by_cases h2 : off < 0
  · exact ev_pos h2 (out (fun h => by have := h.2.1; omega))
  refine ev_neg h2 ?_
  by_cases h3 : off > 128 - (t.size : Int)
  · exact ev_pos h3 (out (fun h => by have := h.2.2.1; omega))
  refine ev_neg h3 ?_
  by_cases h4 : (s.size : Int) > 128
  · rw [decide_eq_true h4]
    exact out (fun h => by have := h.2.2.2; omega)
  rw [decide_eq_false h4]
  have ok : twOk s off t := ⟨h1, by omega, by omega, by omega⟩
  unfold tw
  rw [if_pos ok]
  refine Ev.step (spec_TextWith.j0.eq_2 _ _ _ _) ?_
  refine ev_neg (by simp) ?_
  by_cases h5 : (s.size : Int) < off
  · refine ev_pos h5 ?_
    rw [w64 (x := off - (s.size : Int)) (by omega) (by omega), show off - (s.size : Int) = (((off - s.size).toNat : Nat) : Int) by omega]
    refine Ev.bind (zeroText_ev _ (by omega)) (ev_pos (by rw [zb_size]; omega) (Ev.bind (Ev.now _) ?_))
    rw [← show off - (s.size : Int) = (((off - s.size).toNat : Nat) : Int) by omega]
    have hz : (s ++ zb (off - (s.size : Int)).toNat).size = off.toNat := by rw [ByteArray.size_append, zb_size]; omega
    exact tail_ev _ off t (by omega) (by omega) (by omega) (by omega)
  · refine ev_neg h5 ?_
    have e : s ++ zb (off - (s.size : Int)).toNat = s := by
      apply b_inj
      rw [b_app, zb_list, show (off - (s.size : Int)).toNat = 0 by omega]; simp
    rw [e]
    exact tail_ev s off t (by omega) (by omega) (by omega) (by omega)
theorem iTextWith_eq (s : ByteArray) (off : Int) (t : ByteArray) (hs : s.size ≤ 4000000) (ht : t.size ≤ 4000000) (ho : (Lit.int .i64 off).wf = true) : impl_TextWith.f s off t = some (tw s off t) := by
  unfold impl_TextWith.f
  have out : ¬ twOk s off t → some s = some (tw s off t) := by
    intro h
    unfold tw
    rw [if_neg h]
  by_cases h1 : t.size = 0
  · rw [if_pos ((nil_size t).2 h1)]; exact out (fun h => h.1 h1)
  rw [if_neg (fun h => h1 ((nil_size t).1 h))]
  by_cases h2 : off < 0
  · rw [if_pos h2]; exact out (fun h => by have := h.2.1; omega)
  rw [if_neg h2]
  by_cases h3 : off > 128
  · rw [if_pos h3]; exact out (fun h => by have := h.2.2.1; omega)
  rw [if_neg h3, w64 (x := off + (t.size : Int)) (by omega) (by omega)]
  have hm : mx (s.size : Int) (off + (t.size : Int)) = if (s.size : Int) < off + t.size then off + t.size else s.size := rfl
  rw [hm]
  by_cases h4 : (if (s.size : Int) < off + t.size then off + t.size else s.size) > 128
  · rw [if_pos h4]
    exact out (fun h => by have h5 := h.2.2.1; have h6 := h.2.2.2; split at h4 <;> omega)
  rw [if_neg h4]
  have hb : off + t.size ≤ 128 ∧ s.size ≤ 128 := by split at h4 <;> omega
  have ok : twOk s off t := ⟨h1, by omega, hb.1, hb.2⟩
  unfold tw
  rw [if_pos ok, padded_eq s off (by omega) (by omega) (by omega), Option.bind_some]
  have hz : (s ++ zb (off - (s.size : Int)).toNat).size = s.size + (off - (s.size : Int)).toNat := by rw [ByteArray.size_append, zb_size]
  generalize s ++ zb (off - (s.size : Int)).toNat = b at hz ⊢
  obtain ⟨o, rfl⟩ := Int.eq_ofNat_of_zero_le (show 0 ≤ off by omega)
  have hn : mn ((o : Int) + t.size) (b.size : Int) = (((if b.size < o + t.size then b.size else o + t.size) : Nat) : Int) := by
    show (if (b.size : Int) < (o : Int) + t.size then (b.size : Int) else (o : Int) + t.size) = _
    split <;> split <;> omega
  rw [hn]
  simp only [Int.toNat_natCast]
  have z1 : (b.extract 0 o).size ≤ 1000 := by rw [ByteArray.size_extract]; omega
  by_cases h6 : b.size < o + t.size
  · rw [if_pos h6, if_pos (by omega), if_pos (by omega), if_pos (by omega), if_pos (by omega), if_pos (by omega), if_pos]
    · congr 1
      rw [← lay_short b o t (by omega)]
      apply b_inj
      rw [b_app, b_cut b b.size b.size, List.drop_of_length_le (by simp)]; simp
    · rw [ByteArray.size_append, ByteArray.size_extract (b := b.size)]; omega
  · rw [if_neg h6, if_pos (by omega), if_pos (by omega), if_pos (by omega), if_pos (by omega), if_pos (by omega), if_pos]
    · rw [lay_long]
    · rw [ByteArray.size_append, ByteArray.size_extract (b := o + t.size)]; omega

/-! ### FnExactTextWith -/
theorem FnExactTextWith : laws_FnExactTextWith.Law := by
  intro s off t hs ho ht
  apply Ev.rounds
  unfold laws_FnExactTextWith.f
  by_cases h : (s.size : Int) > 1048576
  · exact ev_pos h (ev_now rfl)
  refine ev_neg h ?_
  by_cases h2 : (t.size : Int) > 1048576
  · exact ev_pos h2 (ev_now rfl)
  exact ev_neg h2 (Ev.bind (sTextWith_ev s off t (by omega) (by omega) ho) (Ev.bind (ev_eq (iTextWith_eq s off t (by omega) (by omega) ho)) (ev_pos rfl (ev_now rfl))))

end Go.Proofs.Ytakcojednmlheaa.Pure
