/- Plain lemmas on rounds ('from some number of rounds on'), on the wrap of ints and on lists and byte strings, for the pure statements of this seat. Conditions: each theorem states its own. -/
import Derived.RowKit
import Derived.Laws.Strings
import Derived.Lib.Repeat
import Derived.Lib.Join
import Derived.Test.YtmddplifammohaaDoorWWords
import Derived.Test.YtmddplifammohaaDoorWLast
namespace Go.Proofs.YtmddplifammohaaDoor.Base
open Go Go.RowKit Go.Proofs.YtmddplifammohaaDoorW.PrintWords Go.Proofs.YtmddplifammohaaDoorW.PrintLast
set_option linter.unusedVariables false
section
variable {α β : Type}
theorem ev_intro {g : Nat → Option α} {r : α} (K : Nat) (h : ∀ k, K ≤ k → g k = some r) : Ev g r := ⟨K, h⟩
theorem ev_eq {g : Option α} {r : α} (h : g = some r) : Ev (fun _ => g) r := ⟨0, fun _ _ => h⟩
theorem ev_now {a r : α} (h : a = r) : Ev (fun _ => some a) r := h ▸ Ev.now a
theorem ev_pos {c : Prop} [Decidable c] {f g : Nat → Option α} {r : α} (h : c) (e : Ev f r) : Ev (fun k => if c then f k else g k) r := Ev.congr (fun _ => if_pos h) e
theorem ev_neg {c : Prop} [Decidable c] {f g : Nat → Option α} {r : α} (h : ¬ c) (e : Ev g r) : Ev (fun k => if c then f k else g k) r := Ev.congr (fun _ => if_neg h) e
theorem ev_to {g : Nat → Option α} {a r : α} (e : Ev g a) (h : a = r) : Ev g r := h ▸ e
theorem ev_uniq {g : Nat → Option α} {a b : α} (h : Ev g a) (h' : Ev g b) : a = b := by
  obtain ⟨K, h⟩ := h
  obtain ⟨K', h'⟩ := h'
  have h1 := h (max K K') (by omega)
  have h2 := h' (max K K') (by omega)
  rw [h1] at h2
  exact Option.some.inj h2
/-- The value that a function of rounds comes to (a default where it comes to none). -/
noncomputable def evv (d : α) (g : Nat → Option α) : α := open Classical in if h : ∃ r, Ev g r then h.choose else d
theorem evv_ev {d : α} {g : Nat → Option α} (h : ∃ r, Ev g r) : Ev g (evv d g) := by
  unfold evv
  rw [dif_pos h]
  exact h.choose_spec
end
theorem w64 {x : Int} (h0 : -9223372036854775808 ≤ x) (h1 : x < 9223372036854775808) : wrap64 x = x := by
  unfold wrap64
  omega
theorem wf64 {x : Int} (h : (Lit.int .i64 x).wf = true) : -9223372036854775808 ≤ x ∧ x ≤ 9223372036854775807 := by
  simp only [Lit.wf, Bool.and_eq_true, decide_eq_true_eq] at h
  exact h
theorem w64s (i : Nat) (h : i < 4611686018427387904) : wrap64 ((i : Int) + 1) = ((i + 1 : Nat) : Int) := by
  rw [w64 (by omega) (by omega)]
  omega
theorem rd_nat (xs : List Int) (i : Nat) : rd xs (i : Int) = xs.getD i 0 := by unfold rd; rw [Int.toNat_natCast]
theorem rd_at (xs : List Int) (i : Nat) (h : i < xs.length) : rd xs (i : Int) = xs[i] := by rw [rd_nat, List.getD_eq_getElem?_getD, List.getElem?_eq_getElem h]; rfl
theorem rdOf_at {α : Type} (d : α) (xs : List α) (i : Nat) (h : i < xs.length) : rdOf d xs (i : Int) = xs[i] := by unfold rdOf; rw [Int.toNat_natCast, List.getD_eq_getElem?_getD, List.getElem?_eq_getElem h]; rfl
theorem getD_at {α : Type} (d : α) (xs : List α) (i : Nat) (h : i < xs.length) : xs.getD (i : Int).toNat d = xs[i] := by rw [Int.toNat_natCast, List.getD_eq_getElem?_getD, List.getElem?_eq_getElem h]; rfl
theorem take_set {α : Type} {xs ys : List α} {i : Nat} {x : α} (hl : ys.length = xs.length) (h : ys.take i = xs.take i) (hi : i < xs.length) (hx : xs[i] = x) : (ys.set i x).take (i + 1) = xs.take (i + 1) := by
  apply List.ext_getElem
  · simp [hl]
  · intro j h1 h2
    simp at h1 h2
    simp only [List.getElem_take, List.getElem_set]
    split
    · subst_vars; rfl
    · have hj : j < i := by omega
      have := congrArg (fun l => l[j]?) h
      simp only [List.getElem?_take, if_pos hj] at this
      rw [List.getElem?_eq_getElem (by omega), List.getElem?_eq_getElem (by omega)] at this
      exact Option.some.inj this
theorem take_all {α : Type} {xs ys : List α} (hl : ys.length = xs.length) (h : ys.take xs.length = xs.take xs.length) : ys = xs := by
  rw [List.take_length, ← hl, List.take_length] at h
  exact h
theorem toList_inj {a b : ByteArray} (h : a.toList = b.toList) : a = b := by
  have : a.data.toList = b.data.toList := by rw [← Go.ByteArray.toList_eq a, ← Go.ByteArray.toList_eq b]; exact h
  exact ByteArray.ext (Array.toList_inj.1 this)
/-- What is left of a budget. -/
def left (a : Int) (t : Nat) : Int := if (t : Int) ≤ a then a - t else -1
theorem left_zero {a : Int} (h : 0 ≤ a) : left a 0 = a := by unfold left; rw [if_pos (by omega)]; omega
theorem left_add (a : Int) (s t : Nat) : (if left a s < 0 then (-1) else left (left a s) t) = left a (s + t) := by
  unfold left
  by_cases h : (s : Int) ≤ a
  · rw [if_pos h, if_neg (by omega)]
    by_cases h2 : (t : Int) ≤ a - s
    · rw [if_pos h2, if_pos (by omega)]; omega
    · rw [if_neg h2, if_neg (by omega)]
  · rw [if_neg h, if_pos (by omega), if_neg (by omega)]
theorem left_le {a : Int} {t : Nat} (h : 0 ≤ left a t) : (t : Int) ≤ a ∧ left a t = a - t := by
  unfold left at h ⊢
  by_cases h2 : (t : Int) ≤ a
  · rw [if_pos h2]; exact ⟨h2, rfl⟩
  · rw [if_neg h2] at h; omega
theorem left_neg {a : Int} {t : Nat} (h : left a t < 0) : left a t = -1 := by
  unfold left at h ⊢
  by_cases h2 : (t : Int) ≤ a
  · rw [if_pos h2] at h; omega
  · rw [if_neg h2]
theorem ev_left {a : Int} {t : Nat} : Ev (fun _ : Nat => if left a t < 0 then some (-1) else some (left a t)) (left a t) := by
  by_cases h : left a t < 0
  · exact ev_pos h (ev_now (left_neg h).symm)
  · exact ev_neg h (ev_now rfl)
theorem ev_sub {F : Nat → Option Int} (a : Int) {n t : Nat} (h0 : 0 ≤ a) (h : 0 ≤ a - (n : Int) → Ev F (left (a - n) t)) : Ev (fun k => if a - (n : Int) < 0 then some (-1) else F k) (left a (n + t)) := by
  by_cases hc : a - (n : Int) < 0
  · exact ev_pos hc (ev_now (by unfold left; rw [if_neg (by omega)]))
  · refine ev_neg hc (ev_to (h (by omega)) ?_)
    have := left_add a n t
    have h2 : left a n = a - n := by unfold left; rw [if_pos (by omega)]
    rw [h2, if_neg hc] at this
    exact this
theorem ev_call {F : Nat → Option Int} {a : Int} {n t : Nat} (h : 0 ≤ left a n → Ev F (left (left a n) t)) : Ev (fun k => if left a n < 0 then some (-1) else F k) (left a (n + t)) := by
  by_cases hc : left a n < 0
  · refine ev_pos hc (ev_now ?_)
    have := left_add a n t
    rw [if_pos hc] at this
    exact this
  · refine ev_neg hc (ev_to (h (by omega)) ?_)
    have := left_add a n t
    rw [if_neg hc] at this
    exact this
def sumBy {α : Type} (f : α → Nat) (xs : List α) : Nat := (xs.map f).sum
theorem sumBy_nil {α : Type} (f : α → Nat) : sumBy f [] = 0 := rfl
theorem sumBy_cons {α : Type} (f : α → Nat) (x : α) (xs : List α) : sumBy f (x :: xs) = f x + sumBy f xs := by simp [sumBy]
theorem sumBy_mem {α : Type} {f : α → Nat} {xs : List α} {x : α} (h : x ∈ xs) : f x ≤ sumBy f xs := by
  induction xs with
  | nil => cases h
  | cons y r ih =>
    rw [sumBy_cons]
    rcases List.mem_cons.1 h with rfl | h
    · omega
    · have := ih h; omega
theorem drop_at {α : Type} (xs : List α) (i : Nat) (h : i < xs.length) : xs.drop i = xs[i] :: xs.drop (i + 1) := List.drop_eq_getElem_cons h
theorem b_app (a b : ByteArray) : (a ++ b).data.toList = a.data.toList ++ b.data.toList := by
  rw [ByteArray.data_append, Array.toList_append]
theorem b_cut (a : ByteArray) (i j : Nat) : (a.extract i j).data.toList = (a.data.toList.take j).drop i := by
  rw [ByteArray.data_extract, Array.toList_extract]
  simp [List.extract, List.drop_take]
theorem b_len (a : ByteArray) : a.data.toList.length = a.size := by rw [Array.length_toList]; rfl
theorem b_mk (l : List UInt8) : (⟨l.toArray⟩ : ByteArray).data.toList = l := rfl
theorem b_size (l : List UInt8) : (⟨l.toArray⟩ : ByteArray).size = l.length := by rw [← b_len]
theorem b_inj {a b : ByteArray} (h : a.data.toList = b.data.toList) : a = b := ByteArray.ext (Array.toList_inj.1 h)
theorem b_toList (a : ByteArray) : a.toList = a.data.toList := Go.ByteArray.toList_eq a
/-- n zero bytes. -/
def zb (n : Nat) : ByteArray := ⟨(List.replicate n (0 : UInt8)).toArray⟩
theorem zb_list (n : Nat) : (zb n).data.toList = List.replicate n 0 := rfl
theorem zb_size (n : Nat) : (zb n).size = n := by unfold zb; rw [b_size, List.length_replicate]
theorem repeat_zero (n : Nat) : Lib.repeatL [0] n = List.replicate n 0 := by
  induction n with
  | zero => rfl
  | succ n ih => simp [Lib.repeatL, ih, List.replicate_succ]
end Go.Proofs.YtmddplifammohaaDoor.Base
