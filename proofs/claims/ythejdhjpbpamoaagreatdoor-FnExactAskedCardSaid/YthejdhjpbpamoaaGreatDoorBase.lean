/- Plain lemmas on rounds ('from some number of rounds on'), on the wrap of ints and on lists and byte strings, for the pure statements of this seat. Conditions: each theorem states its own. -/
import Derived.RowKit
import Derived.Laws.Strings
import Derived.Lib.Repeat
import Derived.Lib.Join
import Derived.Test.YthejdhjpbpamoaaGreatDoorWWords
import Derived.Test.YthejdhjpbpamoaaGreatDoorWLast
namespace Go.Proofs.YthejdhjpbpamoaaGreatDoor.Base
open Go Go.RowKit Go.Proofs.YthejdhjpbpamoaaGreatDoorW.jk Go.Proofs.YthejdhjpbpamoaaGreatDoorW.qI
set_option linter.unusedVariables false
section
variable {α β : Type}
theorem iQ {g : Option α} {r : α} (h : g = some r) : Ev (fun _ => g) r := ⟨0, fun _ _ => h⟩
theorem dM {a r : α} (h : a = r) : Ev (fun _ => some a) r := h ▸ Ev.now a
theorem aW {c : Prop} [Decidable c] {f g : Nat → Option α} {r : α} (h : c) (e : Ev f r) : Ev (fun k => if c then f k else g k) r := Ev.congr (fun _ => if_pos h) e
theorem dP {c : Prop} [Decidable c] {f g : Nat → Option α} {r : α} (h : ¬ c) (e : Ev g r) : Ev (fun k => if c then f k else g k) r := Ev.congr (fun _ => if_neg h) e
theorem lF {g : Nat → Option α} {a r : α} (e : Ev g a) (h : a = r) : Ev g r := h ▸ e
noncomputable def SB (d : α) (g : Nat → Option α) : α := open Classical in if h : ∃ r, Ev g r then h.choose else d
theorem af' {d : α} {g : Nat → Option α} (h : ∃ r, Ev g r) : Ev g (SB d g) := by
 unfold SB
 rw [dif_pos h]
 exact h.choose_spec
end
theorem oW {x : Int} (h0 : -9223372036854775808 ≤ x) (h1 : x < 9223372036854775808) : wrap64 x = x := by
 unfold wrap64
 omega
theorem wf64 {x : Int} (h : (Lit.int .i64 x).wf = true) : -9223372036854775808 ≤ x ∧ x ≤ 9223372036854775807 := by
 simp only [Lit.wf, Bool.and_eq_true, decide_eq_true_eq] at h
 exact h
theorem kP (i : Nat) (h : i < 4611686018427387904) : wrap64 ((i : Int) + 1) = ((i + 1 : Nat) : Int) := by
 rw [oW (by omega) (by omega)]
 omega
theorem CS {α : Type} (d : α) (xs : List α) (i : Nat) (h : i < xs.length) : qV d xs (i : Int) = xs[i] := by unfold qV; rw [Int.toNat_natCast, List.getD_eq_getElem?_getD, List.getElem?_eq_getElem h]; rfl
theorem getD_at {α : Type} (d : α) (xs : List α) (i : Nat) (h : i < xs.length) : xs.getD (i : Int).toNat d = xs[i] := by rw [Int.toNat_natCast, List.getD_eq_getElem?_getD, List.getElem?_eq_getElem h]; rfl
theorem take_set {α : Type} {xs ys : List α} {i : Nat} {x : α} (hl : ys.length = xs.length) (h : ys.take i = xs.take i) (hi : i < xs.length) (hx : xs[i] = x) : (ys.set i x).take (i + 1) = xs.take (i + 1) := by
 apply List.ext_getElem
 ·simp [hl]
 ·intro j h1 h2
  simp at h1 h2
  simp only [List.getElem_take, List.getElem_set]
  split
  ·subst_vars; rfl
  ·have hj : j < i := by omega
   have := congrArg (fun l => l[j]?) h
   simp only [List.getElem?_take, if_pos hj] at this
   rw [List.getElem?_eq_getElem (by omega), List.getElem?_eq_getElem (by omega)] at this
   exact Option.some.inj this
theorem an_ {α : Type} {xs ys : List α} (hl : ys.length = xs.length) (h : ys.take xs.length = xs.take xs.length) : ys = xs := by
 rw [List.take_length, ← hl, List.take_length] at h
 exact h
theorem toList_inj {a b : ByteArray} (h : a.toList = b.toList) : a = b := by
 have : a.data.toList = b.data.toList := by rw [← Go.ByteArray.toList_eq a, ← Go.ByteArray.toList_eq b]; exact h
 exact ByteArray.ext (Array.toList_inj.1 this)
def left (a : Int) (t : Nat) : Int := if (t : Int) ≤ a then a - t else -1
theorem abB {a : Int} (h : 0 ≤ a) : left a 0 = a := by unfold left; rw [if_pos (by omega)]; omega
theorem VY (a : Int) (s t : Nat) : (if left a s < 0 then (-1) else left (left a s) t) = left a (s + t) := by
 unfold left
 by_cases h : (s : Int) ≤ a
 ·rw [if_pos h, if_neg (by omega)]
  by_cases h2 : (t : Int) ≤ a - s
  ·rw [if_pos h2, if_pos (by omega)]; omega
  ·rw [if_neg h2, if_neg (by omega)]
 ·rw [if_neg h, if_pos (by omega), if_neg (by omega)]
theorem left_le {a : Int} {t : Nat} (h : 0 ≤ left a t) : (t : Int) ≤ a ∧ left a t = a - t := by
 unfold left at h ⊢
 by_cases h2 : (t : Int) ≤ a
 ·rw [if_pos h2]; exact ⟨h2, rfl⟩
 ·rw [if_neg h2] at h; omega
theorem amx {a : Int} {t : Nat} (h : left a t < 0) : left a t = -1 := by
 unfold left at h ⊢
 by_cases h2 : (t : Int) ≤ a
 ·rw [if_pos h2] at h; omega
 ·rw [if_neg h2]
theorem af_ {a : Int} {t : Nat} : Ev (fun _ : Nat => if left a t < 0 then some (-1) else some (left a t)) (left a t) := by
 by_cases h : left a t < 0
 ·exact aW h (dM (amx h).symm)
 ·exact dP h (dM rfl)
theorem SA {F : Nat → Option Int} (a : Int) {n t : Nat} (h0 : 0 ≤ a) (h : 0 ≤ a - (n : Int) → Ev F (left (a - n) t)) : Ev (fun k => if a - (n : Int) < 0 then some (-1) else F k) (left a (n + t)) := by
 by_cases hc : a - (n : Int) < 0
 ·exact aW hc (dM (by unfold left; rw [if_neg (by omega)]))
 ·refine dP hc (lF (h (by omega)) ?_)
  have := VY a n t
  have h2 : left a n = a - n := by unfold left; rw [if_pos (by omega)]
  rw [h2, if_neg hc] at this
  exact this
def qC {α : Type} (f : α → Nat) (xs : List α) : Nat := (xs.map f).sum
theorem an0 {α : Type} (f : α → Nat) : qC f [] = 0 := rfl
theorem BJ {α : Type} (f : α → Nat) (x : α) (xs : List α) : qC f (x :: xs) = f x + qC f xs := by simp [qC]
theorem anY {α : Type} {f : α → Nat} {xs : List α} {x : α} (h : x ∈ xs) : f x ≤ qC f xs := by
 induction xs with
 | nil => cases h
 | cons y r ih =>
  rw [BJ]
  rcases List.mem_cons.1 h with rfl | h
  ·omega
  ·have := ih h; omega
theorem drop_at {α : Type} (xs : List α) (i : Nat) (h : i < xs.length) : xs.drop i = xs[i] :: xs.drop (i + 1) := List.drop_eq_getElem_cons h
theorem Bc (a b : ByteArray) : (a ++ b).data.toList = a.data.toList ++ b.data.toList := by
 rw [ByteArray.data_append, Array.toList_append]
theorem Dt (a : ByteArray) (i j : Nat) : (a.extract i j).data.toList = (a.data.toList.take j).drop i := by
 rw [ByteArray.data_extract, Array.toList_extract]
 simp [List.extract, List.drop_take]
theorem wo (a : ByteArray) : a.data.toList.length = a.size := by rw [Array.length_toList]; rfl
theorem Bd (l : List UInt8) : (⟨l.toArray⟩ : ByteArray).data.toList = l := rfl
theorem EG (l : List UInt8) : (⟨l.toArray⟩ : ByteArray).size = l.length := by rw [← wo]
theorem yE {a b : ByteArray} (h : a.data.toList = b.data.toList) : a = b := ByteArray.ext (Array.toList_inj.1 h)
theorem EH (a : ByteArray) : a.toList = a.data.toList := Go.ByteArray.toList_eq a
def zb (n : Nat) : ByteArray := ⟨(List.replicate n (0 : UInt8)).toArray⟩
theorem Xu (n : Nat) : (zb n).data.toList = List.replicate n 0 := rfl
theorem Gq (n : Nat) : (zb n).size = n := by unfold zb; rw [EG, List.length_replicate]
theorem anr (n : Nat) : Lib.repeatL [0] n = List.replicate n 0 := by
 induction n with
 | zero => rfl
 | succ n ih => simp [Lib.repeatL, ih, List.replicate_succ]
end Go.Proofs.YthejdhjpbpamoaaGreatDoor.Base
