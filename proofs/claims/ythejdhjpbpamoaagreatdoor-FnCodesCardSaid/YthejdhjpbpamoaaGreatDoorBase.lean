/- Plain lemmas on rounds ('from some number of rounds on'), on the wrap of ints and on lists and byte strings, for the pure statements of this seat. Conditions: each theorem states its own. -/
import Derived.RowKit
import Derived.Laws.Strings
import Derived.Lib.Repeat
import Derived.Lib.Join
import Derived.Test.YthejdhjpbpamoaaGreatDoorWWords
import Derived.Test.YthejdhjpbpamoaaGreatDoorWLast
namespace Go.Proofs.YthejdhjpbpamoaaGreatDoor.Base
open Go Go.RowKit Go.Proofs.YthejdhjpbpamoaaGreatDoorW.iw Go.Proofs.YthejdhjpbpamoaaGreatDoorW.lH
set_option linter.unusedVariables false
section
variable {α β : Type}
theorem jh {g : Option α} {r : α} (h : g = some r) : Ev (fun _ => g) r := ⟨0, fun _ _ => h⟩
theorem eU {a r : α} (h : a = r) : Ev (fun _ => some a) r := h ▸ Ev.now a
theorem bC {c : Prop} [Decidable c] {f g : Nat → Option α} {r : α} (h : c) (e : Ev f r) : Ev (fun k => if c then f k else g k) r := Ev.congr (fun _ => if_pos h) e
theorem dQ {c : Prop} [Decidable c] {f g : Nat → Option α} {r : α} (h : ¬ c) (e : Ev g r) : Ev (fun k => if c then f k else g k) r := Ev.congr (fun _ => if_neg h) e
theorem mg {g : Nat → Option α} {a r : α} (e : Ev g a) (h : a = r) : Ev g r := h ▸ e
end
theorem pI {x : Int} (h0 : -9223372036854775808 ≤ x) (h1 : x < 9223372036854775808) : wrap64 x = x := by
 unfold wrap64
 omega
theorem qc (i : Nat) (h : i < 4611686018427387904) : wrap64 ((i : Int) + 1) = ((i + 1 : Nat) : Int) := by
 rw [pI (by omega) (by omega)]
 omega
theorem aj9 (xs : List Int) (i : Nat) : rd xs (i : Int) = xs.getD i 0 := by unfold rd; rw [Int.toNat_natCast]
theorem aj8 (xs : List Int) (i : Nat) (h : i < xs.length) : rd xs (i : Int) = xs[i] := by rw [aj9, List.getD_eq_getElem?_getD, List.getElem?_eq_getElem h]; rfl
theorem Ea {α : Type} (d : α) (xs : List α) (i : Nat) (h : i < xs.length) : rZ d xs (i : Int) = xs[i] := by unfold rZ; rw [Int.toNat_natCast, List.getD_eq_getElem?_getD, List.getElem?_eq_getElem h]; rfl
theorem getD_at {α : Type} (d : α) (xs : List α) (i : Nat) (h : i < xs.length) : xs.getD (i : Int).toNat d = xs[i] := by rw [Int.toNat_natCast, List.getD_eq_getElem?_getD, List.getElem?_eq_getElem h]; rfl
theorem toList_inj {a b : ByteArray} (h : a.toList = b.toList) : a = b := by
 have : a.data.toList = b.data.toList := by rw [← Go.ByteArray.toList_eq a, ← Go.ByteArray.toList_eq b]; exact h
 exact ByteArray.ext (Array.toList_inj.1 this)
def left (a : Int) (t : Nat) : Int := if (t : Int) ≤ a then a - t else -1
def qI {α : Type} (f : α → Nat) (xs : List α) : Nat := (xs.map f).sum
theorem BQ {α : Type} (f : α → Nat) (x : α) (xs : List α) : qI f (x :: xs) = f x + qI f xs := by simp [qI]
theorem drop_at {α : Type} (xs : List α) (i : Nat) (h : i < xs.length) : xs.drop i = xs[i] :: xs.drop (i + 1) := List.drop_eq_getElem_cons h
theorem Bg (a b : ByteArray) : (a ++ b).data.toList = a.data.toList ++ b.data.toList := by
 rw [ByteArray.data_append, Array.toList_append]
theorem EO (a : ByteArray) (i j : Nat) : (a.extract i j).data.toList = (a.data.toList.take j).drop i := by
 rw [ByteArray.data_extract, Array.toList_extract]
 simp [List.extract, List.drop_take]
theorem vV (a : ByteArray) : a.data.toList.length = a.size := by rw [Array.length_toList]; rfl
theorem Aa (l : List UInt8) : (⟨l.toArray⟩ : ByteArray).data.toList = l := rfl
theorem C_ (l : List UInt8) : (⟨l.toArray⟩ : ByteArray).size = l.length := by rw [← vV]
theorem yS {a b : ByteArray} (h : a.data.toList = b.data.toList) : a = b := ByteArray.ext (Array.toList_inj.1 h)
theorem Dc (a : ByteArray) : a.toList = a.data.toList := Go.ByteArray.toList_eq a
def zb (n : Nat) : ByteArray := ⟨(List.replicate n (0 : UInt8)).toArray⟩
theorem aaZ (n : Nat) : (zb n).data.toList = List.replicate n 0 := rfl
theorem Oq (n : Nat) : (zb n).size = n := by unfold zb; rw [C_, List.length_replicate]
end Go.Proofs.YthejdhjpbpamoaaGreatDoor.Base
