/- What an argument reads as data, told as the print's kinds tell it: for every type of whole numbers, bools, strings, slices and structs of these, nested at will. Conditions: each theorem states its own. -/
import Derived.ChangeArms
import Derived.DataReads
import Derived.Deep.Slices
import Derived.SizedLaws
import Derived.OpenShut
import Derived.ShutString
import Derived.WideShapes
import Derived.Test.YthejdhjpbpamoaaGreatDoorWWords
import Derived.Test.YthejdhjpbpamoaaGreatDoorWSized
namespace Go.Proofs.YthejdhjpbpamoaaGreatDoor.Opn
open Go Go.ChangeShapes Go.WideShapes Go.RowKit Go.Deep Go.Proofs.YthejdhjpbpamoaaGreatDoorW.iw
set_option linter.unusedVariables false
structure Opn (P : Program) {α : Type} (t : TypeId) (d : Kd α) (wf : α → Prop) : Prop where
 out : ∀ {H : Type} {enc : TypeId × Value → H} {W : World} {base : Nat} {spare : Nat → Bool} {held : Bool} {fuel : Nat} {cs : List Value} {x : DataW H × List MemPlace},
  DataW.trod enc P W base spare held fuel t cs = some x → (∀ n ∈ DataW.weights P t x.1, n ≤ reachBytes) → ∃ a, d.K W a cs ∧ wf a
section
variable {P : Program}
theorem ajH {t : TypeId} {k : IntKind} (ht : P.underlying t = some (.int k)) : Opn P t (Kd.int k) (fun a => (Lit.int k a).wf = true) := by
 refine ⟨?_⟩
 intro H enc W base spare held fuel cs x h _
 obtain ⟨m, rfl, _, hw⟩ := DataW.trod_int ht h
 exact ⟨m, rfl, hw⟩
theorem weightsAll_mem {H : Type} {e : TypeId} {ds : List (DataW H)} {d : DataW H} (hd : d ∈ ds) {n : Nat} (hn : n ∈ DataW.weights P e d) : n ∈ DataW.weightsAll P e ds := by
 induction ds with
 | nil => cases hd
 | cons y r ih =>
  simp only [DataW.weightsAll, List.mem_append]
  rcases List.mem_cons.1 hd with rfl | h
  ·exact .inl hn
  ·exact .inr (ih h)
theorem ajI {α : Type} {t e : TypeId} {d : Kd α} {wf : α → Prop} {B : Nat} (ht : P.underlying t = some (.slice e)) (hc : P.cellsOf e = d.sz) (hB : P.bytesOf e = B) (he : Opn P e d wf) :
  Opn P t (Kd.slice e d) (fun xs => xs.length * B ≤ 140737488351232 ∧ ∀ y ∈ xs, wf y) := by
 refine ⟨?_⟩
 intro H enc W base spare held fuel cs x h hw
 rcases open_slice ht h with ⟨rfl, _⟩ | ⟨a, len, cap, m, n, D, Pl, rfl, hb, hl, hm, hmm, hx, hi⟩
 ·exact ⟨[], ⟨none, 0, rfl, Nat.zero_le _, rfl, by simp, fun h => by simp at h⟩, by simp, by simp⟩
 ·have hlm : len ≤ m := by rw [hmm]; split <;> omega
  have hw2 : ∀ n ∈ DataW.weights P t (.slice ((List.range len).map D) ((List.range (m - len)).map fun j => D (len + j))), n ≤ reachBytes := by rw [hx] at hw; exact hw
  simp only [DataW.weights, ht] at hw2
  have hlen : (len + (m - len)) * P.bytesOf e ≤ reachBytes := by
   have := hw2 _ (List.mem_cons_self)
   simpa using this
  have each : ∀ i, i < len → ∃ (y : α) (c : List Value), d.K W y c ∧ wf y ∧ W.cells? base (a.add (i * P.cellsOf e)) (P.cellsOf e) = some c := by
   intro i hil
   obtain ⟨c, hc1, ht1⟩ := hi i (by omega)
   obtain ⟨y, hK, hwf⟩ := he.out ht1 (fun n hn => hw2 n (List.mem_cons_of_mem _ (List.mem_append.2 (.inl (weightsAll_mem (List.mem_map.2 ⟨i, by simpa using hil, rfl⟩) hn)))))
   exact ⟨y, c, hK, hwf, hc1⟩
  let f : Fin len → α := fun i => (each i.1 i.2).choose
  have hf : ∀ i : Fin len, ∃ c : List Value, d.K W (f i) c ∧ wf (f i) ∧ W.cells? base (a.add (i.1 * P.cellsOf e)) (P.cellsOf e) = some c := fun i => (each i.1 i.2).choose_spec
  have Ji : (List.ofFn f).length = len := by simp
  refine ⟨List.ofFn f, ⟨some a, cap, by rw [Ji], by rw [Ji]; exact hl, rfl, by rw [Ji]; simp only [maxLen] at hm; omega, fun _ => ⟨a, rfl, fun j p hp => ?_⟩⟩, ?_, ?_⟩
  ·obtain ⟨hj, hp2⟩ := List.getElem?_eq_some_iff.1 hp
   rw [Ji] at hj
   simp only [List.getElem_ofFn] at hp2
   subst hp2
   obtain ⟨c, hK, _, hcs⟩ := hf ⟨j, hj⟩
   obtain ⟨_, hcl, hat⟩ := World.cells?_some hcs
   refine ⟨c, by rw [hcl, hc], hK, fun i u hu => ?_⟩
   have hic : i < P.cellsOf e := by rw [← hcl]; exact (List.getElem?_eq_some_iff.1 hu).1
   have := hat i hic
   rw [hu, hc] at this
   rw [← Go.Deep.add_add]
   exact this
  ·rw [Ji]
   have : len * B ≤ (len + (m - len)) * P.bytesOf e := by rw [hB]; exact Nat.mul_le_mul_right _ (by omega)
   exact Nat.le_trans this (Nat.le_trans hlen (by decide))
  ·intro y hy
   obtain ⟨i, rfl⟩ := List.mem_ofFn.1 hy
   exact (hf i).choose_spec.2.1
structure alR (P : Program) {α : Type} (fs : List Field) (off : Nat) (d : Kd α) (wf : α → Prop) : Prop where
 out : ∀ {H : Type} {enc : TypeId × Value → H} {W : World} {base : Nat} {spare : Nat → Bool} {held : Bool} {fuel : Nat} {cs : List Value} {xs : List (DataW H × List MemPlace)},
  cs.length = off + d.sz → xs.length = fs.length → (∀ (i : Nat) (f : Field), fs[i]? = some f → DataW.trod enc P W base spare held fuel f.type ((cs.drop f.offset).take (P.cellsOf f.type)) = xs[i]?) →
  (∀ n ∈ DataW.weightsEach P (fs.map (·.type)) (xs.map (·.1)), n ≤ reachBytes) → ∃ a, d.K W a (cs.drop off) ∧ wf a
theorem ajG {α H : Type} {enc : TypeId × Value → H} {W : World} {base : Nat} {spare : Nat → Bool} {held : Bool} {t : TypeId} {d : Kd α} {wf : α → Prop} (h : Opn P t d wf) {v : Value} {x : DataW H} {ps : List MemPlace} {ts : List TypeId} {ds : List (DataW H)} {j : Nat}
  (hsz : (DataW.weightsEach P ts ds).all (· ≤ reachBytes) = true) (ht : ts[j]? = some t) (hd : ds[j]? = some x) (hv : DataW.Trod enc P W base spare held t v x ps) : ∃ a, d.K W a v.cells.toList ∧ wf a := by
 obtain ⟨fuel, hf⟩ := hv
 refine h.out hf (fun n hn => ?_)
 have := List.all_eq_true.1 hsz _ (DataW.weights_mem_each ht hd n hn)
 simpa using this
end
end Go.Proofs.YthejdhjpbpamoaaGreatDoor.Opn
