/- What an argument reads as data, told as the print's kinds tell it: for every type of whole numbers, bools, strings, slices and structs of these, nested at will. Conditions: each theorem states its own. -/
import Derived.ChangeArms
import Derived.DataReads
import Derived.Deep.Slices
import Derived.SizedLaws
import Derived.OpenShut
import Derived.ShutString
import Derived.WideShapes
import Derived.Test.YthejdhjpbpamoaaGreatDoorWWords
import Derived.Test.YthejdhjpbpamoaaGreatDoorWSized
namespace Go.Proofs.YthejdhjpbpamoaaGreatDoor.Opn
open Go Go.ChangeShapes Go.WideShapes Go.RowKit Go.Deep Go.Proofs.YthejdhjpbpamoaaGreatDoorW.jk
set_option linter.unusedVariables false
structure Opn (P : Program) {α : Type} (t : TypeId) (d : Kd α) (wf : α → Prop) : Prop where
 out : ∀ {H : Type} {enc : TypeId × Value → H} {W : World} {base : Nat} {spare : Nat → Bool} {held : Bool} {fuel : Nat} {cs : List Value} {x : DataW H × List MemPlace},
  DataW.trod enc P W base spare held fuel t cs = some x → (∀ n ∈ DataW.weights P t x.1, n ≤ reachBytes) → ∃ a, d.K W a cs ∧ wf a
section
variable {P : Program}
theorem FW {t : TypeId} {k : IntKind} (ht : P.underlying t = some (.int k)) : Opn P t (Kd.int k) (fun a => (Lit.int k a).wf = true) := by
 refine ⟨?_⟩
 intro H enc W base spare held fuel cs x h _
 obtain ⟨m, rfl, _, hw⟩ := DataW.trod_int ht h
 exact ⟨m, rfl, hw⟩
theorem amU {t : TypeId} (ht : P.underlying t = some .bool) : Opn P t Kd.bool (fun _ => True) := by
 refine ⟨?_⟩
 intro H enc W base spare held fuel cs x h _
 cases fuel with
 | zero => simp [DataW.trod] at h
 | succ n =>
  unfold DataW.trod at h
  rw [ht] at h
  split at h
  all_goals first | exact ⟨_, rfl, trivial⟩ | simp_all
theorem MI {t : TypeId} (ht : P.underlying t = some .string) : Opn P t Kd.string (fun s => s.size ≤ 140737488351232) := by
 refine ⟨?_⟩
 intro H enc W base spare held fuel cs x h hw
 obtain ⟨s, rfl, rfl, _⟩ := DataW.trod_string ht h
 refine ⟨s, rfl, ?_⟩
 have := hw s.data.toList.length (by simp [DataW.weights])
 rw [Array.length_toList] at this
 exact this
theorem weightsAll_mem {H : Type} {e : TypeId} {ds : List (DataW H)} {d : DataW H} (hd : d ∈ ds) {n : Nat} (hn : n ∈ DataW.weights P e d) : n ∈ DataW.weightsAll P e ds := by
 induction ds with
 | nil => cases hd
 | cons y r ih =>
  simp only [DataW.weightsAll, List.mem_append]
  rcases List.mem_cons.1 hd with rfl | h
  ·exact .inl hn
  ·exact .inr (ih h)
theorem amW {α : Type} {t e : TypeId} {d : Kd α} {wf : α → Prop} {B : Nat} (ht : P.underlying t = some (.slice e)) (hc : P.cellsOf e = d.sz) (hB : P.bytesOf e = B) (he : Opn P e d wf) :
  Opn P t (Kd.slice e d) (fun xs => xs.length * B ≤ 140737488351232 ∧ ∀ y ∈ xs, wf y) := by
 refine ⟨?_⟩
 intro H enc W base spare held fuel cs x h hw
 rcases open_slice ht h with ⟨rfl, _⟩ | ⟨a, len, cap, m, n, D, Pl, rfl, hb, hl, hm, hmm, hx, hi⟩
 ·exact ⟨[], ⟨none, 0, rfl, Nat.zero_le _, rfl, by simp, fun h => by simp at h⟩, by simp, by simp⟩
 ·have hlm : len ≤ m := by rw [hmm]; split <;> omega
  have hw2 : ∀ n ∈ DataW.weights P t (.slice ((List.range len).map D) ((List.range (m - len)).map fun j => D (len + j))), n ≤ reachBytes := by rw [hx] at hw; exact hw
  simp only [DataW.weights, ht] at hw2
  have hlen : (len + (m - len)) * P.bytesOf e ≤ reachBytes := by
   have := hw2 _ (List.mem_cons_self)
   simpa using this
  have each : ∀ i, i < len → ∃ (y : α) (c : List Value), d.K W y c ∧ wf y ∧ W.cells? base (a.add (i * P.cellsOf e)) (P.cellsOf e) = some c := by
   intro i hil
   obtain ⟨c, hc1, ht1⟩ := hi i (by omega)
   obtain ⟨y, hK, hwf⟩ := he.out ht1 (fun n hn => hw2 n (List.mem_cons_of_mem _ (List.mem_append.2 (.inl (weightsAll_mem (List.mem_map.2 ⟨i, by simpa using hil, rfl⟩) hn)))))
   exact ⟨y, c, hK, hwf, hc1⟩
  let f : Fin len → α := fun i => (each i.1 i.2).choose
  have hf : ∀ i : Fin len, ∃ c : List Value, d.K W (f i) c ∧ wf (f i) ∧ W.cells? base (a.add (i.1 * P.cellsOf e)) (P.cellsOf e) = some c := fun i => (each i.1 i.2).choose_spec
  have LG : (List.ofFn f).length = len := by simp
  refine ⟨List.ofFn f, ⟨some a, cap, by rw [LG], by rw [LG]; exact hl, rfl, by rw [LG]; simp only [maxLen] at hm; omega, fun _ => ⟨a, rfl, fun j p hp => ?_⟩⟩, ?_, ?_⟩
  ·obtain ⟨hj, hp2⟩ := List.getElem?_eq_some_iff.1 hp
   rw [LG] at hj
   simp only [List.getElem_ofFn] at hp2
   subst hp2
   obtain ⟨c, hK, _, hcs⟩ := hf ⟨j, hj⟩
   obtain ⟨_, hcl, hat⟩ := World.cells?_some hcs
   refine ⟨c, by rw [hcl, hc], hK, fun i u hu => ?_⟩
   have hic : i < P.cellsOf e := by rw [← hcl]; exact (List.getElem?_eq_some_iff.1 hu).1
   have := hat i hic
   rw [hu, hc] at this
   rw [← Go.Deep.add_add]
   exact this
  ·rw [LG]
   have : len * B ≤ (len + (m - len)) * P.bytesOf e := by rw [hB]; exact Nat.mul_le_mul_right _ (by omega)
   exact Nat.le_trans this (Nat.le_trans hlen (by decide))
  ·intro y hy
   obtain ⟨i, rfl⟩ := List.mem_ofFn.1 hy
   exact (hf i).choose_spec.2.1
theorem amV {α β : Type} {t : TypeId} {d : Kd α} {wf : α → Prop} (f : β → α) (g : α → β) (hfg : ∀ a, f (g a) = a) (h : Opn P t d wf) : Opn P t (Kd.Py d f) (fun y => wf (f y)) := by
 refine ⟨?_⟩
 intro H enc W base spare held fuel cs x hx hw
 obtain ⟨a, hK, hwf⟩ := h.out hx hw
 exact ⟨g a, by show d.K W (f (g a)) cs; rw [hfg]; exact hK, by show wf (f (g a)); rw [hfg]; exact hwf⟩
structure NJ (P : Program) {α : Type} (fs : List Field) (off : Nat) (d : Kd α) (wf : α → Prop) : Prop where
 out : ∀ {H : Type} {enc : TypeId × Value → H} {W : World} {base : Nat} {spare : Nat → Bool} {held : Bool} {fuel : Nat} {cs : List Value} {xs : List (DataW H × List MemPlace)},
  cs.length = off + d.sz → xs.length = fs.length → (∀ (i : Nat) (f : Field), fs[i]? = some f → DataW.trod enc P W base spare held fuel f.type ((cs.drop f.offset).take (P.cellsOf f.type)) = xs[i]?) →
  (∀ n ∈ DataW.weightsEach P (fs.map (·.type)) (xs.map (·.1)), n ≤ reachBytes) → ∃ a, d.K W a (cs.drop off) ∧ wf a
theorem PY {α : Type} {f : Field} {off : Nat} {d : Kd α} {wf : α → Prop} (ho : f.offset = off) (hc : P.cellsOf f.type = d.sz) (h : Opn P f.type d wf) : NJ P [f] off d wf := by
 refine ⟨?_⟩
 intro H enc W base spare held fuel cs xs hl hx hf hw
 match xs, hx with
 | [y], _ =>
  have h0 := hf 0 f rfl
  rw [ho, hc, List.take_of_length_le (by simp; omega)] at h0
  exact h.out h0 (fun n hn => hw n (by simp [DataW.weightsEach, hn]))
theorem BG {α β : Type} {f : Field} {fs : List Field} {off off' : Nat} {d : Kd α} {d' : Kd β} {wf : α → Prop} {wf' : β → Prop} (ho : f.offset = off) (hc : P.cellsOf f.type = d.sz) (ho' : off' = off + d.sz) (h : Opn P f.type d wf) (h' : NJ P fs off' d' wf') :
  NJ P (f :: fs) off (Kd.pair d d') (fun p => wf p.1 ∧ wf' p.2) := by
 refine ⟨?_⟩
 intro H enc W base spare held fuel cs xs hl hx hf hw
 match xs, hx with
 | y :: ys, hx =>
  have hl2 : cs.length = off + (d.sz + d'.sz) := hl
  have h0 := hf 0 f rfl
  rw [ho, hc] at h0
  obtain ⟨a, hK, hwf⟩ := h.out h0 (fun n hn => hw n (by simp [DataW.weightsEach, hn]))
  obtain ⟨b, hK', hwf'⟩ := h'.out (cs := cs) (xs := ys) (by omega) (by simpa using hx) (fun i g hg => hf (i + 1) g hg) (fun n hn => hw n (by simp [DataW.weightsEach, hn]))
  refine ⟨(a, b), ⟨_, _, ?_, hK, hK'⟩, hwf, hwf'⟩
  rw [ho', ← List.drop_drop, List.take_append_drop]
theorem PZ {α : Type} {t : TypeId} {fs : Array Field} {d : Kd α} {wf : α → Prop} (ht : P.underlying t = some (.struct fs)) (hc : P.cellsOf t = d.sz) (h : NJ P fs.toList 0 d wf) : Opn P t d wf := by
 refine ⟨?_⟩
 intro H enc W base spare held fuel cs x hx hw
 obtain ⟨xs, n, rfl, rfl, hl, hlen, hf⟩ := DataW.trod_struct ht hx
 have := h.out (cs := cs) (xs := xs) (by rw [hl, hc]; omega) (by simpa using hlen) (fun i f hf' => hf i f (by simpa using hf')) (fun n hn => hw n (by simp only [DataW.weights, ht]; exact hn))
 simpa using this
theorem V6 {α H : Type} {enc : TypeId × Value → H} {W : World} {base : Nat} {spare : Nat → Bool} {held : Bool} {t : TypeId} {d : Kd α} {wf : α → Prop} (h : Opn P t d wf) {v : Value} {x : DataW H} {ps : List MemPlace} {ts : List TypeId} {ds : List (DataW H)} {j : Nat}
  (hsz : (DataW.weightsEach P ts ds).all (· ≤ reachBytes) = true) (ht : ts[j]? = some t) (hd : ds[j]? = some x) (hv : DataW.Trod enc P W base spare held t v x ps) : ∃ a, d.K W a v.cells.toList ∧ wf a := by
 obtain ⟨fuel, hf⟩ := hv
 refine h.out hf (fun n hn => ?_)
 have := List.all_eq_true.1 hsz _ (DataW.weights_mem_each ht hd n hn)
 simpa using this
theorem RD {t : TypeId} {fs : Array Field} {W : World} {r : Reach} {b : Nat} {v : Value} (ht : P.underlying t = some (.struct fs)) (hv : Value.okWide P W r b t v) : v = .agg v.cells := by
 obtain ⟨cs, rfl, _⟩ := okWide_struct ht hv
 rfl
end
end Go.Proofs.YthejdhjpbpamoaaGreatDoor.Opn
