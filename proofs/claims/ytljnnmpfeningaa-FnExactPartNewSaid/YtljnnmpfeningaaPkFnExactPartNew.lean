/- What the printed texts of this law say often, told once: arrays of Bools, and lemmas whose argument a tactic fills in. Conditions: none. -/
import Derived.Test.YtljnnmpfeningaaProg
import Derived.Below
import Derived.Deep.Draws
import Derived.Deep.AppendLies
import Derived.Maps.AppendAt
import Derived.OwnWalk
import Derived.Laws.BytesArg
import Derived.Laws.MakeOwn
import Derived.Laws.OwnMore
import Derived.Deep.OwnRows
import Derived.Tactics
import Derived.Lib.ConvBytes
import Derived.Laws.Slices
import Derived.WalkKit
import Derived.KernelRfl
import Derived.RowKit3
import Derived.Deep.LoopGhost
import Derived.Deep.QuietTactic
import Derived.BigQuiet
import Derived.WideLaws
import Derived.Deep.DeepCutAuto
import Derived.Deep.CutBlock
import Derived.Deep.RegionHeld3
import Derived.Laws.Rows
import Derived.Lib.AppendStr
import Derived.ArgAppend
import Derived.Laws.IdiomCopy
import Derived.OrdersHeld
import Derived.Laws.BitsLemmas
import Derived.RowKit
import Derived.Lib.SliceRun
import Derived.Test.YtljnnmpfeningaaWWords
import Derived.Test.YtljnnmpfeningaaWLast
import Derived.Test.YtljnnmpfeningaaWTab
import Derived.Test.YtljnnmpfeningaaWFour
import Derived.Test.YtljnnmpfeningaaWQPut
import Derived.Test.YtljnnmpfeningaaWApart
import Derived.Test.YtljnnmpfeningaaWArr
import Derived.Test.YtljnnmpfeningaaWZeros
import Derived.Test.YtljnnmpfeningaaWFoot
import Derived.Test.YtljnnmpfeningaaWKept
import Derived.Test.YtljnnmpfeningaaWShare
import Derived.Test.YtljnnmpfeningaaWN
import Derived.Test.YtljnnmpfeningaaWFootNe
import Derived.Test.YtljnnmpfeningaaWAt
import Derived.Test.YtljnnmpfeningaaWEqStruct
import Derived.Test.YtljnnmpfeningaaWRepsOne
import Derived.Test.YtljnnmpfeningaaWInv
import Derived.Test.YtljnnmpfeningaaWInvWords
import Derived.Test.YtljnnmpfeningaaWGuard
import Derived.Test.YtljnnmpfeningaaWNEv
import Derived.Test.YtljnnmpfeningaaWMore
namespace Go.Proofs.Ytljnnmpfeningaa.PFnExactPartNew
open Go.RowKit Go.Proofs.YtljnnmpfeningaaW.PrintWords Go.Proofs.YtljnnmpfeningaaW.PrintLast Go.Proofs.YtljnnmpfeningaaW.PrintMore
set_option linter.unusedVariables false

abbrev bq_0 : Array Bool := #[true, true, true, true, true, true, true, true, false]
abbrev bq_1 : Array Bool := #[false, false, false, false, false, false, false, false]
abbrev bq_2 : Array Bool := #[true, false, false, false, false, false, false, false]
abbrev bq_3 : Array Bool := #[true, true, false, false, false, false, false, false]
abbrev bq_4 : Array Bool := #[true, true, true, false, false, false, false, false]
abbrev bq_5 : Array Bool := #[true, true, true, true, false, false, false, false]
abbrev bq_6 : Array Bool := #[true, true, true, true, false, true, false, false]
abbrev bq_7 : Array Bool := #[true, true, true, true, true, true, false, false]
abbrev bq_8 : Array Bool := #[true, true, true, true, true, true, true, false]
abbrev bq_9 : Array Bool := #[true, true, true, true, true, true, true, true]
abbrev bq_10 : Array Bool := #[false, false, false, false, false, false, false, false, false, false]
abbrev bq_11 : Array Bool := #[true, false, false, false, false, false, false, false, false, false]
abbrev bq_12 : Array Bool := #[true, true, false, false, false, false, false, false, false, false]
abbrev bq_13 : Array Bool := #[true, true, true, false, false, false, false, false, false, false]
abbrev bq_14 : Array Bool := #[true, true, true, false, true, false, false, false, false, false]
abbrev bq_15 : Array Bool := #[true, true, true, false, true, true, false, false, false, false]
abbrev bq_16 : Array Bool := #[true, true, true, false, true, true, true, false, false, false]
abbrev bq_17 : Array Bool := #[true, true, true, true, true, true, true, false, false, false]
abbrev bq_18 : Array Bool := #[true, true, true, true, true, true, true, true, false, false]
abbrev bq_19 : Array Bool := #[true, true, true, true, true, true, true, true, true, false]
abbrev bq_20 : Array Bool := #[true, true, true, true, true, true, true, true, true, true]
abbrev bq_21 : Array Bool := #[true, true, true, true, true, true, true, false, false]
abbrev bq_22 : Array Bool := #[true, true, true, true, true, false, false, true, false]
abbrev bq_23 : Array Bool := #[true, true, false, true, true, true, false, true, false]
abbrev bq_24 : Array Bool := #[true, true, true, true, true, false, false, false, false]
abbrev bq_25 : Array Bool := #[true, true, false, true, true, true, false, false, false]
abbrev bq_26 : Array Bool := #[true, true, false, true, true, false, false, true, false]
abbrev bq_27 : Array Bool := #[true, true, true, true, true, true, false, false, false]
abbrev bq_28 : Array Bool := #[true, true, true, true, true, true, false, true, false]
abbrev bq_29 : Array Bool := #[false, false, false, false, false, false, false, false, false]
abbrev bq_30 : Array Bool := #[true, false, false, false, false, false, false, false, false]
abbrev bq_31 : Array Bool := #[true, false, false, true, false, false, false, false, false]
abbrev bq_32 : Array Bool := #[true, true, false, true, false, false, false, false, false]
abbrev bq_33 : Array Bool := #[true, true, false, true, true, false, false, false, false]
abbrev bq_34 : Array Bool := #[true, true, true, true, true, true, true, true, true]
section
variable {P : Program} {ops : Array Oper} {Q : Exit → Act → World → Prop} {md : Region.Mode} {S : World → Prop} {ds : List Nat}
theorem yq_ {i : Nat} {N : Option Tmp} {oi : Oper} {v : Value} {fuel : Nat} {l : Array Bool} {a : Act} {w : World} (l' : Array Bool) (hc : anyB md ops l l' i = true) {a' : Act}
 (h : wpAnyLast P md ops Q S ds fuel l' a' w) (hi : ops[i]? = some oi := by rfl) (hN : oi.dst = N := by rfl) (hQ : ∀ c a w, Q (.panic c) (a.put oi.dst v) w → Q (.panic c) a w := by exact fun _ _ _ h => h)
 (h1 : Region.wanted oi (yielded ops a.tmps) = true := by rfl) (h2 : ∀ w', (execOp a.eval oi).run P w' = .ok (.value v) w' := by (intro w'; go_simp; with_reducible rfl))
 (ha : a.put N v = a' := by (simp only [Act.put, List.setIfInBounds_toArray, List.set_cons_zero, List.set_cons_succ, i64_w, i32_w]; rfl)) : wpAnyLast P md ops Q S ds (fuel + 1) l a w :=
 pure_ l' hi hN hc hQ (Or.inl ⟨h1, h2⟩) ha h
theorem uq_ {i : Nat} {N : Option Tmp} {oi : Oper} {fuel : Nat} {l : Array Bool} {a : Act} {w : World} (l' : Array Bool) (hc : anyB md ops l l' i = true) {a' : Act}
 (h : wpAnyLast P md ops Q S ds fuel l' a' w) (hi : ops[i]? = some oi := by rfl) (hN : oi.dst = N := by rfl) (hQ : ∀ c a w, Q (.panic c) (a.put oi.dst undef) w → Q (.panic c) a w := by exact fun _ _ _ h => h)
 (h1 : Region.wanted oi (yielded ops a.tmps) = false := by rfl)
 (ha : a.put N undef = a' := by (simp only [Act.put, List.setIfInBounds_toArray, List.set_cons_zero, List.set_cons_succ, i64_w, i32_w]; rfl)) : wpAnyLast P md ops Q S ds (fuel + 1) l a w :=
 pure_ (v := undef) l' hi hN hc hQ (Or.inr ⟨h1, rfl⟩) ha h
end

section
variable {P : Program} {ops : Array Oper} {Q : Exit → Act → World → Prop} {md : Region.Mode} {S : World → Prop} {ds : List Nat}
theorem nm_ (N : Option Tmp) {fuel : Nat} {l : Array Bool} {a0 a' : Act} {v : Value} {w : World} (h : wpAnyLast P md ops Q S ds fuel l a' w)
 (ha : a0.put N v = a' := by (simp only [Act.put, List.setIfInBounds_toArray, List.set_cons_zero, List.set_cons_succ, i64_w, i32_w]; rfl)) : wpAnyLast P md ops Q S ds fuel l (a0.put N v) w := norm_ ha h
theorem tk_ {i : Nat} {N : Option Tmp} {oi : Oper} {v : Value} {fuel : Nat} {l : Array Bool} {a : Act} {w : World} (l' : Array Bool) (hc : takeB md ops ds l l' i = true) (hS : S w) {a' : Act}
 (h : wpAnyLast P md ops Q S ds fuel l' a' w) (hi : ops[i]? = some oi := by rfl) (hN : oi.dst = N := by rfl) (hQ : ∀ c a w, Q (.panic c) (a.put oi.dst v) w → Q (.panic c) a w := by exact fun _ _ _ h => h)
 (h1 : Region.wanted oi (yielded ops a.tmps) = true := by rfl) (h2 : ∀ w', S w' → (execOp a.eval oi).run P w' = .ok (.value v) w' := by (intro w' hS_; (repeat (obtain ⟨_, hS_⟩ := hS_)); go_simp; with_reducible rfl))
 (ha : a.put N v = a' := by (simp only [Act.put, List.setIfInBounds_toArray, List.set_cons_zero, List.set_cons_succ, i64_w, i32_w]; rfl)) : wpAnyLast P md ops Q S ds (fuel + 1) l a w :=
 take_ l' hi hN hc hQ (Or.inl ⟨h1, h2⟩) hS ha h
end

theorem a_ {p : Prop} (h : p) : Aside0 p := ⟨h⟩
theorem p_ {p q : Prop} (h : p) (k : q) : Aside0 p ∧ q := ⟨⟨h⟩, k⟩
theorem q_ {p q : Prop} (h : p) (k : q) : p ∧ q := ⟨h, k⟩
theorem bk2_ {w : World} {g : Nat} {t : TypeId} {v0 v1 : Value} (h : w.heap[g]? = some (.cells #[v0, v1] t (0, 0))) : w.cell? ⟨g, 0, none⟩ = some v0 ∧ w.cell? ⟨g, 1, none⟩ = some v1 := ⟨(blk_cell h 0).trans rfl, (blk_cell h 1).trans rfl⟩
theorem bc2_ {w : World} {g : Nat} {t : TypeId} {v0 v1 : Value} {R : Prop} (h : w.heap[g]? = some (.cells #[v0, v1] t (0, 0))) (r : R) : w.cell? ⟨g, 0, none⟩ = some v0 ∧ w.cell? ⟨g, 1, none⟩ = some v1 ∧ R := ⟨(blk_cell h 0).trans rfl, (blk_cell h 1).trans rfl, r⟩
theorem bk3_ {w : World} {g : Nat} {t : TypeId} {v0 v1 v2 : Value} (h : w.heap[g]? = some (.cells #[v0, v1, v2] t (0, 0))) : w.cell? ⟨g, 0, none⟩ = some v0 ∧ w.cell? ⟨g, 1, none⟩ = some v1 ∧ w.cell? ⟨g, 2, none⟩ = some v2 := ⟨(blk_cell h 0).trans rfl, (blk_cell h 1).trans rfl, (blk_cell h 2).trans rfl⟩
theorem bc3_ {w : World} {g : Nat} {t : TypeId} {v0 v1 v2 : Value} {R : Prop} (h : w.heap[g]? = some (.cells #[v0, v1, v2] t (0, 0))) (r : R) : w.cell? ⟨g, 0, none⟩ = some v0 ∧ w.cell? ⟨g, 1, none⟩ = some v1 ∧ w.cell? ⟨g, 2, none⟩ = some v2 ∧ R := ⟨(blk_cell h 0).trans rfl, (blk_cell h 1).trans rfl, (blk_cell h 2).trans rfl, r⟩
theorem bk4_ {w : World} {g : Nat} {t : TypeId} {v0 v1 v2 v3 : Value} (h : w.heap[g]? = some (.cells #[v0, v1, v2, v3] t (0, 0))) : w.cell? ⟨g, 0, none⟩ = some v0 ∧ w.cell? ⟨g, 1, none⟩ = some v1 ∧ w.cell? ⟨g, 2, none⟩ = some v2 ∧ w.cell? ⟨g, 3, none⟩ = some v3 := ⟨(blk_cell h 0).trans rfl, (blk_cell h 1).trans rfl, (blk_cell h 2).trans rfl, (blk_cell h 3).trans rfl⟩
theorem bc4_ {w : World} {g : Nat} {t : TypeId} {v0 v1 v2 v3 : Value} {R : Prop} (h : w.heap[g]? = some (.cells #[v0, v1, v2, v3] t (0, 0))) (r : R) : w.cell? ⟨g, 0, none⟩ = some v0 ∧ w.cell? ⟨g, 1, none⟩ = some v1 ∧ w.cell? ⟨g, 2, none⟩ = some v2 ∧ w.cell? ⟨g, 3, none⟩ = some v3 ∧ R := ⟨(blk_cell h 0).trans rfl, (blk_cell h 1).trans rfl, (blk_cell h 2).trans rfl, (blk_cell h 3).trans rfl, r⟩
theorem bk6_ {w : World} {g : Nat} {t : TypeId} {v0 v1 v2 v3 v4 v5 : Value} (h : w.heap[g]? = some (.cells #[v0, v1, v2, v3, v4, v5] t (0, 0))) : w.cell? ⟨g, 0, none⟩ = some v0 ∧ w.cell? ⟨g, 1, none⟩ = some v1 ∧ w.cell? ⟨g, 2, none⟩ = some v2 ∧ w.cell? ⟨g, 3, none⟩ = some v3 ∧ w.cell? ⟨g, 4, none⟩ = some v4 ∧ w.cell? ⟨g, 5, none⟩ = some v5 := ⟨(blk_cell h 0).trans rfl, (blk_cell h 1).trans rfl, (blk_cell h 2).trans rfl, (blk_cell h 3).trans rfl, (blk_cell h 4).trans rfl, (blk_cell h 5).trans rfl⟩
theorem bc6_ {w : World} {g : Nat} {t : TypeId} {v0 v1 v2 v3 v4 v5 : Value} {R : Prop} (h : w.heap[g]? = some (.cells #[v0, v1, v2, v3, v4, v5] t (0, 0))) (r : R) : w.cell? ⟨g, 0, none⟩ = some v0 ∧ w.cell? ⟨g, 1, none⟩ = some v1 ∧ w.cell? ⟨g, 2, none⟩ = some v2 ∧ w.cell? ⟨g, 3, none⟩ = some v3 ∧ w.cell? ⟨g, 4, none⟩ = some v4 ∧ w.cell? ⟨g, 5, none⟩ = some v5 ∧ R := ⟨(blk_cell h 0).trans rfl, (blk_cell h 1).trans rfl, (blk_cell h 2).trans rfl, (blk_cell h 3).trans rfl, (blk_cell h 4).trans rfl, (blk_cell h 5).trans rfl, r⟩

theorem bc_ {w : World} {g : Nat} {t : TypeId} {cs : Array Value} (h : w.heap[g]? = some (.cells cs t (0, 0))) (i : Nat) {v : Value} (e : cs[i]? = some v := by rfl) : w.cell? ⟨g, i, none⟩ = some v := (blk_cell h i).trans e
theorem hx_ {w w' : World} {p : Addr} {v : Value} (hB : Below w.heap.size w w') (h : w.cell? p = some v) : w'.cell? p = some v := (hB.cell (World.block_lt_of_cell? w _ h)).trans h
theorem ltne_ {g g' : Nat} {W : World} (hg : g' = W.heap.size) (h : g < W.heap.size) : g ≠ g' := by rw [hg]; exact Nat.ne_of_lt h
theorem gtne_ {g g' : Nat} {W : World} (hg : g' = W.heap.size) (h : g < W.heap.size) : g' ≠ g := by rw [hg]; exact Nat.ne_of_gt h
theorem gb_ {w W : World} {g : Nat} (hg : g = W.heap.size) (h : Below w.heap.size w W) : w.heap.size ≤ g := by rw [hg]; exact below_size h

section
variable {P : Program} {ops : Array Oper} {Q : Exit → Act → World → Prop} {md : Region.Mode} {S : World → Prop} {ds : List Nat} {T : Bool × List (List Nat × List Nat)}
theorem yr_ (i n : Nat) {oi : Oper} {v : Value} {fuel : Nat} {l : Array Bool} {a : Act} {w : World} (l' : Array Bool) (HT : Aside0 (rtab md ops = T)) {a' : Act}
 (h : wpAnyLast P md ops Q S ds fuel l' a' w) (hc : anyT T l.toList l'.toList i = true := by kernel_rfl) (hi : ops[i]? = some oi := by rfl) (hN : oi.dst = some n := by rfl) (hQ : ∀ c a w, Q (.panic c) (a.put oi.dst v) w → Q (.panic c) a w := by exact fun _ _ _ h => h)
 (h1 : Region.wanted oi (yielded ops a.tmps) = true := by rfl) (h2 : ∀ w', (execOp a.eval oi).run P w' = .ok (.value v) w' := by (intro w'; go_simp; with_reducible rfl))
 (ha : a.put (some n) v = a' := by (simp only [Act.put, List.setIfInBounds_toArray, List.set_cons_zero, List.set_cons_succ, i64_w, i32_w]; rfl)) : wpAnyLast P md ops Q S ds (fuel + 1) l a w :=
 pure_ l' hi hN (any_of HT.out hc) hQ (Or.inl ⟨h1, h2⟩) ha h
theorem ur_ (i n : Nat) {oi : Oper} {fuel : Nat} {l : Array Bool} {a : Act} {w : World} (l' : Array Bool) (HT : Aside0 (rtab md ops = T)) {a' : Act}
 (h : wpAnyLast P md ops Q S ds fuel l' a' w) (hc : anyT T l.toList l'.toList i = true := by kernel_rfl) (hi : ops[i]? = some oi := by rfl) (hN : oi.dst = some n := by rfl) (hQ : ∀ c a w, Q (.panic c) (a.put oi.dst undef) w → Q (.panic c) a w := by exact fun _ _ _ h => h)
 (h1 : Region.wanted oi (yielded ops a.tmps) = false := by rfl)
 (ha : a.put (some n) undef = a' := by (simp only [Act.put, List.setIfInBounds_toArray, List.set_cons_zero, List.set_cons_succ, i64_w, i32_w]; rfl)) : wpAnyLast P md ops Q S ds (fuel + 1) l a w :=
 pure_ (v := undef) l' hi hN (any_of HT.out hc) hQ (Or.inr ⟨h1, rfl⟩) ha h
end

section
variable {P : Program} {ops : Array Oper} {Q : Exit → Act → World → Prop} {md : Region.Mode} {S : World → Prop} {ds : List Nat} {T : Bool × List (List Nat × List Nat)} {B : List Nat}
theorem tr_ (i n : Nat) {oi : Oper} {v : Value} {fuel : Nat} {l : Array Bool} {a : Act} {w : World} (l' : Array Bool) (HT : Aside0 (rtab md ops = T)) (HW : Aside0 (waitsOk T.2 B = true)) (hS : S w) {a' : Act}
 (h : wpAnyLast P md ops Q S ds fuel l' a' w) (hc : takeW T B ds l.toList l'.toList i = true := by kernel_rfl) (hi : ops[i]? = some oi := by rfl) (hN : oi.dst = some n := by rfl) (hQ : ∀ c a w, Q (.panic c) (a.put oi.dst v) w → Q (.panic c) a w := by exact fun _ _ _ h => h)
 (h1 : Region.wanted oi (yielded ops a.tmps) = true := by rfl) (h2 : ∀ w', S w' → (execOp a.eval oi).run P w' = .ok (.value v) w' := by (intro w' hS_; (repeat (obtain ⟨_, hS_⟩ := hS_)); go_simp; with_reducible rfl))
 (ha : a.put (some n) v = a' := by (simp only [Act.put, List.setIfInBounds_toArray, List.set_cons_zero, List.set_cons_succ, i64_w, i32_w]; rfl)) : wpAnyLast P md ops Q S ds (fuel + 1) l a w :=
 take_ l' hi hN (take_ofW HT.out HW.out hc) hQ (Or.inl ⟨h1, h2⟩) hS ha h
end
theorem an2_ {p0 p1 : Prop} (h0 : Aside0 p0) (h1 : Aside0 p1) : p0 ∧ p1 := ⟨h0.out, h1.out⟩
theorem an4_ {p0 p1 p2 p3 : Prop} (h0 : Aside0 p0) (h1 : Aside0 p1) (h2 : Aside0 p2) (h3 : Aside0 p3) : p0 ∧ p1 ∧ p2 ∧ p3 := ⟨h0.out, h1.out, h2.out, h3.out⟩
theorem an6_ {p0 p1 p2 p3 p4 p5 : Prop} (h0 : Aside0 p0) (h1 : Aside0 p1) (h2 : Aside0 p2) (h3 : Aside0 p3) (h4 : Aside0 p4) (h5 : Aside0 p5) : p0 ∧ p1 ∧ p2 ∧ p3 ∧ p4 ∧ p5 := ⟨h0.out, h1.out, h2.out, h3.out, h4.out, h5.out⟩
theorem cf_ {W : World} {p a : Addr} {u : Value} {v : Option Value} (n : Aside0 (a.block ≠ p.block)) (h : W.cell? a = v) : (W.setCell p u).cell? a = v := (cell_far n.out u).trans h
theorem rR_ {α : Type} {d : Kd α} {e : TypeId} {w : World} {base : Nat} {ok : Nat → Prop} {v : Value} {xs : List α} (h : Kd.R d e w base ok v xs) {p : Addr} {u : Value} (hok : ∀ k, ok k → k ≠ p.block := by exact fun _ hk => hk.2) : Kd.R d e (w.setCell p u) base ok v xs := Kd.R_far h hok u
theorem raR_ {p q : Prop} (H : Aside0 q) (h : q → p := by (intro h_; (with_reducible repeat (first | apply Kd.R_alloc | apply Kd.R_drewN | apply Kd.R_drew)); exact h_)) : p := h H.out
theorem rS_ {α : Type} {d : Kd α} {e : TypeId} {w : World} {base : Nat} {ok : Nat → Prop} {v : Value} {xs : List α} (h : Kd.S d e w base ok v xs) {p : Addr} {u : Value} (hok : ∀ k, ok k → k ≠ p.block := by exact fun _ hk => hk.2) : Kd.S d e (w.setCell p u) base ok v xs := Kd.S_far h hok u
theorem raS_ {p q : Prop} (H : Aside0 q) (h : q → p := by (intro h_; (with_reducible repeat (first | apply Kd.S_alloc | apply Kd.S_drewN | apply Kd.S_drew)); exact h_)) : p := h H.out
theorem th_ {p : Prop} (h : p := by (repeat (first | (with_reducible first | exact HB.out | apply below_alloc | apply pw_below_drewN | apply below_drew1) | (with_reducible refine below_set ?_ (Aside0.out (by assumption))) | exact HB.out))) : p := h
theorem kb_ {p q : Prop} (H : Aside0 q) (h : q → p := by (intro h_; (with_reducible repeat (first | refine blk_drewN ?_ _ | refine blk_drew ?_ | refine blk_alloc ?_ _)); exact h_)) : p := h H.out
theorem tb_ {p : Prop} (h : p := by (repeat' (first | (with_reducible first | refine blk_drewN ?_ _ | refine blk_drew ?_ | refine blk_alloc ?_ _) | (with_reducible exact Aside0.out (by assumption)) | (refine blk_far ?_ (Aside0.out (by with_reducible assumption)) _) | (refine blk_put (cs := ?_) ?_ _ _ ?_) | rfl))) : p := h
theorem be_ {P : Program} {ops : Array Oper} {Q : Exit → Act → World → Prop} {rest : List Oper} {o : Oper} {a : Act} {W : World} (N : Tmp) {cs : Array Value} (t : TypeId)
 (h : ∀ g, g = W.heap.size → ∀ w1, w1.heap[g]? = some (.cells cs t (0, 0)) → Below W.heap.size W w1 → wpList P ops Q rest (a.put o.dst (.pointer (some ⟨g, 0, none⟩))) w1) (hgd : o.guard = none := by rfl) (hd : o.dst = some N := by rfl)
 (hrun : (execOp a.eval o).run P W = .ok (.value (.pointer (some ⟨W.heap.size, 0, none⟩))) (W.alloc (.cells cs t (0, 0))) := by first | (go_simp; done) | (go_simp; rfl)) : wpList P ops Q (o :: rest) a W := box_event hgd hd hrun h
theorem bw1_ {w W W' : World} {g0 : Nat} {o0 : Obj} (h0 : W.heap[g0]? = some o0) (hB : Below w.heap.size w W) (hb : Below W.heap.size W W') : Aside0 (W'.heap[g0]? = some o0) ∧ Aside0 (Below w.heap.size w W') := ⟨⟨blk_below h0 hb⟩, ⟨below_step hB hb⟩⟩
theorem bw2_ {w W W' : World} {g0 g1 : Nat} {o0 o1 : Obj} (h0 : W.heap[g0]? = some o0) (h1 : W.heap[g1]? = some o1) (hB : Below w.heap.size w W) (hb : Below W.heap.size W W') : Aside0 (W'.heap[g0]? = some o0) ∧ Aside0 (W'.heap[g1]? = some o1) ∧ Aside0 (Below w.heap.size w W') := ⟨⟨blk_below h0 hb⟩, ⟨blk_below h1 hb⟩, ⟨below_step hB hb⟩⟩
theorem bw3_ {w W W' : World} {g0 g1 g2 : Nat} {o0 o1 o2 : Obj} (h0 : W.heap[g0]? = some o0) (h1 : W.heap[g1]? = some o1) (h2 : W.heap[g2]? = some o2) (hB : Below w.heap.size w W) (hb : Below W.heap.size W W') : Aside0 (W'.heap[g0]? = some o0) ∧ Aside0 (W'.heap[g1]? = some o1) ∧ Aside0 (W'.heap[g2]? = some o2) ∧ Aside0 (Below w.heap.size w W') := ⟨⟨blk_below h0 hb⟩, ⟨blk_below h1 hb⟩, ⟨blk_below h2 hb⟩, ⟨below_step hB hb⟩⟩
theorem bw4_ {w W W' : World} {g0 g1 g2 g3 : Nat} {o0 o1 o2 o3 : Obj} (h0 : W.heap[g0]? = some o0) (h1 : W.heap[g1]? = some o1) (h2 : W.heap[g2]? = some o2) (h3 : W.heap[g3]? = some o3) (hB : Below w.heap.size w W) (hb : Below W.heap.size W W') : Aside0 (W'.heap[g0]? = some o0) ∧ Aside0 (W'.heap[g1]? = some o1) ∧ Aside0 (W'.heap[g2]? = some o2) ∧ Aside0 (W'.heap[g3]? = some o3) ∧ Aside0 (Below w.heap.size w W') := ⟨⟨blk_below h0 hb⟩, ⟨blk_below h1 hb⟩, ⟨blk_below h2 hb⟩, ⟨blk_below h3 hb⟩, ⟨below_step hB hb⟩⟩
theorem bx0_ {w W W' : World} {g' : Nat} {o' : Obj}  (hB : Below w.heap.size w W) (hb : Below W.heap.size W W') (hbox : W'.heap[g']? = some o') (hg : g' = W.heap.size) : Aside0 (Below w.heap.size w W') ∧ Aside0 (W'.heap[g']? = some o') ∧ Aside0 (w.heap.size ≤ g') ∧ Aside0 (w.heap.size ≤ g') := ⟨⟨below_step hB hb⟩, ⟨hbox⟩, ⟨gb_ hg hB⟩, ⟨gb_ hg hB⟩⟩
theorem bx1_ {w W W' : World} {g' : Nat} {o' : Obj} {g0 : Nat} {o0 : Obj} (h0 : W.heap[g0]? = some o0) (hB : Below w.heap.size w W) (hb : Below W.heap.size W W') (hbox : W'.heap[g']? = some o') (hg : g' = W.heap.size) : Aside0 (W'.heap[g0]? = some o0) ∧ Aside0 (Below w.heap.size w W') ∧ Aside0 (W'.heap[g']? = some o') ∧ Aside0 (w.heap.size ≤ g') ∧ Aside0 (w.heap.size ≤ g') ∧ Aside0 (g0 ≠ g') ∧ Aside0 (g' ≠ g0) := ⟨⟨blk_below h0 hb⟩, ⟨below_step hB hb⟩, ⟨hbox⟩, ⟨gb_ hg hB⟩, ⟨gb_ hg hB⟩, ⟨ltne_ hg (blk_lt h0)⟩, ⟨gtne_ hg (blk_lt h0)⟩⟩
theorem bx2_ {w W W' : World} {g' : Nat} {o' : Obj} {g0 g1 : Nat} {o0 o1 : Obj} (h0 : W.heap[g0]? = some o0) (h1 : W.heap[g1]? = some o1) (hB : Below w.heap.size w W) (hb : Below W.heap.size W W') (hbox : W'.heap[g']? = some o') (hg : g' = W.heap.size) : Aside0 (W'.heap[g0]? = some o0) ∧ Aside0 (W'.heap[g1]? = some o1) ∧ Aside0 (Below w.heap.size w W') ∧ Aside0 (W'.heap[g']? = some o') ∧ Aside0 (w.heap.size ≤ g') ∧ Aside0 (w.heap.size ≤ g') ∧ Aside0 (g0 ≠ g') ∧ Aside0 (g' ≠ g0) ∧ Aside0 (g1 ≠ g') ∧ Aside0 (g' ≠ g1) := ⟨⟨blk_below h0 hb⟩, ⟨blk_below h1 hb⟩, ⟨below_step hB hb⟩, ⟨hbox⟩, ⟨gb_ hg hB⟩, ⟨gb_ hg hB⟩, ⟨ltne_ hg (blk_lt h0)⟩, ⟨gtne_ hg (blk_lt h0)⟩, ⟨ltne_ hg (blk_lt h1)⟩, ⟨gtne_ hg (blk_lt h1)⟩⟩
theorem bx3_ {w W W' : World} {g' : Nat} {o' : Obj} {g0 g1 g2 : Nat} {o0 o1 o2 : Obj} (h0 : W.heap[g0]? = some o0) (h1 : W.heap[g1]? = some o1) (h2 : W.heap[g2]? = some o2) (hB : Below w.heap.size w W) (hb : Below W.heap.size W W') (hbox : W'.heap[g']? = some o') (hg : g' = W.heap.size) : Aside0 (W'.heap[g0]? = some o0) ∧ Aside0 (W'.heap[g1]? = some o1) ∧ Aside0 (W'.heap[g2]? = some o2) ∧ Aside0 (Below w.heap.size w W') ∧ Aside0 (W'.heap[g']? = some o') ∧ Aside0 (w.heap.size ≤ g') ∧ Aside0 (w.heap.size ≤ g') ∧ Aside0 (g0 ≠ g') ∧ Aside0 (g' ≠ g0) ∧ Aside0 (g1 ≠ g') ∧ Aside0 (g' ≠ g1) ∧ Aside0 (g2 ≠ g') ∧ Aside0 (g' ≠ g2) := ⟨⟨blk_below h0 hb⟩, ⟨blk_below h1 hb⟩, ⟨blk_below h2 hb⟩, ⟨below_step hB hb⟩, ⟨hbox⟩, ⟨gb_ hg hB⟩, ⟨gb_ hg hB⟩, ⟨ltne_ hg (blk_lt h0)⟩, ⟨gtne_ hg (blk_lt h0)⟩, ⟨ltne_ hg (blk_lt h1)⟩, ⟨gtne_ hg (blk_lt h1)⟩, ⟨ltne_ hg (blk_lt h2)⟩, ⟨gtne_ hg (blk_lt h2)⟩⟩
theorem dw2_ {b : Nat} {w W : World} {g0 g1 : Nat} {o0 o1 : Obj} (h0 : Aside0 (W.heap[g0]? = some o0)) (h1 : Aside0 (W.heap[g1]? = some o1)) (hB : Aside0 (Below b w W)) : Aside0 (W.drew.heap[g0]? = some o0) ∧ Aside0 (W.drew.heap[g1]? = some o1) ∧ Aside0 (Below b w W.drew) := ⟨⟨blk_drew h0.out⟩, ⟨blk_drew h1.out⟩, ⟨below_drew1 hB.out⟩⟩
theorem bf2_ {w : World} {g : Nat} {t : TypeId} {cs : Array Value} (h : w.heap[g]? = some (.cells cs t (0, 0))) : w.frozen? ⟨g, 0, none⟩ = false ∧ w.frozen? ⟨g, 1, none⟩ = false := ⟨blk_frozen h 0, blk_frozen h 1⟩
theorem bf3_ {w : World} {g : Nat} {t : TypeId} {cs : Array Value} (h : w.heap[g]? = some (.cells cs t (0, 0))) : w.frozen? ⟨g, 0, none⟩ = false ∧ w.frozen? ⟨g, 1, none⟩ = false ∧ w.frozen? ⟨g, 2, none⟩ = false := ⟨blk_frozen h 0, blk_frozen h 1, blk_frozen h 2⟩
theorem bf4_ {w : World} {g : Nat} {t : TypeId} {cs : Array Value} (h : w.heap[g]? = some (.cells cs t (0, 0))) : w.frozen? ⟨g, 0, none⟩ = false ∧ w.frozen? ⟨g, 1, none⟩ = false ∧ w.frozen? ⟨g, 2, none⟩ = false ∧ w.frozen? ⟨g, 3, none⟩ = false := ⟨blk_frozen h 0, blk_frozen h 1, blk_frozen h 2, blk_frozen h 3⟩
theorem bf6_ {w : World} {g : Nat} {t : TypeId} {cs : Array Value} (h : w.heap[g]? = some (.cells cs t (0, 0))) : w.frozen? ⟨g, 0, none⟩ = false ∧ w.frozen? ⟨g, 1, none⟩ = false ∧ w.frozen? ⟨g, 2, none⟩ = false ∧ w.frozen? ⟨g, 3, none⟩ = false ∧ w.frozen? ⟨g, 4, none⟩ = false ∧ w.frozen? ⟨g, 5, none⟩ = false := ⟨blk_frozen h 0, blk_frozen h 1, blk_frozen h 2, blk_frozen h 3, blk_frozen h 4, blk_frozen h 5⟩
section
variable {p : Prop}
theorem tq_0 (h : p := by ((try simp only [List.map_toArray, List.map_cons, List.map_nil]); first | done | rfl | (simp only [List.length_drop, List.length_take]; rfl))) : p := h
theorem tq_1 (h : p := by (first | (with_reducible assumption) | assumption)) : p := h
theorem tq_2 (h : p := by (first | rfl | (simp [errW_none, errW_some] <;> rfl) | (simp [*, errW_none, errW_some] <;> rfl))) : p := h
theorem tq_3 (h : p := by (first | (simp only [putAll, Act.put, List.setIfInBounds_toArray, List.set_cons_zero, List.set_cons_succ]; done) | (simp only [putAll, Act.put, List.setIfInBounds_toArray, List.set_cons_zero, List.set_cons_succ]; rfl))) : p := h
theorem tq_4 (h : p := by (repeat (first | (with_reducible first | exact HK.out | apply Kept.alloc | apply Kept.drewN | apply Kept.drew) | exact HK.out))) : p := h
theorem tq_5 (h : p := by ((with_reducible repeat (first | refine blk_drewN ?_ _ | refine blk_drew ?_ | refine blk_alloc ?_ _)); refine blk_far ?_ NB212_224.out _; (with_reducible repeat (first | refine blk_drewN ?_ _ | refine blk_drew ?_ | refine blk_alloc ?_ _)); refine blk_far ?_ NB212_224.out _; (with_reducible repeat (first | refine blk_drewN ?_ _ | refine blk_drew ?_ | refine blk_alloc ?_ _)); refine blk_far ?_ NB212_224.out _; (with_reducible repeat (first | refine blk_drewN ?_ _ | refine blk_drew ?_ | refine blk_alloc ?_ _)); exact BK212.out)) : p := h
theorem tq_6 (h : p := by ((with_reducible repeat (first | refine blk_drewN ?_ _ | refine blk_drew ?_ | refine blk_alloc ?_ _)); refine blk_far ?_ NB200_224.out _; (with_reducible repeat (first | refine blk_drewN ?_ _ | refine blk_drew ?_ | refine blk_alloc ?_ _)); refine blk_far ?_ NB200_224.out _; (with_reducible repeat (first | refine blk_drewN ?_ _ | refine blk_drew ?_ | refine blk_alloc ?_ _)); refine blk_far ?_ NB200_224.out _; (with_reducible repeat (first | refine blk_drewN ?_ _ | refine blk_drew ?_ | refine blk_alloc ?_ _)); exact BK200.out)) : p := h
theorem tq_7 (h : p := by ((with_reducible repeat (first | refine blk_drewN ?_ _ | refine blk_drew ?_ | refine blk_alloc ?_ _)); refine blk_far ?_ NB200_212.out _; (with_reducible repeat (first | refine blk_drewN ?_ _ | refine blk_drew ?_ | refine blk_alloc ?_ _)); refine blk_far ?_ NB200_212.out _; (with_reducible repeat (first | refine blk_drewN ?_ _ | refine blk_drew ?_ | refine blk_alloc ?_ _)); refine blk_far ?_ NB200_212.out _; (with_reducible repeat (first | refine blk_drewN ?_ _ | refine blk_drew ?_ | refine blk_alloc ?_ _)); exact BK200.out)) : p := h
theorem tq_8 (h : p := by ((with_reducible repeat (first | apply Kd.S_alloc | apply Kd.S_drewN | apply Kd.S_drew)); exact (Kd.S_mono (rS_ (rS_ (rS_ (Kd.S_types HO223.out BK224.out (by decide))))) (fun _ h_ => h_.1)))) : p := h
theorem tq_9 (h : p := by ((with_reducible repeat (first | apply Kd.S_alloc | apply Kd.S_drewN | apply Kd.S_drew)); exact (Kd.S_mono (rS_ (rS_ (rS_ (Kd.S_types HO211.out BK224.out (by decide))))) (fun _ h_ => h_.1)))) : p := h
theorem tq_10 (h : p := by ((with_reducible repeat (first | apply Kd.R_alloc | apply Kd.R_drewN | apply Kd.R_drew)); exact (Kd.R_mono (rR_ (rR_ (rR_ (Kd.R_types HO220.out BK224.out (by decide))))) (fun _ h_ => h_.1)))) : p := h
theorem tq_11 (h : p := by ((with_reducible repeat (first | apply Kd.R_alloc | apply Kd.R_drewN | apply Kd.R_drew)); exact (Kd.R_mono (rR_ (rR_ (rR_ (Kd.R_types HO208.out BK224.out (by decide))))) (fun _ h_ => h_.1)))) : p := h
theorem tq_12 (h : p := by ((try simp only [List.map_toArray, List.map_cons, List.map_nil]); first | done | (rw [show t227.length = t218.length from (Kd.R_reads' HO220.out).1.symm, show t228.length = t221.length from (Kd.S_reads' HO223.out).1.symm] <;> rfl) | rfl | (simp only [List.length_drop, List.length_take]; rfl))) : p := h
theorem tq_13 (h : p := by (first | rfl | (simp; done) | (simp [*]; done))) : p := h
theorem tq_14 (h : p := by ((with_reducible repeat (first | refine blk_drewN ?_ _ | refine blk_drew ?_ | refine blk_alloc ?_ _)); refine blk_far ?_ NB224_241.out _; (with_reducible repeat (first | refine blk_drewN ?_ _ | refine blk_drew ?_ | refine blk_alloc ?_ _)); refine blk_far ?_ NB224_241.out _; (with_reducible repeat (first | refine blk_drewN ?_ _ | refine blk_drew ?_ | refine blk_alloc ?_ _)); refine blk_far ?_ NB224_241.out _; (with_reducible repeat (first | refine blk_drewN ?_ _ | refine blk_drew ?_ | refine blk_alloc ?_ _)); exact BK224.out)) : p := h
theorem tq_15 (h : p := by ((with_reducible repeat (first | refine blk_drewN ?_ _ | refine blk_drew ?_ | refine blk_alloc ?_ _)); refine blk_far ?_ NB212_241.out _; (with_reducible repeat (first | refine blk_drewN ?_ _ | refine blk_drew ?_ | refine blk_alloc ?_ _)); refine blk_far ?_ NB212_241.out _; (with_reducible repeat (first | refine blk_drewN ?_ _ | refine blk_drew ?_ | refine blk_alloc ?_ _)); refine blk_far ?_ NB212_241.out _; (with_reducible repeat (first | refine blk_drewN ?_ _ | refine blk_drew ?_ | refine blk_alloc ?_ _)); exact BK212.out)) : p := h
theorem tq_16 (h : p := by ((with_reducible repeat (first | refine blk_drewN ?_ _ | refine blk_drew ?_ | refine blk_alloc ?_ _)); refine blk_far ?_ NB200_241.out _; (with_reducible repeat (first | refine blk_drewN ?_ _ | refine blk_drew ?_ | refine blk_alloc ?_ _)); refine blk_far ?_ NB200_241.out _; (with_reducible repeat (first | refine blk_drewN ?_ _ | refine blk_drew ?_ | refine blk_alloc ?_ _)); refine blk_far ?_ NB200_241.out _; (with_reducible repeat (first | refine blk_drewN ?_ _ | refine blk_drew ?_ | refine blk_alloc ?_ _)); exact BK200.out)) : p := h
theorem tq_17 (h : p := by ((with_reducible repeat (first | apply Kd.S_alloc | apply Kd.S_drewN | apply Kd.S_drew)); exact (Kd.S_mono (rS_ (rS_ (rS_ (Kd.S_types HO240.out BK241.out (by decide))))) (fun _ h_ => h_.1)))) : p := h
theorem tq_18 (h : p := by ((with_reducible repeat (first | apply Kd.S_alloc | apply Kd.S_drewN | apply Kd.S_drew)); exact (Kd.S_mono (rS_ (rS_ (rS_ (Kd.S_types HO211.out BK241.out (by decide))))) (fun _ h_ => h_.1)))) : p := h
theorem tq_19 (h : p := by ((with_reducible repeat (first | apply Kd.R_alloc | apply Kd.R_drewN | apply Kd.R_drew)); exact (Kd.R_mono (rR_ (rR_ (rR_ (Kd.R_types HO237.out BK241.out (by decide))))) (fun _ h_ => h_.1)))) : p := h
theorem tq_20 (h : p := by ((with_reducible repeat (first | apply Kd.R_alloc | apply Kd.R_drewN | apply Kd.R_drew)); exact (Kd.R_mono (rR_ (rR_ (rR_ (Kd.R_types HO208.out BK241.out (by decide))))) (fun _ h_ => h_.1)))) : p := h
theorem tq_21 (h : p := by (repeat (first | exact (Kd.S_reads' HO223.out).2.2 | (with_reducible refine Kd.C_alloc ?_ _) | (with_reducible refine Kd.C_drewN ?_ _) | (with_reducible refine Kd.C_drew ?_)))) : p := h
theorem tq_22 (h : p := by (repeat (first | exact (Kd.R_reads' HO220.out).2.2 | (with_reducible refine Kd.C_alloc ?_ _) | (with_reducible refine Kd.C_drewN ?_ _) | (with_reducible refine Kd.C_drew ?_)))) : p := h
theorem tq_23 (h : p := by ((with_reducible repeat (first | apply Kd.S_alloc | apply Kd.S_drewN | apply Kd.S_drew)); exact (Kd.S_mono (rS_ (rS_ (rS_ (Kd.S_types HO211.out BK212.out (by decide))))) (fun _ h_ => h_.1)))) : p := h
theorem tq_24 (h : p := by ((with_reducible repeat (first | apply Kd.R_alloc | apply Kd.R_drewN | apply Kd.R_drew)); exact (Kd.R_mono (rR_ (rR_ (rR_ (Kd.R_types HO208.out BK212.out (by decide))))) (fun _ h_ => h_.1)))) : p := h
theorem tq_25 (h : p := by (repeat (first | (with_reducible first | exact HB.out | apply below_alloc | apply pw_below_drewN | apply below_drew1 | refine below_set ?_ GE200.out | refine below_set ?_ GE212.out | refine below_set ?_ GE224.out) | exact HB.out))) : p := h
theorem tq_26 (h : p := by ((with_reducible repeat (first | apply Kd.S_alloc | apply Kd.S_drewN | apply Kd.S_drew)); exact (Kd.S_mono (rS_ (rS_ (rS_ (Kd.S_types HG_.out BK224.out (by decide))))) (fun _ h_ => h_.1)))) : p := h
theorem tq_27 (h : p := by ((with_reducible repeat (first | apply Kd.S_alloc | apply Kd.S_drewN | apply Kd.S_drew)); exact (Kd.S_mono (rS_ (rS_ (rS_ (Kd.S_types HA_.out BK224.out (by decide))))) (fun _ h_ => h_.1)))) : p := h
theorem tq_28 (h : p := by (repeat (first | exact (Kd.C_below HR0_1.out HB.out) | (with_reducible refine Kd.C_alloc ?_ _) | (with_reducible refine Kd.C_drewN ?_ _) | (with_reducible refine Kd.C_drew ?_)))) : p := h
theorem tq_29 (h : p := by (repeat (first | exact Drawn0.refl _ | apply Drawn0.step))) : p := h
theorem tq_30 (h : p := by (first | exact (HO208.out.1 k_ e_.symm) h_ | exact (HO208.out.1 k_ e_.symm).1 h_ | exact (HO208.out.1 k_ e_.symm).2 h_)) : p := h
theorem tq_31 (h : p := by ((with_reducible repeat (first | apply Kd.S_alloc | apply Kd.S_drewN | apply Kd.S_drew)); exact (Kd.S_mono (rS_ (rS_ (rS_ (Kd.S_types HO223.out BK241.out (by decide))))) (fun _ h_ => h_.1)))) : p := h
theorem tq_32 (h : p := by ((with_reducible repeat (first | apply Kd.R_alloc | apply Kd.R_drewN | apply Kd.R_drew)); exact (Kd.R_mono (rR_ (rR_ (rR_ (Kd.R_types HO220.out BK241.out (by decide))))) (fun _ h_ => h_.1)))) : p := h
theorem tq_33 (h : p := by (repeat (first | exact (Kd.C_below HR0_2.out th_) | (with_reducible refine Kd.C_alloc ?_ _) | (with_reducible refine Kd.C_drewN ?_ _) | (with_reducible refine Kd.C_drew ?_)))) : p := h
theorem tq_34 (h : p := by ((with_reducible repeat (first | apply Kd.S_alloc | apply Kd.S_drewN | apply Kd.S_drew)); exact Kd.S_mono HO_0.out (fun k_ hk => ⟨hk, fun e_ => e_⟩))) : p := h
theorem tq_35 (h : p := by (repeat (first | (with_reducible first | exact HK.out | apply Kept.alloc | apply Kept.drewN | apply Kept.drew | refine Kept.setCell ?_ (.inr GW175.out) _) | exact HK.out))) : p := h
theorem tq_36 (h : p := by (repeat (first | exact (Kd.C_below HR193_4.out HB.out) | (with_reducible refine Kd.C_alloc ?_ _) | (with_reducible refine Kd.C_drewN ?_ _) | (with_reducible refine Kd.C_drew ?_)))) : p := h
theorem tq_37 (h : p := by (repeat (first | exact (Kd.C_below HR1_4.out HB.out) | (with_reducible refine Kd.C_alloc ?_ _) | (with_reducible refine Kd.C_drewN ?_ _) | (with_reducible refine Kd.C_drew ?_)))) : p := h
theorem tq_38 (h : p := by (repeat (first | exact (Kd.C_below HR1_1.out HB.out) | (with_reducible refine Kd.C_alloc ?_ _) | (with_reducible refine Kd.C_drewN ?_ _) | (with_reducible refine Kd.C_drew ?_)))) : p := h
theorem tq_39 (h : p := by (repeat (first | exact (Kd.C_below HR0_4.out HB.out) | (with_reducible refine Kd.C_alloc ?_ _) | (with_reducible refine Kd.C_drewN ?_ _) | (with_reducible refine Kd.C_drew ?_)))) : p := h
theorem tq_40 (h : p := by (have := HK1.out; omega)) : p := h
theorem tq_41 (h : p := by (repeat (first | exact (Kd.C_below HR195_5.out HB.out) | (with_reducible refine Kd.C_alloc ?_ _) | (with_reducible refine Kd.C_drewN ?_ _) | (with_reducible refine Kd.C_drew ?_)))) : p := h
theorem tq_42 (h : p := by (repeat (first | exact (Kd.C_below HR121_5.out HB.out) | (with_reducible refine Kd.C_alloc ?_ _) | (with_reducible refine Kd.C_drewN ?_ _) | (with_reducible refine Kd.C_drew ?_)))) : p := h
theorem tq_43 (h : p := by (repeat (first | exact (Kd.C_below HR121_4.out HB.out) | (with_reducible refine Kd.C_alloc ?_ _) | (with_reducible refine Kd.C_drewN ?_ _) | (with_reducible refine Kd.C_drew ?_)))) : p := h
theorem tq_44 (h : p := by (repeat (first | exact (Kd.C_below HR120_5.out HB.out) | (with_reducible refine Kd.C_alloc ?_ _) | (with_reducible refine Kd.C_drewN ?_ _) | (with_reducible refine Kd.C_drew ?_)))) : p := h
theorem tq_45 (h : p := by (repeat (first | exact (Kd.C_below HR120_4.out HB.out) | (with_reducible refine Kd.C_alloc ?_ _) | (with_reducible refine Kd.C_drewN ?_ _) | (with_reducible refine Kd.C_drew ?_)))) : p := h
theorem tq_46 (h : p := by (repeat (first | exact (Kd.C_below HR1_5.out HB.out) | (with_reducible refine Kd.C_alloc ?_ _) | (with_reducible refine Kd.C_drewN ?_ _) | (with_reducible refine Kd.C_drew ?_)))) : p := h
theorem tq_47 (h : p := by (repeat (first | exact (Kd.C_below HR0_5.out HB.out) | (with_reducible refine Kd.C_alloc ?_ _) | (with_reducible refine Kd.C_drewN ?_ _) | (with_reducible refine Kd.C_drew ?_)))) : p := h
theorem tq_48 (h : p := by (repeat (first | exact (Kd.C_below HR1_2.out th_) | (with_reducible refine Kd.C_alloc ?_ _) | (with_reducible refine Kd.C_drewN ?_ _) | (with_reducible refine Kd.C_drew ?_)))) : p := h
theorem tq_49 (h : p := by (repeat (first | (with_reducible first | exact HB.out | apply below_alloc | apply pw_below_drewN | apply below_drew1 | refine below_set ?_ GE175.out) | exact HB.out))) : p := h
theorem tq_50 (h : p := by (first | exact Kd.S_nil _ _ _ _ _ | exact Kd.N_nil _ _ _ _ _ | exact Kd.V_nil _ _ _ _ _ | exact Kd.Q_nil _ _ _ _ _ | exact Kd.R_nil _ _ _ _ _)) : p := h
theorem tq_51 (h : p := by (first | exact Kd.R_nil _ _ _ _ _ | exact Kd.N_nil _ _ _ _ _ | exact Kd.V_nil _ _ _ _ _ | exact Kd.Q_nil _ _ _ _ _ | exact Kd.S_nil _ _ _ _ _)) : p := h
theorem mo_0 (h : p := by (repeat' first | (with_reducible exact ih0 ..) | (with_reducible exact LeO.refl _) | (with_reducible exact LeO.none _) | (with_reducible refine LeO.ite ?_ ?_) | (with_reducible refine LeO.bind ?_ (fun _ => ?_)) | exact ih0 .. | exact LeO.none _ | refine LeO.ite ?_ ?_ | refine LeO.bind ?_ (fun _ => ?_))) : p := h
theorem mo_1 (h : p := by (repeat' first | (with_reducible exact ih0 ..) | (with_reducible exact laws_markText.mono ..) | (with_reducible exact LeO.refl _) | (with_reducible exact LeO.none _) | (with_reducible refine LeO.ite ?_ ?_) | (with_reducible refine LeO.bind ?_ (fun _ => ?_)) | exact ih0 .. | exact laws_markText.mono .. | exact LeO.none _ | refine LeO.ite ?_ ?_ | refine LeO.bind ?_ (fun _ => ?_))) : p := h
end

end Go.Proofs.Ytljnnmpfeningaa.PFnExactPartNew
