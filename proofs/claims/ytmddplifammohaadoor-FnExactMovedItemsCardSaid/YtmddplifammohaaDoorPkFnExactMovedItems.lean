/- What the printed texts of this law say often, told once: arrays of Bools, and lemmas whose argument a tactic fills in. Conditions: none. -/
import Derived.Test.YtmddplifammohaaDoorProg
import Derived.Below
import Derived.Deep.Draws
import Derived.Deep.AppendLies
import Derived.Maps.AppendAt
import Derived.OwnWalk
import Derived.Laws.BytesArg
import Derived.Laws.MakeOwn
import Derived.Laws.OwnMore
import Derived.Deep.OwnRows
import Derived.Tactics
import Derived.Lib.ConvBytes
import Derived.Laws.Slices
import Derived.WalkKit
import Derived.KernelRfl
import Derived.RowKit3
import Derived.Deep.LoopGhost
import Derived.Deep.QuietTactic
import Derived.BigQuiet
import Derived.WideLaws
import Derived.Deep.DeepCutAuto
import Derived.Deep.CutBlock
import Derived.Deep.RegionHeld3
import Derived.Laws.Rows
import Derived.Lib.AppendStr
import Derived.ArgAppend
import Derived.Laws.IdiomCopy
import Derived.OrdersHeld
import Derived.Laws.BitsLemmas
import Derived.RowKit
import Derived.Lib.SliceRun
import Derived.Test.YtmddplifammohaaDoorShelf
import Derived.Laws.Cover1
import Derived.Test.YtmddplifammohaaDoorDoor
import Derived.Test.YtmddplifammohaaDoorWWords
import Derived.Test.YtmddplifammohaaDoorWLast
import Derived.Test.YtmddplifammohaaDoorWTab
import Derived.Test.YtmddplifammohaaDoorWFour
import Derived.Test.YtmddplifammohaaDoorWQPut
import Derived.Test.YtmddplifammohaaDoorWApart
import Derived.Test.YtmddplifammohaaDoorWArr
import Derived.Test.YtmddplifammohaaDoorWZeros
import Derived.Test.YtmddplifammohaaDoorWFoot
import Derived.Test.YtmddplifammohaaDoorWKept
import Derived.Test.YtmddplifammohaaDoorWShare
import Derived.Test.YtmddplifammohaaDoorWN
import Derived.Test.YtmddplifammohaaDoorWFootNe
import Derived.Test.YtmddplifammohaaDoorWAt
import Derived.Test.YtmddplifammohaaDoorWEqStruct
import Derived.Test.YtmddplifammohaaDoorWRepsOne
import Derived.Test.YtmddplifammohaaDoorWInv
import Derived.Test.YtmddplifammohaaDoorWInvWords
import Derived.Test.YtmddplifammohaaDoorWGuard
import Derived.Test.YtmddplifammohaaDoorWNEv
import Derived.Test.YtmddplifammohaaDoorWMore
namespace Go.Proofs.YtmddplifammohaaDoor.PFnExactMovedItems
open Go.RowKit Go.Proofs.YtmddplifammohaaDoorW.PrintWords Go.Proofs.YtmddplifammohaaDoorW.PrintLast Go.Proofs.YtmddplifammohaaDoorW.PrintMore
set_option linter.unusedVariables false

abbrev bq_0 : Array Bool := #[true, true, true, true, true, true, true, true, false, false]
abbrev bq_1 : Array Bool := #[false, false, false, false, false, false, false, false]
abbrev bq_2 : Array Bool := #[true, false, false, false, false, false, false, false]
abbrev bq_3 : Array Bool := #[true, true, false, false, false, false, false, false]
abbrev bq_4 : Array Bool := #[true, true, true, false, false, false, false, false]
abbrev bq_5 : Array Bool := #[true, true, true, true, false, false, false, false]
abbrev bq_6 : Array Bool := #[true, true, true, true, false, true, false, false]
abbrev bq_7 : Array Bool := #[true, true, true, true, true, true, false, false]
abbrev bq_8 : Array Bool := #[true, true, true, true, true, true, true, false]
abbrev bq_9 : Array Bool := #[true, true, true, true, true, true, true, true]
abbrev bq_10 : Array Bool := #[true, true, true, true, true, false, true, true, false, false]
abbrev bq_11 : Array Bool := #[false, false, false, false, false, false, false, false, false, false]
abbrev bq_12 : Array Bool := #[true, true, true, true, true, true, true, false, false, false]
abbrev bq_13 : Array Bool := #[true, true, true, true, true, true, true, true, true, false]
abbrev bq_14 : Array Bool := #[true, true, true, true, true, true, true, true, true, true]
abbrev bq_15 : Array Bool := #[false, false, false, false, false, false, false, false, false, false, false, false, false, false, false, false, false, false]
abbrev bq_16 : Array Bool := #[true, false, false, false, false, false, false, false, false, false, false, false, false, false, false, false, false, false]
abbrev bq_17 : Array Bool := #[true, true, false, false, false, false, false, false, false, false, false, false, false, false, false, false, false, false]
abbrev bq_18 : Array Bool := #[true, true, true, false, false, false, false, false, false, false, false, false, false, false, false, false, false, false]
abbrev bq_19 : Array Bool := #[true, true, true, true, false, false, false, false, false, false, false, false, false, false, false, false, false, false]
abbrev bq_20 : Array Bool := #[true, true, true, true, true, false, false, false, false, false, false, false, false, false, false, false, false, false]
abbrev bq_21 : Array Bool := #[true, true, true, true, true, true, false, false, false, false, false, false, false, false, false, false, false, false]
abbrev bq_22 : Array Bool := #[true, true, true, true, true, true, true, false, false, false, false, false, false, false, false, false, false, false]
abbrev bq_23 : Array Bool := #[true, true, true, true, true, true, true, true, false, false, false, false, false, false, false, false, false, false]
abbrev bq_24 : Array Bool := #[true, true, true, true, true, true, true, true, true, false, false, false, false, false, false, false, false, false]
abbrev bq_25 : Array Bool := #[true, true, true, true, true, true, true, true, true, false, true, false, false, false, false, false, false, false]
abbrev bq_26 : Array Bool := #[true, true, true, true, true, true, true, true, true, false, true, true, false, false, false, false, false, false]
abbrev bq_27 : Array Bool := #[true, true, true, true, true, true, true, true, true, false, true, true, true, false, false, false, false, false]
abbrev bq_28 : Array Bool := #[true, true, true, true, true, true, true, true, true, true, true, true, true, false, false, false, false, false]
abbrev bq_29 : Array Bool := #[true, true, true, true, true, true, true, true, true, true, true, true, true, true, false, false, false, false]
abbrev bq_30 : Array Bool := #[true, true, true, true, true, true, true, true, true, true, true, true, true, true, true, false, false, false]
abbrev bq_31 : Array Bool := #[true, true, true, true, true, true, true, true, true, true, true, true, true, true, true, true, false, false]
abbrev bq_32 : Array Bool := #[true, true, true, true, true, true, true, true, true, true, true, true, true, true, true, true, true, false]
abbrev bq_33 : Array Bool := #[true, true, true, true, true, true, true, true, true, true, true, true, true, true, true, true, true, true]
abbrev bq_34 : Array Bool := #[false, false, false, false, false, false, false, false, false, false, false, false, false, false, false, false]
abbrev bq_35 : Array Bool := #[true, false, false, false, false, false, false, false, false, false, false, false, false, false, false, false]
abbrev bq_36 : Array Bool := #[true, true, false, false, false, false, false, false, false, false, false, false, false, false, false, false]
abbrev bq_37 : Array Bool := #[true, true, true, false, false, false, false, false, false, false, false, false, false, false, false, false]
abbrev bq_38 : Array Bool := #[true, true, true, true, false, false, false, false, false, false, false, false, false, false, false, false]
abbrev bq_39 : Array Bool := #[true, true, true, true, true, false, false, false, false, false, false, false, false, false, false, false]
abbrev bq_40 : Array Bool := #[true, true, true, true, true, true, false, false, false, false, false, false, false, false, false, false]
abbrev bq_41 : Array Bool := #[true, true, true, true, true, true, true, false, false, false, false, false, false, false, false, false]
abbrev bq_42 : Array Bool := #[true, true, true, true, true, true, true, true, true, true, true, true, true, false, false, false]
abbrev bq_43 : Array Bool := #[true, true, true, true, true, true, true, true, true, true, true, true, true, true, false, false]
abbrev bq_44 : Array Bool := #[true, true, true, true, true, true, true, true, true, true, true, true, true, true, true, false]
abbrev bq_45 : Array Bool := #[true, true, true, true, true, true, true, true, true, true, true, true, true, true, true, true]
abbrev bq_46 : Array Bool := #[false, true, false, false, false, false, false, false, false, false]
abbrev bq_47 : Array Bool := #[false, true, false, true, false, false, false, false, false, false]
abbrev bq_48 : Array Bool := #[false, true, true, true, false, false, false, false, false, false]
abbrev bq_49 : Array Bool := #[false, true, true, true, true, false, false, false, false, false]
abbrev bq_50 : Array Bool := #[false, true, true, true, true, false, true, false, false, false]
abbrev bq_51 : Array Bool := #[true, true, true, true, true, false, true, false, false, false]
abbrev bq_52 : Array Bool := #[false, true, true, true, true, false, true, true, false, false]
abbrev bq_53 : Array Bool := #[false, false, false, false, false, false, false, false, false, false, false, false, false, false, false, false, false]
abbrev bq_54 : Array Bool := #[true, false, false, false, false, false, false, false, false, false, false, false, false, false, false, false, false]
abbrev bq_55 : Array Bool := #[true, true, false, false, false, false, false, false, false, false, false, false, false, false, false, false, false]
abbrev bq_56 : Array Bool := #[true, true, true, false, false, false, false, false, false, false, false, false, false, false, false, false, false]
abbrev bq_57 : Array Bool := #[true, true, true, true, false, false, false, false, false, false, false, false, false, false, false, false, false]
abbrev bq_58 : Array Bool := #[true, true, true, true, true, false, false, false, false, false, false, false, false, false, false, false, false]
abbrev bq_59 : Array Bool := #[true, true, true, true, true, true, false, false, false, false, false, false, false, false, false, false, false]
abbrev bq_60 : Array Bool := #[true, true, true, true, true, true, true, false, false, false, false, false, false, false, false, false, false]
abbrev bq_61 : Array Bool := #[true, true, true, true, true, true, true, true, false, false, false, false, false, false, false, false, false]
abbrev bq_62 : Array Bool := #[true, true, true, true, true, true, true, true, true, true, true, true, true, false, false, false, false]
abbrev bq_63 : Array Bool := #[true, true, true, true, true, true, true, true, true, true, true, true, true, true, false, false, false]
abbrev bq_64 : Array Bool := #[true, true, true, true, true, true, true, true, true, true, true, true, true, true, true, false, false]
abbrev bq_65 : Array Bool := #[true, true, true, true, true, true, true, true, true, true, true, true, true, true, true, true, false]
abbrev bq_66 : Array Bool := #[true, true, true, true, true, true, true, true, true, true, true, true, true, true, true, true, true]
abbrev bq_67 : Array Bool := #[false, false, false, false, false, false, false, false, false, false, false, false, false]
abbrev bq_68 : Array Bool := #[true, false, false, false, false, false, false, false, false, false, false, false, false]
abbrev bq_69 : Array Bool := #[true, false, true, false, false, false, false, false, false, false, false, false, false]
abbrev bq_70 : Array Bool := #[true, false, true, true, false, false, false, false, false, false, false, false, false]
abbrev bq_71 : Array Bool := #[true, false, true, true, true, false, false, false, false, false, false, false, false]
abbrev bq_72 : Array Bool := #[true, false, true, true, true, false, true, false, false, false, false, false, false]
abbrev bq_73 : Array Bool := #[true, false, true, true, true, false, true, true, false, false, false, false, false]
abbrev bq_74 : Array Bool := #[true, true, true, true, true, false, true, true, false, false, false, false, false]
abbrev bq_75 : Array Bool := #[true, true, true, true, true, true, true, true, false, false, false, false, false]
abbrev bq_76 : Array Bool := #[true, true, true, true, true, true, true, true, true, false, false, false, false]
abbrev bq_77 : Array Bool := #[true, true, true, true, true, true, true, true, true, true, false, false, false]
abbrev bq_78 : Array Bool := #[true, true, true, true, true, true, true, true, true, true, true, false, false]
abbrev bq_79 : Array Bool := #[true, true, true, true, true, true, true, true, true, true, true, true, false]
abbrev bq_80 : Array Bool := #[true, true, true, true, true, true, true, true, true, true, true, true, true]
section
variable {P : Program} {ops : Array Oper} {Q : Exit → Act → World → Prop} {md : Region.Mode} {S : World → Prop} {ds : List Nat}
theorem yq_ {i : Nat} {N : Option Tmp} {oi : Oper} {v : Value} {fuel : Nat} {l : Array Bool} {a : Act} {w : World} (l' : Array Bool) (hc : anyB md ops l l' i = true) {a' : Act}
 (h : wpAnyLast P md ops Q S ds fuel l' a' w) (hi : ops[i]? = some oi := by rfl) (hN : oi.dst = N := by rfl) (hQ : ∀ c a w, Q (.panic c) (a.put oi.dst v) w → Q (.panic c) a w := by exact fun _ _ _ h => h)
 (h1 : Region.wanted oi (yielded ops a.tmps) = true := by rfl) (h2 : ∀ w', (execOp a.eval oi).run P w' = .ok (.value v) w' := by (intro w'; go_simp; with_reducible rfl))
 (ha : a.put N v = a' := by (simp only [Act.put, List.setIfInBounds_toArray, List.set_cons_zero, List.set_cons_succ, i64_w, i32_w]; rfl)) : wpAnyLast P md ops Q S ds (fuel + 1) l a w :=
 pure_ l' hi hN hc hQ (Or.inl ⟨h1, h2⟩) ha h
theorem uq_ {i : Nat} {N : Option Tmp} {oi : Oper} {fuel : Nat} {l : Array Bool} {a : Act} {w : World} (l' : Array Bool) (hc : anyB md ops l l' i = true) {a' : Act}
 (h : wpAnyLast P md ops Q S ds fuel l' a' w) (hi : ops[i]? = some oi := by rfl) (hN : oi.dst = N := by rfl) (hQ : ∀ c a w, Q (.panic c) (a.put oi.dst undef) w → Q (.panic c) a w := by exact fun _ _ _ h => h)
 (h1 : Region.wanted oi (yielded ops a.tmps) = false := by rfl)
 (ha : a.put N undef = a' := by (simp only [Act.put, List.setIfInBounds_toArray, List.set_cons_zero, List.set_cons_succ, i64_w, i32_w]; rfl)) : wpAnyLast P md ops Q S ds (fuel + 1) l a w :=
 pure_ (v := undef) l' hi hN hc hQ (Or.inr ⟨h1, rfl⟩) ha h
end

section
variable {P : Program} {ops : Array Oper} {Q : Exit → Act → World → Prop} {md : Region.Mode} {S : World → Prop} {ds : List Nat}
theorem nm_ (N : Option Tmp) {fuel : Nat} {l : Array Bool} {a0 a' : Act} {v : Value} {w : World} (h : wpAnyLast P md ops Q S ds fuel l a' w)
 (ha : a0.put N v = a' := by (simp only [Act.put, List.setIfInBounds_toArray, List.set_cons_zero, List.set_cons_succ, i64_w, i32_w]; rfl)) : wpAnyLast P md ops Q S ds fuel l (a0.put N v) w := norm_ ha h
theorem tk_ {i : Nat} {N : Option Tmp} {oi : Oper} {v : Value} {fuel : Nat} {l : Array Bool} {a : Act} {w : World} (l' : Array Bool) (hc : takeB md ops ds l l' i = true) (hS : S w) {a' : Act}
 (h : wpAnyLast P md ops Q S ds fuel l' a' w) (hi : ops[i]? = some oi := by rfl) (hN : oi.dst = N := by rfl) (hQ : ∀ c a w, Q (.panic c) (a.put oi.dst v) w → Q (.panic c) a w := by exact fun _ _ _ h => h)
 (h1 : Region.wanted oi (yielded ops a.tmps) = true := by rfl) (h2 : ∀ w', S w' → (execOp a.eval oi).run P w' = .ok (.value v) w' := by (intro w' hS_; (repeat (obtain ⟨_, hS_⟩ := hS_)); go_simp; with_reducible rfl))
 (ha : a.put N v = a' := by (simp only [Act.put, List.setIfInBounds_toArray, List.set_cons_zero, List.set_cons_succ, i64_w, i32_w]; rfl)) : wpAnyLast P md ops Q S ds (fuel + 1) l a w :=
 take_ l' hi hN hc hQ (Or.inl ⟨h1, h2⟩) hS ha h
end

theorem a_ {p : Prop} (h : p) : Aside0 p := ⟨h⟩
theorem p_ {p q : Prop} (h : p) (k : q) : Aside0 p ∧ q := ⟨⟨h⟩, k⟩
theorem q_ {p q : Prop} (h : p) (k : q) : p ∧ q := ⟨h, k⟩
theorem bk3_ {w : World} {g : Nat} {t : TypeId} {v0 v1 v2 : Value} (h : w.heap[g]? = some (.cells #[v0, v1, v2] t (0, 0))) : w.cell? ⟨g, 0, none⟩ = some v0 ∧ w.cell? ⟨g, 1, none⟩ = some v1 ∧ w.cell? ⟨g, 2, none⟩ = some v2 := ⟨(blk_cell h 0).trans rfl, (blk_cell h 1).trans rfl, (blk_cell h 2).trans rfl⟩
theorem bc3_ {w : World} {g : Nat} {t : TypeId} {v0 v1 v2 : Value} {R : Prop} (h : w.heap[g]? = some (.cells #[v0, v1, v2] t (0, 0))) (r : R) : w.cell? ⟨g, 0, none⟩ = some v0 ∧ w.cell? ⟨g, 1, none⟩ = some v1 ∧ w.cell? ⟨g, 2, none⟩ = some v2 ∧ R := ⟨(blk_cell h 0).trans rfl, (blk_cell h 1).trans rfl, (blk_cell h 2).trans rfl, r⟩

theorem bc_ {w : World} {g : Nat} {t : TypeId} {cs : Array Value} (h : w.heap[g]? = some (.cells cs t (0, 0))) (i : Nat) {v : Value} (e : cs[i]? = some v := by rfl) : w.cell? ⟨g, i, none⟩ = some v := (blk_cell h i).trans e
theorem hx_ {w w' : World} {p : Addr} {v : Value} (hB : Below w.heap.size w w') (h : w.cell? p = some v) : w'.cell? p = some v := (hB.cell (World.block_lt_of_cell? w _ h)).trans h
theorem ltne_ {g g' : Nat} {W : World} (hg : g' = W.heap.size) (h : g < W.heap.size) : g ≠ g' := by rw [hg]; exact Nat.ne_of_lt h
theorem gtne_ {g g' : Nat} {W : World} (hg : g' = W.heap.size) (h : g < W.heap.size) : g' ≠ g := by rw [hg]; exact Nat.ne_of_gt h
theorem gb_ {w W : World} {g : Nat} (hg : g = W.heap.size) (h : Below w.heap.size w W) : w.heap.size ≤ g := by rw [hg]; exact below_size h

section
variable {P : Program} {ops : Array Oper} {Q : Exit → Act → World → Prop} {md : Region.Mode} {S : World → Prop} {ds : List Nat} {T : Bool × List (List Nat × List Nat)}
theorem yr_ (i n : Nat) {oi : Oper} {v : Value} {fuel : Nat} {l : Array Bool} {a : Act} {w : World} (l' : Array Bool) (HT : Aside0 (rtab md ops = T)) {a' : Act}
 (h : wpAnyLast P md ops Q S ds fuel l' a' w) (hc : anyT T l.toList l'.toList i = true := by kernel_rfl) (hi : ops[i]? = some oi := by rfl) (hN : oi.dst = some n := by rfl) (hQ : ∀ c a w, Q (.panic c) (a.put oi.dst v) w → Q (.panic c) a w := by exact fun _ _ _ h => h)
 (h1 : Region.wanted oi (yielded ops a.tmps) = true := by rfl) (h2 : ∀ w', (execOp a.eval oi).run P w' = .ok (.value v) w' := by (intro w'; go_simp; with_reducible rfl))
 (ha : a.put (some n) v = a' := by (simp only [Act.put, List.setIfInBounds_toArray, List.set_cons_zero, List.set_cons_succ, i64_w, i32_w]; rfl)) : wpAnyLast P md ops Q S ds (fuel + 1) l a w :=
 pure_ l' hi hN (any_of HT.out hc) hQ (Or.inl ⟨h1, h2⟩) ha h
theorem ur_ (i n : Nat) {oi : Oper} {fuel : Nat} {l : Array Bool} {a : Act} {w : World} (l' : Array Bool) (HT : Aside0 (rtab md ops = T)) {a' : Act}
 (h : wpAnyLast P md ops Q S ds fuel l' a' w) (hc : anyT T l.toList l'.toList i = true := by kernel_rfl) (hi : ops[i]? = some oi := by rfl) (hN : oi.dst = some n := by rfl) (hQ : ∀ c a w, Q (.panic c) (a.put oi.dst undef) w → Q (.panic c) a w := by exact fun _ _ _ h => h)
 (h1 : Region.wanted oi (yielded ops a.tmps) = false := by rfl)
 (ha : a.put (some n) undef = a' := by (simp only [Act.put, List.setIfInBounds_toArray, List.set_cons_zero, List.set_cons_succ, i64_w, i32_w]; rfl)) : wpAnyLast P md ops Q S ds (fuel + 1) l a w :=
 pure_ (v := undef) l' hi hN (any_of HT.out hc) hQ (Or.inr ⟨h1, rfl⟩) ha h
end

section
variable {P : Program} {ops : Array Oper} {Q : Exit → Act → World → Prop} {md : Region.Mode} {S : World → Prop} {ds : List Nat} {T : Bool × List (List Nat × List Nat)} {B : List Nat}
theorem tr_ (i n : Nat) {oi : Oper} {v : Value} {fuel : Nat} {l : Array Bool} {a : Act} {w : World} (l' : Array Bool) (HT : Aside0 (rtab md ops = T)) (HW : Aside0 (waitsOk T.2 B = true)) (hS : S w) {a' : Act}
 (h : wpAnyLast P md ops Q S ds fuel l' a' w) (hc : takeW T B ds l.toList l'.toList i = true := by kernel_rfl) (hi : ops[i]? = some oi := by rfl) (hN : oi.dst = some n := by rfl) (hQ : ∀ c a w, Q (.panic c) (a.put oi.dst v) w → Q (.panic c) a w := by exact fun _ _ _ h => h)
 (h1 : Region.wanted oi (yielded ops a.tmps) = true := by rfl) (h2 : ∀ w', S w' → (execOp a.eval oi).run P w' = .ok (.value v) w' := by (intro w' hS_; (repeat (obtain ⟨_, hS_⟩ := hS_)); go_simp; with_reducible rfl))
 (ha : a.put (some n) v = a' := by (simp only [Act.put, List.setIfInBounds_toArray, List.set_cons_zero, List.set_cons_succ, i64_w, i32_w]; rfl)) : wpAnyLast P md ops Q S ds (fuel + 1) l a w :=
 take_ l' hi hN (take_ofW HT.out HW.out hc) hQ (Or.inl ⟨h1, h2⟩) hS ha h
end
theorem an2_ {p0 p1 : Prop} (h0 : Aside0 p0) (h1 : Aside0 p1) : p0 ∧ p1 := ⟨h0.out, h1.out⟩
theorem an4_ {p0 p1 p2 p3 : Prop} (h0 : Aside0 p0) (h1 : Aside0 p1) (h2 : Aside0 p2) (h3 : Aside0 p3) : p0 ∧ p1 ∧ p2 ∧ p3 := ⟨h0.out, h1.out, h2.out, h3.out⟩
theorem an6_ {p0 p1 p2 p3 p4 p5 : Prop} (h0 : Aside0 p0) (h1 : Aside0 p1) (h2 : Aside0 p2) (h3 : Aside0 p3) (h4 : Aside0 p4) (h5 : Aside0 p5) : p0 ∧ p1 ∧ p2 ∧ p3 ∧ p4 ∧ p5 := ⟨h0.out, h1.out, h2.out, h3.out, h4.out, h5.out⟩
theorem an8_ {p0 p1 p2 p3 p4 p5 p6 p7 : Prop} (h0 : Aside0 p0) (h1 : Aside0 p1) (h2 : Aside0 p2) (h3 : Aside0 p3) (h4 : Aside0 p4) (h5 : Aside0 p5) (h6 : Aside0 p6) (h7 : Aside0 p7) : p0 ∧ p1 ∧ p2 ∧ p3 ∧ p4 ∧ p5 ∧ p6 ∧ p7 := ⟨h0.out, h1.out, h2.out, h3.out, h4.out, h5.out, h6.out, h7.out⟩
theorem rR_ {α : Type} {d : Kd α} {e : TypeId} {w : World} {base : Nat} {ok : Nat → Prop} {v : Value} {xs : List α} (h : Kd.R d e w base ok v xs) {p : Addr} {u : Value} (hok : ∀ k, ok k → k ≠ p.block := by exact fun _ hk => hk.2) : Kd.R d e (w.setCell p u) base ok v xs := Kd.R_far h hok u
theorem raR_ {p q : Prop} (H : Aside0 q) (h : q → p := by (intro h_; (with_reducible repeat (first | apply Kd.R_alloc | apply Kd.R_drewN | apply Kd.R_drew)); exact h_)) : p := h H.out
theorem th_ {p : Prop} (h : p := by (repeat (first | (with_reducible first | exact HB.out | apply below_alloc | apply pw_below_drewN | apply below_drew1) | (with_reducible refine below_set ?_ (Aside0.out (by assumption))) | exact HB.out))) : p := h
theorem kb_ {p q : Prop} (H : Aside0 q) (h : q → p := by (intro h_; (with_reducible repeat (first | refine blk_drewN ?_ _ | refine blk_drew ?_ | refine blk_alloc ?_ _)); exact h_)) : p := h H.out
theorem tb_ {p : Prop} (h : p := by (repeat' (first | (with_reducible first | refine blk_drewN ?_ _ | refine blk_drew ?_ | refine blk_alloc ?_ _) | (with_reducible exact Aside0.out (by assumption)) | (refine blk_far ?_ (Aside0.out (by with_reducible assumption)) _) | (refine blk_put (cs := ?_) ?_ _ _ ?_) | rfl))) : p := h
theorem be_ {P : Program} {ops : Array Oper} {Q : Exit → Act → World → Prop} {rest : List Oper} {o : Oper} {a : Act} {W : World} (N : Tmp) {cs : Array Value} (t : TypeId)
 (h : ∀ g, g = W.heap.size → ∀ w1, w1.heap[g]? = some (.cells cs t (0, 0)) → Below W.heap.size W w1 → wpList P ops Q rest (a.put o.dst (.pointer (some ⟨g, 0, none⟩))) w1) (hgd : o.guard = none := by rfl) (hd : o.dst = some N := by rfl)
 (hrun : (execOp a.eval o).run P W = .ok (.value (.pointer (some ⟨W.heap.size, 0, none⟩))) (W.alloc (.cells cs t (0, 0))) := by first | (go_simp; done) | (go_simp; rfl)) : wpList P ops Q (o :: rest) a W := box_event hgd hd hrun h
theorem bw1_ {w W W' : World} {g0 : Nat} {o0 : Obj} (h0 : W.heap[g0]? = some o0) (hB : Below w.heap.size w W) (hb : Below W.heap.size W W') : Aside0 (W'.heap[g0]? = some o0) ∧ Aside0 (Below w.heap.size w W') := ⟨⟨blk_below h0 hb⟩, ⟨below_step hB hb⟩⟩
theorem bw2_ {w W W' : World} {g0 g1 : Nat} {o0 o1 : Obj} (h0 : W.heap[g0]? = some o0) (h1 : W.heap[g1]? = some o1) (hB : Below w.heap.size w W) (hb : Below W.heap.size W W') : Aside0 (W'.heap[g0]? = some o0) ∧ Aside0 (W'.heap[g1]? = some o1) ∧ Aside0 (Below w.heap.size w W') := ⟨⟨blk_below h0 hb⟩, ⟨blk_below h1 hb⟩, ⟨below_step hB hb⟩⟩
theorem bw3_ {w W W' : World} {g0 g1 g2 : Nat} {o0 o1 o2 : Obj} (h0 : W.heap[g0]? = some o0) (h1 : W.heap[g1]? = some o1) (h2 : W.heap[g2]? = some o2) (hB : Below w.heap.size w W) (hb : Below W.heap.size W W') : Aside0 (W'.heap[g0]? = some o0) ∧ Aside0 (W'.heap[g1]? = some o1) ∧ Aside0 (W'.heap[g2]? = some o2) ∧ Aside0 (Below w.heap.size w W') := ⟨⟨blk_below h0 hb⟩, ⟨blk_below h1 hb⟩, ⟨blk_below h2 hb⟩, ⟨below_step hB hb⟩⟩
theorem bw4_ {w W W' : World} {g0 g1 g2 g3 : Nat} {o0 o1 o2 o3 : Obj} (h0 : W.heap[g0]? = some o0) (h1 : W.heap[g1]? = some o1) (h2 : W.heap[g2]? = some o2) (h3 : W.heap[g3]? = some o3) (hB : Below w.heap.size w W) (hb : Below W.heap.size W W') : Aside0 (W'.heap[g0]? = some o0) ∧ Aside0 (W'.heap[g1]? = some o1) ∧ Aside0 (W'.heap[g2]? = some o2) ∧ Aside0 (W'.heap[g3]? = some o3) ∧ Aside0 (Below w.heap.size w W') := ⟨⟨blk_below h0 hb⟩, ⟨blk_below h1 hb⟩, ⟨blk_below h2 hb⟩, ⟨blk_below h3 hb⟩, ⟨below_step hB hb⟩⟩
theorem bw5_ {w W W' : World} {g0 g1 g2 g3 g4 : Nat} {o0 o1 o2 o3 o4 : Obj} (h0 : W.heap[g0]? = some o0) (h1 : W.heap[g1]? = some o1) (h2 : W.heap[g2]? = some o2) (h3 : W.heap[g3]? = some o3) (h4 : W.heap[g4]? = some o4) (hB : Below w.heap.size w W) (hb : Below W.heap.size W W') : Aside0 (W'.heap[g0]? = some o0) ∧ Aside0 (W'.heap[g1]? = some o1) ∧ Aside0 (W'.heap[g2]? = some o2) ∧ Aside0 (W'.heap[g3]? = some o3) ∧ Aside0 (W'.heap[g4]? = some o4) ∧ Aside0 (Below w.heap.size w W') := ⟨⟨blk_below h0 hb⟩, ⟨blk_below h1 hb⟩, ⟨blk_below h2 hb⟩, ⟨blk_below h3 hb⟩, ⟨blk_below h4 hb⟩, ⟨below_step hB hb⟩⟩
theorem bx0_ {w W W' : World} {g' : Nat} {o' : Obj}  (hB : Below w.heap.size w W) (hb : Below W.heap.size W W') (hbox : W'.heap[g']? = some o') (hg : g' = W.heap.size) : Aside0 (Below w.heap.size w W') ∧ Aside0 (W'.heap[g']? = some o') ∧ Aside0 (w.heap.size ≤ g') ∧ Aside0 (w.heap.size ≤ g') := ⟨⟨below_step hB hb⟩, ⟨hbox⟩, ⟨gb_ hg hB⟩, ⟨gb_ hg hB⟩⟩
theorem bx1_ {w W W' : World} {g' : Nat} {o' : Obj} {g0 : Nat} {o0 : Obj} (h0 : W.heap[g0]? = some o0) (hB : Below w.heap.size w W) (hb : Below W.heap.size W W') (hbox : W'.heap[g']? = some o') (hg : g' = W.heap.size) : Aside0 (W'.heap[g0]? = some o0) ∧ Aside0 (Below w.heap.size w W') ∧ Aside0 (W'.heap[g']? = some o') ∧ Aside0 (w.heap.size ≤ g') ∧ Aside0 (w.heap.size ≤ g') ∧ Aside0 (g0 ≠ g') ∧ Aside0 (g' ≠ g0) := ⟨⟨blk_below h0 hb⟩, ⟨below_step hB hb⟩, ⟨hbox⟩, ⟨gb_ hg hB⟩, ⟨gb_ hg hB⟩, ⟨ltne_ hg (blk_lt h0)⟩, ⟨gtne_ hg (blk_lt h0)⟩⟩
theorem bx2_ {w W W' : World} {g' : Nat} {o' : Obj} {g0 g1 : Nat} {o0 o1 : Obj} (h0 : W.heap[g0]? = some o0) (h1 : W.heap[g1]? = some o1) (hB : Below w.heap.size w W) (hb : Below W.heap.size W W') (hbox : W'.heap[g']? = some o') (hg : g' = W.heap.size) : Aside0 (W'.heap[g0]? = some o0) ∧ Aside0 (W'.heap[g1]? = some o1) ∧ Aside0 (Below w.heap.size w W') ∧ Aside0 (W'.heap[g']? = some o') ∧ Aside0 (w.heap.size ≤ g') ∧ Aside0 (w.heap.size ≤ g') ∧ Aside0 (g0 ≠ g') ∧ Aside0 (g' ≠ g0) ∧ Aside0 (g1 ≠ g') ∧ Aside0 (g' ≠ g1) := ⟨⟨blk_below h0 hb⟩, ⟨blk_below h1 hb⟩, ⟨below_step hB hb⟩, ⟨hbox⟩, ⟨gb_ hg hB⟩, ⟨gb_ hg hB⟩, ⟨ltne_ hg (blk_lt h0)⟩, ⟨gtne_ hg (blk_lt h0)⟩, ⟨ltne_ hg (blk_lt h1)⟩, ⟨gtne_ hg (blk_lt h1)⟩⟩
theorem bx3_ {w W W' : World} {g' : Nat} {o' : Obj} {g0 g1 g2 : Nat} {o0 o1 o2 : Obj} (h0 : W.heap[g0]? = some o0) (h1 : W.heap[g1]? = some o1) (h2 : W.heap[g2]? = some o2) (hB : Below w.heap.size w W) (hb : Below W.heap.size W W') (hbox : W'.heap[g']? = some o') (hg : g' = W.heap.size) : Aside0 (W'.heap[g0]? = some o0) ∧ Aside0 (W'.heap[g1]? = some o1) ∧ Aside0 (W'.heap[g2]? = some o2) ∧ Aside0 (Below w.heap.size w W') ∧ Aside0 (W'.heap[g']? = some o') ∧ Aside0 (w.heap.size ≤ g') ∧ Aside0 (w.heap.size ≤ g') ∧ Aside0 (g0 ≠ g') ∧ Aside0 (g' ≠ g0) ∧ Aside0 (g1 ≠ g') ∧ Aside0 (g' ≠ g1) ∧ Aside0 (g2 ≠ g') ∧ Aside0 (g' ≠ g2) := ⟨⟨blk_below h0 hb⟩, ⟨blk_below h1 hb⟩, ⟨blk_below h2 hb⟩, ⟨below_step hB hb⟩, ⟨hbox⟩, ⟨gb_ hg hB⟩, ⟨gb_ hg hB⟩, ⟨ltne_ hg (blk_lt h0)⟩, ⟨gtne_ hg (blk_lt h0)⟩, ⟨ltne_ hg (blk_lt h1)⟩, ⟨gtne_ hg (blk_lt h1)⟩, ⟨ltne_ hg (blk_lt h2)⟩, ⟨gtne_ hg (blk_lt h2)⟩⟩
theorem bx4_ {w W W' : World} {g' : Nat} {o' : Obj} {g0 g1 g2 g3 : Nat} {o0 o1 o2 o3 : Obj} (h0 : W.heap[g0]? = some o0) (h1 : W.heap[g1]? = some o1) (h2 : W.heap[g2]? = some o2) (h3 : W.heap[g3]? = some o3) (hB : Below w.heap.size w W) (hb : Below W.heap.size W W') (hbox : W'.heap[g']? = some o') (hg : g' = W.heap.size) : Aside0 (W'.heap[g0]? = some o0) ∧ Aside0 (W'.heap[g1]? = some o1) ∧ Aside0 (W'.heap[g2]? = some o2) ∧ Aside0 (W'.heap[g3]? = some o3) ∧ Aside0 (Below w.heap.size w W') ∧ Aside0 (W'.heap[g']? = some o') ∧ Aside0 (w.heap.size ≤ g') ∧ Aside0 (w.heap.size ≤ g') ∧ Aside0 (g0 ≠ g') ∧ Aside0 (g' ≠ g0) ∧ Aside0 (g1 ≠ g') ∧ Aside0 (g' ≠ g1) ∧ Aside0 (g2 ≠ g') ∧ Aside0 (g' ≠ g2) ∧ Aside0 (g3 ≠ g') ∧ Aside0 (g' ≠ g3) := ⟨⟨blk_below h0 hb⟩, ⟨blk_below h1 hb⟩, ⟨blk_below h2 hb⟩, ⟨blk_below h3 hb⟩, ⟨below_step hB hb⟩, ⟨hbox⟩, ⟨gb_ hg hB⟩, ⟨gb_ hg hB⟩, ⟨ltne_ hg (blk_lt h0)⟩, ⟨gtne_ hg (blk_lt h0)⟩, ⟨ltne_ hg (blk_lt h1)⟩, ⟨gtne_ hg (blk_lt h1)⟩, ⟨ltne_ hg (blk_lt h2)⟩, ⟨gtne_ hg (blk_lt h2)⟩, ⟨ltne_ hg (blk_lt h3)⟩, ⟨gtne_ hg (blk_lt h3)⟩⟩
theorem dw4_ {b : Nat} {w W : World} {g0 g1 g2 g3 : Nat} {o0 o1 o2 o3 : Obj} (h0 : Aside0 (W.heap[g0]? = some o0)) (h1 : Aside0 (W.heap[g1]? = some o1)) (h2 : Aside0 (W.heap[g2]? = some o2)) (h3 : Aside0 (W.heap[g3]? = some o3)) (hB : Aside0 (Below b w W)) : Aside0 (W.drew.heap[g0]? = some o0) ∧ Aside0 (W.drew.heap[g1]? = some o1) ∧ Aside0 (W.drew.heap[g2]? = some o2) ∧ Aside0 (W.drew.heap[g3]? = some o3) ∧ Aside0 (Below b w W.drew) := ⟨⟨blk_drew h0.out⟩, ⟨blk_drew h1.out⟩, ⟨blk_drew h2.out⟩, ⟨blk_drew h3.out⟩, ⟨below_drew1 hB.out⟩⟩
theorem bf3_ {w : World} {g : Nat} {t : TypeId} {cs : Array Value} (h : w.heap[g]? = some (.cells cs t (0, 0))) : w.frozen? ⟨g, 0, none⟩ = false ∧ w.frozen? ⟨g, 1, none⟩ = false ∧ w.frozen? ⟨g, 2, none⟩ = false := ⟨blk_frozen h 0, blk_frozen h 1, blk_frozen h 2⟩
section
variable {p : Prop}
theorem tq_0 (h : p := by (repeat (first | (with_reducible first | exact HK.out | apply Kept.alloc | apply Kept.drewN | apply Kept.drew) | exact HK.out))) : p := h
theorem tq_1 (h : p := by (first | (with_reducible assumption) | assumption)) : p := h
theorem tq_2 (h : p := by ((try simp only [List.map_toArray, List.map_cons, List.map_nil]); first | done | rfl | (simp only [List.length_drop, List.length_take]; rfl))) : p := h
theorem tq_3 (h : p := by (first | rfl | (simp [errW_none, errW_some] <;> rfl) | (simp [*, errW_none, errW_some] <;> rfl))) : p := h
theorem tq_4 (h : p := by (first | rfl | (simp; done) | (simp [*]; done))) : p := h
theorem tq_5 (h : p := by (repeat (first | exact (Kd.C_below HR0_0.out HB.out) | (with_reducible refine Kd.C_alloc ?_ _) | (with_reducible refine Kd.C_drewN ?_ _) | (with_reducible refine Kd.C_drew ?_)))) : p := h
theorem tq_6 (h : p := by (repeat (first | exact Drawn0.refl _ | apply Drawn0.step))) : p := h
theorem tq_7 (h : p := by exact (Reps.c3 (show Kd.M k36 _ _ _ (⟨x135000_35, ((rd_T36 l0_0 x8_1).f1), ((rd_T36 l0_0 x8_1).f2)⟩ : S36) [.string x135000_35, .bool ((rd_T36 l0_0 x8_1).f1), .string ((rd_T36 l0_0 x8_1).f2)] from (k36_mkM _ _ _ (⟨x135000_35, ((rd_T36 l0_0 x8_1).f1), ((rd_T36 l0_0 x8_1).f2)⟩ : S36) )) (Reps.none _ _))) : p := h
theorem tq_8 (h : p := by (repeat (first | (with_reducible first | exact HB.out | apply below_alloc | apply pw_below_drewN | apply below_drew1) | exact HB.out))) : p := h
theorem tq_9 (h : p := by (repeat (first | (with_reducible exact HR168.out) | (with_reducible refine Kd.C_alloc ?_ _) | (with_reducible refine Kd.C_drewN ?_ _) | (with_reducible refine Kd.C_drew ?_) | exact HR168.out))) : p := h
theorem tq_10 (h : p := by (repeat (first | (with_reducible exact HR145.out) | (with_reducible refine Kd.C_alloc ?_ _) | (with_reducible refine Kd.C_drewN ?_ _) | (with_reducible refine Kd.C_drew ?_) | exact HR145.out))) : p := h
theorem tq_11 (h : p := by exact (fun k_ hk => ⟨Kd.fresh' (Kd.R_lt (raR_ HO_133000)) k_ hk, Kd.fresh' (Kd.R_lt (raR_ HO174)) k_ hk, Kd.freshB (g := gb134) (o := .cells #[.string x135000_35, .bool ((rd_T36 l0_0 x8_1).f1), .string ((rd_T36 l0_0 x8_1).f2)] 36 (0, 0)) (kb_ BK134) k_ hk⟩)) : p := h
theorem tq_12 (h : p := by exact (fun k_ hk => ⟨Kd.fresh' (Kd.R_lt (raR_ HO_133000)) k_ hk, Kd.fresh' (Kd.R_lt (raR_ HO151)) k_ hk, Kd.freshB (g := gb134) (o := .cells #[.string x135000_35, .bool ((rd_T36 l0_0 x8_1).f1), .string ((rd_T36 l0_0 x8_1).f2)] 36 (0, 0)) (kb_ BK134) k_ hk⟩)) : p := h
theorem tq_13 (h : p := by simp only [putAll, Act.put, List.setIfInBounds_toArray, List.set_cons_zero, List.set_cons_succ]) : p := h
theorem tq_14 (h : p := by ((with_reducible repeat (first | apply Kd.R_alloc | apply Kd.R_drewN | apply Kd.R_drew)); exact Kd.R_mono HO_133000.out (fun _ hk => ⟨⟨hk.2, hk.1.1⟩, hk.1.2⟩))) : p := h
theorem tq_15 (h : p := by ((with_reducible repeat (first | apply Kd.R_alloc | apply Kd.R_drewN | apply Kd.R_drew)); exact Kd.R_mono HO_133000.out (fun _ hk => ⟨⟨hk.1.2, hk.1.1⟩, hk.2⟩))) : p := h
theorem tq_16 (h : p := by ((with_reducible repeat (first | apply Kd.R_alloc | apply Kd.R_drewN | apply Kd.R_drew)); exact Kd.R_mono HO_133000.out (fun _ hk => ⟨hk.2, ⟨hk.1.1, hk.1.2⟩⟩))) : p := h
theorem tq_17 (h : p := by (first | omega | exact Nat.le_refl _)) : p := h
theorem tq_18 (h : p := by (first | exact Kd.R_nil _ _ _ _ _ | exact Kd.N_nil _ _ _ _ _ | exact Kd.V_nil _ _ _ _ _ | exact Kd.Q_nil _ _ _ _ _ | exact Kd.S_nil _ _ _ _ _)) : p := h
theorem tq_19 (h : p := by ((try simp only [hl289000_1]); (with_reducible repeat (first | refine blk_drewN ?_ _ | refine blk_drew ?_ | refine blk_alloc ?_ _)); refine blk_far ?_ (by have h_ := Kd.R_ne HO_289000.out BK288.out (by decide); intro e_; exact h_ (by rw [e_]; rfl)) _; (with_reducible repeat (first | refine blk_drewN ?_ _ | refine blk_drew ?_ | refine blk_alloc ?_ _)); exact BK288.out)) : p := h
theorem tq_20 (h : p := by ((try simp only [hl289000_1]); (with_reducible repeat (first | refine blk_drewN ?_ _ | refine blk_drew ?_ | refine blk_alloc ?_ _)); refine blk_far ?_ (by have h_ := Kd.R_ne HO_289000.out BK284.out (by decide); intro e_; exact h_ (by rw [e_]; rfl)) _; (with_reducible repeat (first | refine blk_drewN ?_ _ | refine blk_drew ?_ | refine blk_alloc ?_ _)); exact BK284.out)) : p := h
theorem tq_21 (h : p := by ((try simp only [hl289000_1]); (with_reducible repeat (first | refine blk_drewN ?_ _ | refine blk_drew ?_ | refine blk_alloc ?_ _)); refine blk_far ?_ (by have h_ := Kd.R_ne HO_289000.out BK283.out (by decide); intro e_; exact h_ (by rw [e_]; rfl)) _; (with_reducible repeat (first | refine blk_drewN ?_ _ | refine blk_drew ?_ | refine blk_alloc ?_ _)); exact BK283.out)) : p := h
theorem tq_22 (h : p := by (have := HK1.out; omega)) : p := h
theorem tq_23 (h : p := by ((with_reducible repeat (first | apply Kd.R_alloc | apply Kd.R_drewN | apply Kd.R_drew)); exact (Kd.R_mono (rR_ (Kd.R_types HO336.out BK337.out (by decide))) (fun _ h_ => h_.1)))) : p := h
theorem tq_24 (h : p := by ((with_reducible repeat (first | apply Kd.R_alloc | apply Kd.R_drewN | apply Kd.R_drew)); exact Kd.R_mono HO171.out (fun _ hk => ⟨hk.2.1, ⟨hk.1, hk.2.2⟩⟩))) : p := h
theorem tq_25 (h : p := by ((with_reducible repeat (first | apply Kd.R_alloc | apply Kd.R_drewN | apply Kd.R_drew)); exact Kd.R_mono HO148.out (fun _ hk => ⟨hk.2.1, ⟨hk.1, hk.2.2⟩⟩))) : p := h
theorem tq_26 (h : p := by ((try simp only [hl0_2]); (try simp only [hl0_3]); (with_reducible repeat (first | apply Kd.R_alloc | apply Kd.R_drewN | apply Kd.R_drew)); exact HO_0.out)) : p := h
theorem tq_27 (h : p := by (have := HJ55.out; have := HK2.out; have := HJ70.out; have := HJ72.out; have := HJ77.out; omega)) : p := h
theorem tq_28 (h : p := by (repeat (first | exact tq_10 | (with_reducible refine Kd.C_alloc ?_ _) | (with_reducible refine Kd.C_drewN ?_ _) | (with_reducible refine Kd.C_drew ?_)))) : p := h
theorem tq_29 (h : p := by (repeat (first | exact tq_9 | (with_reducible refine Kd.C_alloc ?_ _) | (with_reducible refine Kd.C_drewN ?_ _) | (with_reducible refine Kd.C_drew ?_)))) : p := h
theorem tq_30 (h : p := by ((with_reducible repeat (first | apply Kd.R_alloc | apply Kd.R_drewN | apply Kd.R_drew)); exact Kd.R_mono HO_4.out (fun _ hk => trivial))) : p := h
theorem tq_31 (h : p := by ((with_reducible repeat (first | apply Kd.R_alloc | apply Kd.R_drewN | apply Kd.R_drew)); exact Kd.R_mono HO127.out (fun _ hk => hk.2))) : p := h
theorem tq_32 (h : p := by ((with_reducible repeat (first | apply Kd.R_alloc | apply Kd.R_drewN | apply Kd.R_drew)); exact Kd.R_mono HO123.out (fun _ hk => hk.2))) : p := h
theorem tq_33 (h : p := by ((with_reducible repeat (first | apply Kd.R_alloc | apply Kd.R_drewN | apply Kd.R_drew)); exact Kd.R_mono HO_4.out (fun _ hk => hk.2))) : p := h
theorem tq_34 (h : p := by (repeat (first | (with_reducible first | exact HB.out | apply below_alloc | apply pw_below_drewN | apply below_drew1 | refine below_set ?_ GE325.out | refine below_set ?_ GE333.out | refine below_set ?_ GE337.out | refine below_set ?_ GE341.out) | exact HB.out))) : p := h
theorem tq_35 (h : p := by ((try simp only [List.map_toArray, List.map_cons, List.map_nil]); first | done | (rw [show t351.length = t338.length from (Kd.R_reads' HO_342000.out).1.symm] <;> rfl) | rfl | (simp only [List.length_drop, List.length_take]; rfl))) : p := h
theorem tq_36 (h : p := by exact (fun k_ hk => ⟨Kd.fresh' (Kd.R_lt (raR_ HO_133000)) k_ hk, Kd.freshB (g := gb134) (o := .cells #[.string x135000_35, .bool ((rd_T36 l0_0 x8_1).f1), .string ((rd_T36 l0_0 x8_1).f2)] 36 (0, 0)) (kb_ BK134) k_ hk⟩)) : p := h
theorem tq_37 (h : p := by ((with_reducible repeat (first | apply Kd.R_alloc | apply Kd.R_drewN | apply Kd.R_drew)); exact (Kd.R_mono (rR_ (Kd.R_types HO_334000.out BK359.out (by decide))) (fun _ h_ => h_.1)))) : p := h
theorem tq_38 (h : p := by ((with_reducible repeat (first | apply Kd.R_alloc | apply Kd.R_drewN | apply Kd.R_drew)); exact (Kd.R_mono (rR_ (Kd.R_types HO358.out BK359.out (by decide))) (fun _ h_ => h_.1)))) : p := h
theorem tq_39 (h : p := by ((with_reducible repeat (first | apply Kd.R_alloc | apply Kd.R_drewN | apply Kd.R_drew)); exact (Kd.R_mono (rR_ (Kd.R_types HO340.out BK341.out (by decide))) (fun _ h_ => h_.1)))) : p := h
theorem tq_40 (h : p := by ((with_reducible repeat (first | apply Kd.R_alloc | apply Kd.R_drewN | apply Kd.R_drew)); exact (Kd.R_mono (rR_ (Kd.R_types HO332.out BK341.out (by decide))) (fun _ h_ => h_.1)))) : p := h
theorem tq_41 (h : p := by ((with_reducible repeat (first | apply Kd.R_alloc | apply Kd.R_drewN | apply Kd.R_drew)); exact (Kd.R_mono (rR_ (Kd.R_types HO332.out BK337.out (by decide))) (fun _ h_ => h_.1)))) : p := h
theorem tq_42 (h : p := by ((with_reducible repeat (first | apply Kd.R_alloc | apply Kd.R_drewN | apply Kd.R_drew)); exact (Kd.R_mono (rR_ (Kd.R_types HO332.out BK333.out (by decide))) (fun _ h_ => h_.1)))) : p := h
theorem tq_43 (h : p := by ((with_reducible repeat (first | apply Kd.R_alloc | apply Kd.R_drewN | apply Kd.R_drew)); exact (Kd.R_mono (rR_ (Kd.R_types HO329.out BK337.out (by decide))) (fun _ h_ => h_.1)))) : p := h
theorem tq_44 (h : p := by ((with_reducible repeat (first | apply Kd.R_alloc | apply Kd.R_drewN | apply Kd.R_drew)); exact (Kd.R_mono (rR_ (Kd.R_types HO329.out BK333.out (by decide))) (fun _ h_ => h_.1)))) : p := h
theorem tq_45 (h : p := by (repeat (first | (with_reducible first | exact HK.out | apply Kept.alloc | apply Kept.drewN | apply Kept.drew | refine Kept.setCell ?_ (.inr GW315.out) _) | exact HK.out))) : p := h
theorem tq_46 (h : p := by (repeat (first | exact (Kd.R_reads' HO_342000.out).2.2 | (with_reducible refine Kd.C_alloc ?_ _) | (with_reducible refine Kd.C_drewN ?_ _) | (with_reducible refine Kd.C_drew ?_)))) : p := h
theorem tq_47 (h : p := by ((with_reducible repeat (first | apply Kd.R_alloc | apply Kd.R_drewN | apply Kd.R_drew)); exact Kd.R_mono HO_133000.out (fun _ hk => ⟨⟨hk.2.1, hk.2.2⟩, hk.1⟩))) : p := h
theorem tq_48 (h : p := by ((with_reducible repeat (first | apply Kd.R_alloc | apply Kd.R_drewN | apply Kd.R_drew)); exact Kd.R_mono HO_133000.out (fun _ hk => ⟨hk.1.2, ⟨hk.2, hk.1.1⟩⟩))) : p := h
theorem tq_49 (h : p := by ((with_reducible repeat (first | apply Kd.R_alloc | apply Kd.R_drewN | apply Kd.R_drew)); exact Kd.R_mono HO174.out (fun _ hk => ⟨hk.2, ⟨hk.1.1, hk.1.2⟩⟩))) : p := h
theorem tq_50 (h : p := by ((with_reducible repeat (first | apply Kd.R_alloc | apply Kd.R_drewN | apply Kd.R_drew)); exact Kd.R_mono HO151.out (fun _ hk => ⟨hk.2, ⟨hk.1.1, hk.1.2⟩⟩))) : p := h
theorem tq_51 (h : p := by (have := HK1.out; have := HK2.out; omega)) : p := h
theorem tq_52 (h : p := by (have := HK1.out; have := HJ15.out; have := HJ35.out; have := HK4.out; omega)) : p := h
theorem tq_53 (h : p := by ((with_reducible repeat (first | apply Kd.R_alloc | apply Kd.R_drewN | apply Kd.R_drew)); exact Kd.R_mono HO_4.out (fun _ hk => ⟨trivial, hk⟩))) : p := h
theorem mo_0 (h : p := by (repeat' first | (with_reducible exact ih0 ..) | (with_reducible exact LeO.refl _) | (with_reducible exact LeO.none _) | (with_reducible refine LeO.ite ?_ ?_) | (with_reducible refine LeO.bind ?_ (fun _ => ?_)) | exact ih0 .. | exact LeO.none _ | refine LeO.ite ?_ ?_ | refine LeO.bind ?_ (fun _ => ?_))) : p := h
theorem mo_1 (h : p := by (repeat' first | (with_reducible exact ih0 ..) | (with_reducible exact ih1 ..) | (with_reducible exact ih2 ..) | (with_reducible exact ih3 ..) | (with_reducible exact LeO.refl _) | (with_reducible exact LeO.none _) | (with_reducible refine LeO.ite ?_ ?_) | (with_reducible refine LeO.bind ?_ (fun _ => ?_)) | exact ih0 .. | exact ih1 .. | exact ih2 .. | exact ih3 .. | exact LeO.none _ | refine LeO.ite ?_ ?_ | refine LeO.bind ?_ (fun _ => ?_))) : p := h
theorem mo_2 (h : p := by (repeat' first | (with_reducible exact ih0 ..) | (with_reducible exact ih1 ..) | (with_reducible exact spec_SplitPath.mono ..) | (with_reducible exact LeO.refl _) | (with_reducible exact LeO.none _) | (with_reducible refine LeO.ite ?_ ?_) | (with_reducible refine LeO.bind ?_ (fun _ => ?_)) | exact ih0 .. | exact ih1 .. | exact spec_SplitPath.mono .. | exact LeO.none _ | refine LeO.ite ?_ ?_ | refine LeO.bind ?_ (fun _ => ?_))) : p := h
theorem mo_3 (h : p := by (repeat' first | (with_reducible exact ih0 ..) | (with_reducible exact ih1 ..) | (with_reducible exact ih2 ..) | (with_reducible exact ih3 ..) | (with_reducible exact spec_IsUnder.mono ..) | (with_reducible exact LeO.refl _) | (with_reducible exact LeO.none _) | (with_reducible refine LeO.ite ?_ ?_) | (with_reducible refine LeO.bind ?_ (fun _ => ?_)) | exact ih0 .. | exact ih1 .. | exact ih2 .. | exact ih3 .. | exact spec_IsUnder.mono .. | exact LeO.none _ | refine LeO.ite ?_ ?_ | refine LeO.bind ?_ (fun _ => ?_))) : p := h
theorem mo_4 (h : p := by (repeat' first | (with_reducible exact ih0 ..) | (with_reducible exact ih1 ..) | (with_reducible exact LeO.refl _) | (with_reducible exact LeO.none _) | (with_reducible refine LeO.ite ?_ ?_) | (with_reducible refine LeO.bind ?_ (fun _ => ?_)) | exact ih0 .. | exact ih1 .. | exact LeO.none _ | refine LeO.ite ?_ ?_ | refine LeO.bind ?_ (fun _ => ?_))) : p := h
theorem mo_5 (h : p := by (repeat' first | (with_reducible exact ih0 ..) | (with_reducible exact ih1 ..) | (with_reducible exact ih2 ..) | (with_reducible exact ih3 ..) | (with_reducible exact ih4 ..) | (with_reducible exact ih5 ..) | (with_reducible exact ih6 ..) | (with_reducible exact ih7 ..) | (with_reducible exact ih8 ..) | (with_reducible exact ih9 ..) | (with_reducible exact slices_rotateCmpFunc_Item.mono ..) | (with_reducible exact LeO.refl _) | (with_reducible exact LeO.none _) | (with_reducible refine LeO.ite ?_ ?_) | (with_reducible refine LeO.bind ?_ (fun _ => ?_)) | exact ih0 .. | exact ih1 .. | exact ih2 .. | exact ih3 .. | exact ih4 .. | exact ih5 .. | exact ih6 .. | exact ih7 .. | exact ih8 .. | exact ih9 .. | exact slices_rotateCmpFunc_Item.mono .. | exact LeO.none _ | refine LeO.ite ?_ ?_ | refine LeO.bind ?_ (fun _ => ?_))) : p := h
theorem mo_6 (h : p := by (repeat' first | (with_reducible exact ih0 ..) | (with_reducible exact ih1 ..) | (with_reducible exact ih2 ..) | (with_reducible exact slices_insertionSortCmpFunc_Item.mono ..) | (with_reducible exact slices_symMergeCmpFunc_Item.mono ..) | (with_reducible exact LeO.refl _) | (with_reducible exact LeO.none _) | (with_reducible refine LeO.ite ?_ ?_) | (with_reducible refine LeO.bind ?_ (fun _ => ?_)) | exact ih0 .. | exact ih1 .. | exact ih2 .. | exact slices_insertionSortCmpFunc_Item.mono .. | exact slices_symMergeCmpFunc_Item.mono .. | exact LeO.none _ | refine LeO.ite ?_ ?_ | refine LeO.bind ?_ (fun _ => ?_))) : p := h
theorem mo_7 (h : p := by (repeat' first | (with_reducible exact ih0 ..) | (with_reducible exact laws_markText.mono ..) | (with_reducible exact LeO.refl _) | (with_reducible exact LeO.none _) | (with_reducible refine LeO.ite ?_ ?_) | (with_reducible refine LeO.bind ?_ (fun _ => ?_)) | exact ih0 .. | exact laws_markText.mono .. | exact LeO.none _ | refine LeO.ite ?_ ?_ | refine LeO.bind ?_ (fun _ => ?_))) : p := h
end

end Go.Proofs.YtmddplifammohaaDoor.PFnExactMovedItems
