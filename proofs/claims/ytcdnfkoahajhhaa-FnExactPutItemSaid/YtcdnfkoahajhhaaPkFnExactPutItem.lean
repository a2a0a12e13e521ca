/- What the printed texts of this law say often, told once: arrays of Bools, and lemmas whose argument a tactic fills in. Conditions: none. -/
import Derived.Test.YtcdnfkoahajhhaaProg
import Derived.Below
import Derived.Deep.Draws
import Derived.Deep.AppendLies
import Derived.Maps.AppendAt
import Derived.OwnWalk
import Derived.Laws.BytesArg
import Derived.Laws.MakeOwn
import Derived.Laws.OwnMore
import Derived.Deep.OwnRows
import Derived.Tactics
import Derived.Lib.ConvBytes
import Derived.Laws.Slices
import Derived.WalkKit
import Derived.KernelRfl
import Derived.RowKit3
import Derived.Deep.LoopGhost
import Derived.Deep.QuietTactic
import Derived.BigQuiet
import Derived.WideLaws
import Derived.Deep.DeepCutAuto
import Derived.Deep.CutBlock
import Derived.Deep.RegionHeld3
import Derived.Laws.Rows
import Derived.Lib.AppendStr
import Derived.ArgAppend
import Derived.Laws.IdiomCopy
import Derived.OrdersHeld
import Derived.Laws.BitsLemmas
import Derived.RowKit
import Derived.Lib.SliceRun
import Derived.Shelf.SlicesQ.IndexFunc
import Derived.Laws.Cover1
import Derived.Test.YtcdnfkoahajhhaaFlat
import Derived.Shelf.Spec.SlicesInsert
import Derived.Lib.AppendZerosOnto
import Derived.Laws.NewBlocks
import Derived.Test.YtcdnfkoahajhhaaWWords
import Derived.Test.YtcdnfkoahajhhaaWLast
import Derived.Test.YtcdnfkoahajhhaaWTab
import Derived.Test.YtcdnfkoahajhhaaWFour
import Derived.Test.YtcdnfkoahajhhaaWQPut
import Derived.Test.YtcdnfkoahajhhaaWApart
import Derived.Test.YtcdnfkoahajhhaaWArr
import Derived.Test.YtcdnfkoahajhhaaWZeros
import Derived.Test.YtcdnfkoahajhhaaWFoot
import Derived.Test.YtcdnfkoahajhhaaWKept
import Derived.Test.YtcdnfkoahajhhaaWShare
import Derived.Test.YtcdnfkoahajhhaaWN
import Derived.Test.YtcdnfkoahajhhaaWFootNe
import Derived.Test.YtcdnfkoahajhhaaWAt
import Derived.Test.YtcdnfkoahajhhaaWEqStruct
import Derived.Test.YtcdnfkoahajhhaaWRepsOne
import Derived.Test.YtcdnfkoahajhhaaWInv
import Derived.Test.YtcdnfkoahajhhaaWInvWords
import Derived.Test.YtcdnfkoahajhhaaWGuard
import Derived.Test.YtcdnfkoahajhhaaWNEv
import Derived.Test.YtcdnfkoahajhhaaWMore
namespace Go.Proofs.Ytcdnfkoahajhhaa.PFnExactPutItem
open Go.RowKit Go.Proofs.YtcdnfkoahajhhaaW.PrintWords Go.Proofs.YtcdnfkoahajhhaaW.PrintLast Go.Proofs.YtcdnfkoahajhhaaW.PrintMore
set_option linter.unusedVariables false

abbrev bq_0 : Array Bool := #[true, true, true, true, true, true, false]
abbrev bq_1 : Array Bool := #[false, false, false, false, false, false, false, false]
abbrev bq_2 : Array Bool := #[true, false, false, false, false, false, false, false]
abbrev bq_3 : Array Bool := #[true, true, false, false, false, false, false, false]
abbrev bq_4 : Array Bool := #[true, true, true, false, false, false, false, false]
abbrev bq_5 : Array Bool := #[true, true, true, true, false, false, false, false]
abbrev bq_6 : Array Bool := #[true, true, true, true, false, true, false, false]
abbrev bq_7 : Array Bool := #[true, true, true, true, true, true, false, false]
abbrev bq_8 : Array Bool := #[true, true, true, true, true, true, true, false]
abbrev bq_9 : Array Bool := #[true, true, true, true, true, true, true, true]
abbrev bq_10 : Array Bool := #[true, true, true, true, false, true, false]
abbrev bq_11 : Array Bool := #[false, false, false, false, false, false, false, false, false]
abbrev bq_12 : Array Bool := #[true, false, false, false, false, false, false, false, false]
abbrev bq_13 : Array Bool := #[true, false, true, false, false, false, false, false, false]
abbrev bq_14 : Array Bool := #[true, false, true, false, false, false, true, false, false]
abbrev bq_15 : Array Bool := #[true, true, true, false, false, false, true, false, false]
abbrev bq_16 : Array Bool := #[true, true, true, true, false, false, true, false, false]
abbrev bq_17 : Array Bool := #[true, true, true, true, true, false, true, false, false]
abbrev bq_18 : Array Bool := #[true, true, true, true, true, true, true, false, false]
abbrev bq_19 : Array Bool := #[true, true, true, true, true, true, true, true, false]
abbrev bq_20 : Array Bool := #[true, true, true, true, true, true, true, true, true]
abbrev bq_21 : Array Bool := #[true, true, true, false, false, true, false]
abbrev bq_22 : Array Bool := #[true, true, true, true, true, false]
abbrev bq_23 : Array Bool := #[false, false, false, false, false, false, false, false, false, false]
abbrev bq_24 : Array Bool := #[true, false, false, false, false, false, false, false, false, false]
abbrev bq_25 : Array Bool := #[true, true, false, false, false, false, false, false, false, false]
abbrev bq_26 : Array Bool := #[true, true, true, false, false, false, false, false, false, false]
abbrev bq_27 : Array Bool := #[true, true, true, false, true, false, false, false, false, false]
abbrev bq_28 : Array Bool := #[true, true, true, false, true, true, false, false, false, false]
abbrev bq_29 : Array Bool := #[true, true, true, false, true, true, true, false, false, false]
abbrev bq_30 : Array Bool := #[true, true, true, true, true, true, true, false, false, false]
abbrev bq_31 : Array Bool := #[true, true, true, true, true, true, true, true, false, false]
abbrev bq_32 : Array Bool := #[true, true, true, true, true, true, true, true, true, false]
abbrev bq_33 : Array Bool := #[true, true, true, true, true, true, true, true, true, true]
abbrev bq_34 : Array Bool := #[false, false, false, false, false, false, false, false, false, false, false, false, false]
abbrev bq_35 : Array Bool := #[true, false, false, false, false, false, false, false, false, false, false, false, false]
abbrev bq_36 : Array Bool := #[true, true, false, false, false, false, false, false, false, false, false, false, false]
abbrev bq_37 : Array Bool := #[true, true, true, false, false, false, false, false, false, false, false, false, false]
abbrev bq_38 : Array Bool := #[true, true, true, true, false, false, false, false, false, false, false, false, false]
abbrev bq_39 : Array Bool := #[true, true, true, true, true, true, true, true, true, true, false, false, false]
abbrev bq_40 : Array Bool := #[true, true, true, true, true, true, true, true, true, true, true, false, false]
abbrev bq_41 : Array Bool := #[true, true, true, true, true, true, true, true, true, true, true, true, false]
abbrev bq_42 : Array Bool := #[true, true, true, true, true, true, true, true, true, true, true, true, true]
abbrev bq_43 : Array Bool := #[false, false, false, false, false, false, false, false, false, false, false]
abbrev bq_44 : Array Bool := #[true, false, false, false, false, false, false, false, false, false, false]
abbrev bq_45 : Array Bool := #[true, false, true, false, false, false, false, false, false, false, false]
abbrev bq_46 : Array Bool := #[true, false, true, false, true, false, false, false, false, false, false]
abbrev bq_47 : Array Bool := #[true, true, true, false, true, false, false, false, false, false, false]
abbrev bq_48 : Array Bool := #[true, true, true, true, true, false, false, false, false, false, false]
abbrev bq_49 : Array Bool := #[true, true, true, true, true, true, false, false, false, false, false]
abbrev bq_50 : Array Bool := #[true, true, true, true, true, true, true, false, false, false, false]
abbrev bq_51 : Array Bool := #[true, true, true, true, true, true, true, true, false, false, false]
abbrev bq_52 : Array Bool := #[true, true, true, true, true, true, true, true, true, false, false]
abbrev bq_53 : Array Bool := #[true, true, true, true, true, true, true, true, true, true, false]
abbrev bq_54 : Array Bool := #[true, true, true, true, true, true, true, true, true, true, true]
section
variable {P : Program} {ops : Array Oper} {Q : Exit → Act → World → Prop} {md : Region.Mode} {S : World → Prop} {ds : List Nat}
theorem yq_ {i : Nat} {N : Option Tmp} {oi : Oper} {v : Value} {fuel : Nat} {l : Array Bool} {a : Act} {w : World} (l' : Array Bool) (hc : anyB md ops l l' i = true) {a' : Act}
 (h : wpAnyLast P md ops Q S ds fuel l' a' w) (hi : ops[i]? = some oi := by rfl) (hN : oi.dst = N := by rfl) (hQ : ∀ c a w, Q (.panic c) (a.put oi.dst v) w → Q (.panic c) a w := by exact fun _ _ _ h => h)
 (h1 : Region.wanted oi (yielded ops a.tmps) = true := by rfl) (h2 : ∀ w', (execOp a.eval oi).run P w' = .ok (.value v) w' := by (intro w'; go_simp; with_reducible rfl))
 (ha : a.put N v = a' := by (simp only [Act.put, List.setIfInBounds_toArray, List.set_cons_zero, List.set_cons_succ, i64_w, i32_w]; rfl)) : wpAnyLast P md ops Q S ds (fuel + 1) l a w :=
 pure_ l' hi hN hc hQ (Or.inl ⟨h1, h2⟩) ha h
theorem uq_ {i : Nat} {N : Option Tmp} {oi : Oper} {fuel : Nat} {l : Array Bool} {a : Act} {w : World} (l' : Array Bool) (hc : anyB md ops l l' i = true) {a' : Act}
 (h : wpAnyLast P md ops Q S ds fuel l' a' w) (hi : ops[i]? = some oi := by rfl) (hN : oi.dst = N := by rfl) (hQ : ∀ c a w, Q (.panic c) (a.put oi.dst undef) w → Q (.panic c) a w := by exact fun _ _ _ h => h)
 (h1 : Region.wanted oi (yielded ops a.tmps) = false := by rfl)
 (ha : a.put N undef = a' := by (simp only [Act.put, List.setIfInBounds_toArray, List.set_cons_zero, List.set_cons_succ, i64_w, i32_w]; rfl)) : wpAnyLast P md ops Q S ds (fuel + 1) l a w :=
 pure_ (v := undef) l' hi hN hc hQ (Or.inr ⟨h1, rfl⟩) ha h
end

theorem bc_ {w : World} {g : Nat} {t : TypeId} {cs : Array Value} (h : w.heap[g]? = some (.cells cs t (0, 0))) (i : Nat) {v : Value} (e : cs[i]? = some v := by rfl) : w.cell? ⟨g, i, none⟩ = some v := (blk_cell h i).trans e
theorem hx_ {w w' : World} {p : Addr} {v : Value} (hB : Below w.heap.size w w') (h : w.cell? p = some v) : w'.cell? p = some v := (hB.cell (World.block_lt_of_cell? w _ h)).trans h
theorem ltne_ {g g' : Nat} {W : World} (hg : g' = W.heap.size) (h : g < W.heap.size) : g ≠ g' := by rw [hg]; exact Nat.ne_of_lt h
theorem gtne_ {g g' : Nat} {W : World} (hg : g' = W.heap.size) (h : g < W.heap.size) : g' ≠ g := by rw [hg]; exact Nat.ne_of_gt h
theorem gb_ {w W : World} {g : Nat} (hg : g = W.heap.size) (h : Below w.heap.size w W) : w.heap.size ≤ g := by rw [hg]; exact below_size h
theorem tq_0 {p : Prop} (h : p := by (repeat (first | (with_reducible first | exact HB.out | apply below_alloc | apply pw_below_drewN | apply below_drew1) | exact HB.out))) : p := h
theorem tq_1 {p : Prop} (h : p := by ((with_reducible repeat (first | refine blk_drewN ?_ _ | refine blk_drew ?_ | refine blk_alloc ?_ _)); exact BK199.out)) : p := h
theorem tq_2 {p : Prop} (h : p := by ((with_reducible repeat (first | refine blk_drewN ?_ _ | refine blk_drew ?_ | refine blk_alloc ?_ _)); exact BK200.out)) : p := h
theorem tq_3 {p : Prop} (h : p := by (repeat (first | (with_reducible first | exact HB.out | apply below_alloc | apply pw_below_drewN | apply below_drew1 | refine below_set ?_ GE199.out | refine below_set ?_ GE200.out | refine below_set ?_ GE212.out | refine below_set ?_ GE216.out | refine below_set ?_ GE223.out) | exact HB.out))) : p := h
theorem tq_4 {p : Prop} (h : p := by ((try simp only [List.map_toArray, List.map_cons, List.map_nil]); first | done | rfl | (simp only [List.length_drop, List.length_take]; rfl))) : p := h
theorem tq_5 {p : Prop} (h : p := by ((with_reducible repeat (first | refine blk_drewN ?_ _ | refine blk_drew ?_ | refine blk_alloc ?_ _)); exact BK212.out)) : p := h
theorem tq_6 {p : Prop} (h : p := by ((with_reducible repeat (first | refine blk_drewN ?_ _ | refine blk_drew ?_ | refine blk_alloc ?_ _)); exact BK216.out)) : p := h
theorem tq_7 {p : Prop} (h : p := by (repeat (first | (with_reducible first | exact HB.out | apply below_alloc | apply pw_below_drewN | apply below_drew1 | refine below_set ?_ GE199.out | refine below_set ?_ GE200.out | refine below_set ?_ GE212.out | refine below_set ?_ GE216.out | refine below_set ?_ GE223.out | refine below_set ?_ GE244.out) | exact HB.out))) : p := h
theorem tq_8 {p : Prop} (h : p := by ((with_reducible repeat (first | refine blk_drewN ?_ _ | refine blk_drew ?_ | refine blk_alloc ?_ _)); exact BK223.out)) : p := h
theorem tq_9 {p : Prop} (h : p := by (repeat (first | (with_reducible first | exact HB.out | apply below_alloc | apply pw_below_drewN | apply below_drew1 | refine below_set ?_ GE199.out | refine below_set ?_ GE200.out | refine below_set ?_ GE212.out) | exact HB.out))) : p := h
theorem tq_10 {p : Prop} (h : p := by (repeat (first | (with_reducible first | exact HB.out | apply below_alloc | apply pw_below_drewN | apply below_drew1 | refine below_set ?_ GE199.out | refine below_set ?_ GE200.out) | exact HB.out))) : p := h
theorem tq_11 {p : Prop} (h : p := by (first | (with_reducible assumption) | assumption)) : p := h
theorem tq_12 {p : Prop} (h : p := by (repeat (first | (with_reducible first | exact HB.out | apply below_alloc | apply pw_below_drewN | apply below_drew1 | refine below_set ?_ GE199.out | refine below_set ?_ GE200.out | refine below_set ?_ GE212.out | refine below_set ?_ GE216.out) | exact HB.out))) : p := h
theorem tq_13 {p : Prop} (h : p := by ((with_reducible repeat (first | apply Kd.R_alloc | apply Kd.R_drewN | apply Kd.R_drew)); exact HO_224000.out)) : p := h
theorem tq_14 {p : Prop} (h : p := by ((with_reducible repeat (first | apply Kd.R_alloc | apply Kd.R_drewN | apply Kd.R_drew)); exact HO_217000.out)) : p := h
theorem tq_15 {p : Prop} (h : p := by ((with_reducible repeat (first | apply Kd.R_alloc | apply Kd.R_drewN | apply Kd.R_drew)); exact HO_213000.out)) : p := h
theorem tq_16 {p : Prop} (h : p := by ((with_reducible repeat (first | refine blk_drewN ?_ _ | refine blk_drew ?_ | refine blk_alloc ?_ _)); exact BK180.out)) : p := h
theorem tq_17 {p : Prop} (h : p := by ((with_reducible repeat (first | refine blk_drewN ?_ _ | refine blk_drew ?_ | refine blk_alloc ?_ _)); exact BK179.out)) : p := h
theorem tq_18 {p : Prop} (h : p := by ((with_reducible repeat (first | apply Kd.R_alloc | apply Kd.R_drewN | apply Kd.R_drew)); exact HO205.out)) : p := h
theorem tq_19 {p : Prop} (h : p := by (repeat (first | exact (Kd.C_below HR0_0.out HB.out) | (with_reducible refine Kd.C_alloc ?_ _) | (with_reducible refine Kd.C_drewN ?_ _) | (with_reducible refine Kd.C_drew ?_)))) : p := h
theorem tq_20 {p : Prop} (h : p := by (repeat (first | (with_reducible first | exact HB.out | apply below_alloc | apply pw_below_drewN | apply below_drew1 | refine below_set ?_ GE149.out | refine below_set ?_ GE150.out | refine below_set ?_ GE151.out | refine below_set ?_ GE152.out) | exact HB.out))) : p := h
theorem tq_21 {p : Prop} (h : p := by (repeat (first | (with_reducible first | exact HB.out | apply below_alloc | apply pw_below_drewN | apply below_drew1 | refine below_set ?_ GE179.out | refine below_set ?_ GE180.out | refine below_set ?_ GE181.out) | exact HB.out))) : p := h
theorem tq_22 {p : Prop} (h : p := by (repeat (first | (with_reducible first | exact HB.out | apply below_alloc | apply pw_below_drewN | apply below_drew1 | refine below_set ?_ GE123.out) | exact HB.out))) : p := h
theorem tq_23 {p : Prop} (h : p := by ((with_reducible repeat (first | refine blk_drewN ?_ _ | refine blk_drew ?_ | refine blk_alloc ?_ _)); exact BK150.out)) : p := h
theorem tq_24 {p : Prop} (h : p := by ((with_reducible repeat (first | refine blk_drewN ?_ _ | refine blk_drew ?_ | refine blk_alloc ?_ _)); exact BK149.out)) : p := h
theorem tq_25 {p : Prop} (h : p := by ((with_reducible repeat (first | refine blk_drewN ?_ _ | refine blk_drew ?_ | refine blk_alloc ?_ _)); exact BK244.out)) : p := h
theorem tq_26 {p : Prop} (h : p := by (first | rfl | (simp; done) | (simp [*]; done))) : p := h
theorem tq_27 {p : Prop} (h : p := by ((with_reducible repeat (first | apply Kd.R_alloc | apply Kd.R_drewN | apply Kd.R_drew)); exact HO237.out)) : p := h
theorem tq_28 {p : Prop} (h : p := by (repeat (first | (with_reducible first | exact HB.out | apply below_alloc | apply pw_below_drewN | apply below_drew1 | refine below_set ?_ GE179.out | refine below_set ?_ GE180.out | refine below_set ?_ GE181.out | refine below_set ?_ GE185.out) | exact HB.out))) : p := h
theorem tq_29 {p : Prop} (h : p := by ((with_reducible repeat (first | refine blk_drewN ?_ _ | refine blk_drew ?_ | refine blk_alloc ?_ _)); exact BK181.out)) : p := h
theorem tq_30 {p : Prop} (h : p := by ((with_reducible repeat (first | refine blk_drewN ?_ _ | refine blk_drew ?_ | refine blk_alloc ?_ _)); exact BK123.out)) : p := h
theorem tq_31 {p : Prop} (h : p := by ((with_reducible repeat (first | apply Kd.R_alloc | apply Kd.R_drewN | apply Kd.R_drew)); exact HO211.out)) : p := h
theorem tq_32 {p : Prop} (h : p := by ((with_reducible repeat (first | apply Kd.R_alloc | apply Kd.R_drewN | apply Kd.R_drew)); exact HO215.out)) : p := h
theorem tq_33 {p : Prop} (h : p := by (repeat (first | (with_reducible first | exact HB.out | apply below_alloc | apply pw_below_drewN | apply below_drew1 | refine below_set ?_ GE179.out | refine below_set ?_ GE180.out) | exact HB.out))) : p := h
theorem tq_34 {p : Prop} (h : p := by simp only [putAll, Act.put, List.setIfInBounds_toArray, List.set_cons_zero, List.set_cons_succ]) : p := h
theorem tq_35 {p : Prop} (h : p := by (repeat (first | (with_reducible first | exact HB.out | apply below_alloc | apply pw_below_drewN | apply below_drew1 | refine below_set ?_ GE179.out) | exact HB.out))) : p := h
theorem tq_36 {p : Prop} (h : p := by (repeat (first | (with_reducible first | exact HB.out | apply below_alloc | apply pw_below_drewN | apply below_drew1 | refine below_set ?_ GE128.out) | exact HB.out))) : p := h
theorem tq_37 {p : Prop} (h : p := by ((with_reducible repeat (first | refine blk_drewN ?_ _ | refine blk_drew ?_ | refine blk_alloc ?_ _)); exact BK170.out)) : p := h
theorem tq_38 {p : Prop} (h : p := by ((with_reducible repeat (first | refine blk_drewN ?_ _ | refine blk_drew ?_ | refine blk_alloc ?_ _)); exact BK151.out)) : p := h
theorem tq_39 {p : Prop} (h : p := by ((with_reducible repeat (first | refine blk_drewN ?_ _ | refine blk_drew ?_ | refine blk_alloc ?_ _)); exact BK128.out)) : p := h
theorem tq_40 {p : Prop} (h : p := by ((with_reducible repeat (first | refine blk_drewN ?_ _ | refine blk_drew ?_ | refine blk_alloc ?_ _)); exact BK117.out)) : p := h
theorem tq_41 {p : Prop} (h : p := by (repeat (first | exact (Kd.R_reads' HO_224000.out).2.2 | (with_reducible refine Kd.C_alloc ?_ _) | (with_reducible refine Kd.C_drewN ?_ _) | (with_reducible refine Kd.C_drew ?_)))) : p := h
theorem tq_42 {p : Prop} (h : p := by (repeat (first | (with_reducible first | exact HK.out | apply Kept.alloc | apply Kept.drewN | apply Kept.drew) | exact HK.out))) : p := h
theorem tq_43 {p : Prop} (h : p := by ((with_reducible repeat (first | refine blk_drewN ?_ _ | refine blk_drew ?_ | refine blk_alloc ?_ _)); exact BK106.out)) : p := h
theorem tq_44 {p : Prop} (h : p := by ((with_reducible repeat (first | apply Kd.R_alloc | apply Kd.R_drewN | apply Kd.R_drew)); exact HO184.out)) : p := h
theorem tq_45 {p : Prop} (h : p := by ((with_reducible repeat (first | apply Kd.R_alloc | apply Kd.R_drewN | apply Kd.R_drew)); exact Kd.R_mono HO_224000.out (fun _ hk => ⟨hk.1.2, ⟨hk.2, ⟨hk.1.1.1, hk.1.1.2⟩⟩⟩))) : p := h
theorem tq_46 {p : Prop} (h : p := by ((with_reducible repeat (first | apply Kd.R_alloc | apply Kd.R_drewN | apply Kd.R_drew)); exact Kd.R_mono HO_217000.out (fun _ hk => ⟨hk.1.2, ⟨hk.2, ⟨hk.1.1.1, hk.1.1.2⟩⟩⟩))) : p := h
theorem tq_47 {p : Prop} (h : p := by ((with_reducible repeat (first | apply Kd.R_alloc | apply Kd.R_drewN | apply Kd.R_drew)); exact Kd.R_mono HO_213000.out (fun _ hk => ⟨hk.1.2, ⟨hk.2, ⟨hk.1.1.1, hk.1.1.2⟩⟩⟩))) : p := h
theorem tq_48 {p : Prop} (h : p := by ((with_reducible repeat (first | apply Kd.R_alloc | apply Kd.R_drewN | apply Kd.R_drew)); exact Kd.R_mono HO243.out (fun _ hk => ⟨hk.2, ⟨hk.1.1.1.2, ⟨hk.1.1.2, hk.1.2⟩⟩⟩))) : p := h
theorem tq_49 {p : Prop} (h : p := by ((with_reducible repeat (first | apply Kd.R_alloc | apply Kd.R_drewN | apply Kd.R_drew)); exact Kd.R_mono HO237.out (fun _ hk => ⟨hk.2, ⟨hk.1.1.1.2, ⟨hk.1.1.2, hk.1.2⟩⟩⟩))) : p := h
theorem tq_50 {p : Prop} (h : p := by (repeat (first | exact (Kd.R_reads' HO237.out).2.2 | (with_reducible refine Kd.C_alloc ?_ _) | (with_reducible refine Kd.C_drewN ?_ _) | (with_reducible refine Kd.C_drew ?_)))) : p := h
theorem tq_51 {p : Prop} (h : p := by (repeat (first | exact (Kd.R_reads' HO205.out).2.2 | (with_reducible refine Kd.C_alloc ?_ _) | (with_reducible refine Kd.C_drewN ?_ _) | (with_reducible refine Kd.C_drew ?_)))) : p := h
theorem tq_52 {p : Prop} (h : p := by ((with_reducible repeat (first | refine blk_drewN ?_ _ | refine blk_drew ?_ | refine blk_alloc ?_ _)); exact BK171.out)) : p := h
theorem tq_53 {p : Prop} (h : p := by ((with_reducible repeat (first | refine blk_drewN ?_ _ | refine blk_drew ?_ | refine blk_alloc ?_ _)); exact BK152.out)) : p := h
theorem tq_54 {p : Prop} (h : p := by (repeat (first | (with_reducible first | exact HB.out | apply below_alloc | apply pw_below_drewN | apply below_drew1 | refine below_set ?_ GE149.out | refine below_set ?_ GE150.out | refine below_set ?_ GE151.out) | exact HB.out))) : p := h
theorem tq_55 {p : Prop} (h : p := by exact (fun k_ hk => Kd.freshB (g := gb150) (o := .cells #[.string a1_0, .bool a1_1, .string a1_2] 38 (0, 0)) tq_23 k_ hk)) : p := h
theorem tq_56 {p : Prop} (h : p := by ((with_reducible repeat (first | refine blk_drewN ?_ _ | refine blk_drew ?_ | refine blk_alloc ?_ _)); refine blk_put (cs := #[.slice none 0 0]) ?_ 0 _ rfl; (with_reducible repeat (first | refine blk_drewN ?_ _ | refine blk_drew ?_ | refine blk_alloc ?_ _)); refine blk_far ?_ NB181_185.out _; (with_reducible repeat (first | refine blk_drewN ?_ _ | refine blk_drew ?_ | refine blk_alloc ?_ _)); exact BK181.out)) : p := h
theorem tq_57 {p : Prop} (h : p := by ((with_reducible repeat (first | apply Kd.R_alloc | apply Kd.R_drewN | apply Kd.R_drew)); exact HO_0.out)) : p := h
theorem tq_58 {p : Prop} (h : p := by ((with_reducible repeat (first | apply Kd.R_alloc | apply Kd.R_drewN | apply Kd.R_drew)); exact Kd.R_mono HO211.out (fun _ hk => hk.2))) : p := h
theorem tq_59 {p : Prop} (h : p := by ((with_reducible repeat (first | apply Kd.R_alloc | apply Kd.R_drewN | apply Kd.R_drew)); exact Kd.R_mono HO205.out (fun _ hk => hk.2))) : p := h
theorem tq_60 {p : Prop} (h : p := by (repeat (first | (with_reducible first | exact HB.out | apply below_alloc | apply pw_below_drewN | apply below_drew1 | refine below_set ?_ GE170.out | refine below_set ?_ GE171.out) | exact HB.out))) : p := h
theorem tq_61 {p : Prop} (h : p := by (repeat (first | (with_reducible first | exact HB.out | apply below_alloc | apply pw_below_drewN | apply below_drew1 | refine below_set ?_ GE149.out | refine below_set ?_ GE150.out) | exact HB.out))) : p := h
theorem tq_62 {p : Prop} (h : p := by (repeat (first | (with_reducible first | exact HB.out | apply below_alloc | apply pw_below_drewN | apply below_drew1 | refine below_set ?_ GE117.out | refine below_set ?_ GE118.out) | exact HB.out))) : p := h
theorem tq_63 {p : Prop} (h : p := by (repeat (first | (with_reducible first | exact HB.out | apply below_alloc | apply pw_below_drewN | apply below_drew1 | refine below_set ?_ GE106.out | refine below_set ?_ GE107.out) | exact HB.out))) : p := h
theorem tq_64 {p : Prop} (h : p := by ((with_reducible repeat (first | refine blk_drewN ?_ _ | refine blk_drew ?_ | refine blk_alloc ?_ _)); exact BK185.out)) : p := h
theorem tq_65 {p : Prop} (h : p := by ((with_reducible repeat (first | refine blk_drewN ?_ _ | refine blk_drew ?_ | refine blk_alloc ?_ _)); exact BK118.out)) : p := h
theorem tq_66 {p : Prop} (h : p := by (repeat (first | (with_reducible first | exact HB.out | apply below_alloc | apply pw_below_drewN | apply below_drew1 | refine below_set ?_ GE199.out) | exact HB.out))) : p := h
theorem tq_67 {p : Prop} (h : p := by (repeat (first | (with_reducible first | exact HB.out | apply below_alloc | apply pw_below_drewN | apply below_drew1 | refine below_set ?_ GE170.out) | exact HB.out))) : p := h
theorem tq_68 {p : Prop} (h : p := by (repeat (first | (with_reducible first | exact HB.out | apply below_alloc | apply pw_below_drewN | apply below_drew1 | refine below_set ?_ GE149.out) | exact HB.out))) : p := h
theorem tq_69 {p : Prop} (h : p := by (repeat (first | (with_reducible first | exact HB.out | apply below_alloc | apply pw_below_drewN | apply below_drew1 | refine below_set ?_ GE117.out) | exact HB.out))) : p := h
theorem tq_70 {p : Prop} (h : p := by (repeat (first | (with_reducible first | exact HB.out | apply below_alloc | apply pw_below_drewN | apply below_drew1 | refine below_set ?_ GE106.out) | exact HB.out))) : p := h
theorem tq_71 {p : Prop} (h : p := by ((with_reducible repeat (first | apply Kd.R_alloc | apply Kd.R_drewN | apply Kd.R_drew)); exact HO_153000.out)) : p := h
theorem tq_72 {p : Prop} (h : p := by (repeat (first | exact (Kd.R_reads' HO215.out).2.2 | (with_reducible refine Kd.C_alloc ?_ _) | (with_reducible refine Kd.C_drewN ?_ _) | (with_reducible refine Kd.C_drew ?_)))) : p := h
theorem tq_73 {p : Prop} (h : p := by ((with_reducible repeat (first | apply Kd.R_alloc | apply Kd.R_drewN | apply Kd.R_drew)); exact Kd.R_mono HO222.out (fun _ hk => ⟨hk.1.1.2, ⟨hk.1.2, hk.2⟩⟩))) : p := h
theorem tq_74 {p : Prop} (h : p := by ((with_reducible repeat (first | apply Kd.R_alloc | apply Kd.R_drewN | apply Kd.R_drew)); exact Kd.R_mono HO215.out (fun _ hk => ⟨hk.1.1, ⟨hk.1.2, hk.2⟩⟩))) : p := h
theorem tq_75 {p : Prop} (h : p := by ((with_reducible repeat (first | apply Kd.R_alloc | apply Kd.R_drewN | apply Kd.R_drew)); exact Kd.R_mono HO211.out (fun _ hk => ⟨hk.1.1, ⟨hk.1.2, hk.2⟩⟩))) : p := h
theorem tq_76 {p : Prop} (h : p := by ((with_reducible repeat (first | apply Kd.R_alloc | apply Kd.R_drewN | apply Kd.R_drew)); exact Kd.R_mono HO205.out (fun _ hk => ⟨hk.1.1, ⟨hk.1.2, hk.2⟩⟩))) : p := h
theorem tq_77 {p : Prop} (h : p := by (repeat (first | (with_reducible first | exact HB.out | apply below_alloc | apply pw_below_drewN | apply below_drew1 | refine below_set ?_ GE199.out | refine below_set ?_ GE200.out | refine below_set ?_ GE212.out | refine below_set ?_ GE216.out | refine below_set ?_ GE223.out) | exact HB.out))) : p := h
theorem tq_78 {p : Prop} (h : p := by ((with_reducible repeat (first | refine blk_drewN ?_ _ | refine blk_drew ?_ | refine blk_alloc ?_ _)); refine blk_put (cs := #[.slice none 0 0]) ?_ 0 _ rfl; (with_reducible repeat (first | refine blk_drewN ?_ _ | refine blk_drew ?_ | refine blk_alloc ?_ _)); exact BK185.out)) : p := h
theorem tq_79 {p : Prop} (h : p := by ((with_reducible repeat (first | apply Kd.R_alloc | apply Kd.R_drewN | apply Kd.R_drew)); exact (Kd.R_mono (Kd.R_far (p := ⟨gb244, 0, none⟩) (Kd.R_types HO_213000.out BK244.out (by decide)) (fun _ hk => hk.2) (.slice Ao117 t241.length co117)) (fun _ h_ => h_.1)))) : p := h
theorem tq_80 {p : Prop} (h : p := by ((with_reducible repeat (first | apply Kd.R_alloc | apply Kd.R_drewN | apply Kd.R_drew)); exact (Kd.R_mono (Kd.R_far (p := ⟨gb244, 0, none⟩) (Kd.R_types HO243.out BK244.out (by decide)) (fun _ hk => hk.2) (.slice Ao117 t241.length co117)) (fun _ h_ => h_.1)))) : p := h
theorem tq_81 {p : Prop} (h : p := by ((with_reducible repeat (first | apply Kd.R_alloc | apply Kd.R_drewN | apply Kd.R_drew)); exact (Kd.R_mono (Kd.R_far (p := ⟨gb223, 0, none⟩) (Kd.R_types HO222.out BK223.out (by decide)) (fun _ hk => hk.2) (.slice Ao50 t220.length co50)) (fun _ h_ => h_.1)))) : p := h
theorem tq_82 {p : Prop} (h : p := by ((with_reducible repeat (first | apply Kd.R_alloc | apply Kd.R_drewN | apply Kd.R_drew)); exact (Kd.R_mono (Kd.R_far (p := ⟨gb223, 0, none⟩) (Kd.R_types HO211.out BK223.out (by decide)) (fun _ hk => hk.2) (.slice Ao50 t220.length co50)) (fun _ h_ => h_.1)))) : p := h
theorem tq_83 {p : Prop} (h : p := by ((with_reducible repeat (first | apply Kd.R_alloc | apply Kd.R_drewN | apply Kd.R_drew)); exact (Kd.R_mono (Kd.R_far (p := ⟨gb212, 0, none⟩) (Kd.R_types HO211.out BK212.out (by decide)) (fun _ hk => hk.2) (.slice Ao32 t209.length co32)) (fun _ h_ => h_.1)))) : p := h
theorem tq_84 {p : Prop} (h : p := by ((with_reducible repeat (first | apply Kd.R_alloc | apply Kd.R_drewN | apply Kd.R_drew)); exact (Kd.R_mono (Kd.R_far (p := ⟨gb212, 0, none⟩) (Kd.R_types HO205.out BK212.out (by decide)) (fun _ hk => hk.2) (.slice Ao32 t209.length co32)) (fun _ h_ => h_.1)))) : p := h
theorem tq_85 {p : Prop} (h : p := by ((with_reducible repeat (first | apply Kd.R_alloc | apply Kd.R_drewN | apply Kd.R_drew)); exact (Kd.R_mono (Kd.R_far (p := ⟨gb185, 0, none⟩) (Kd.R_types HO184.out BK185.out (by decide)) (fun _ hk => hk.2) (.slice Ao43 t182.length co43)) (fun _ h_ => h_.1)))) : p := h
theorem tq_86 {p : Prop} (h : p := by ((with_reducible repeat (first | apply Kd.R_alloc | apply Kd.R_drewN | apply Kd.R_drew)); exact (Kd.R_mono (Kd.R_far (p := ⟨gb185, 0, none⟩) (Kd.R_types HO184.out BK185.out (by decide)) (fun _ hk => hk.2) (.slice Ao17 t182.length co17)) (fun _ h_ => h_.1)))) : p := h
theorem tq_87 {p : Prop} (h : p := by ((with_reducible repeat (first | refine blk_drewN ?_ _ | refine blk_drew ?_ | refine blk_alloc ?_ _)); refine blk_far ?_ NB181_185.out _; (with_reducible repeat (first | refine blk_drewN ?_ _ | refine blk_drew ?_ | refine blk_alloc ?_ _)); exact BK181.out)) : p := h
theorem tq_88 {p : Prop} (h : p := by ((with_reducible repeat (first | refine blk_drewN ?_ _ | refine blk_drew ?_ | refine blk_alloc ?_ _)); refine blk_far ?_ NB180_185.out _; (with_reducible repeat (first | refine blk_drewN ?_ _ | refine blk_drew ?_ | refine blk_alloc ?_ _)); exact BK180.out)) : p := h
theorem tq_89 {p : Prop} (h : p := by ((with_reducible repeat (first | refine blk_drewN ?_ _ | refine blk_drew ?_ | refine blk_alloc ?_ _)); refine blk_far ?_ NB179_185.out _; (with_reducible repeat (first | refine blk_drewN ?_ _ | refine blk_drew ?_ | refine blk_alloc ?_ _)); exact BK179.out)) : p := h
theorem tq_90 {p : Prop} (h : p := by (repeat (first | (with_reducible first | exact HB.out | apply below_alloc | apply pw_below_drewN | apply below_drew1 | refine below_set ?_ GE179.out | refine below_set ?_ GE180.out | refine below_set ?_ GE181.out | refine below_set ?_ GE185.out) | exact HB.out))) : p := h
theorem tq_91 {p : Prop} (h : p := by ((with_reducible repeat (first | refine blk_drewN ?_ _ | refine blk_drew ?_ | refine blk_alloc ?_ _)); exact BK107.out)) : p := h
theorem tq_92 {p : Prop} (h : p := by (repeat (first | (with_reducible first | exact HB.out | apply below_alloc | apply pw_below_drewN | apply below_drew1 | refine below_set ?_ GE170.out | refine below_set ?_ GE171.out | refine below_set ?_ GE172.out) | exact HB.out))) : p := h
theorem tq_93 {p : Prop} (h : p := by (repeat (first | (with_reducible first | exact HB.out | apply below_alloc | apply pw_below_drewN | apply below_drew1 | refine below_set ?_ GE117.out | refine below_set ?_ GE118.out | refine below_set ?_ GE119.out) | exact HB.out))) : p := h
theorem tq_94 {p : Prop} (h : p := by ((with_reducible repeat (first | apply Kd.R_alloc | apply Kd.R_drewN | apply Kd.R_drew)); exact HO_245000.out)) : p := h
theorem tq_95 {p : Prop} (h : p := by (repeat (first | (with_reducible first | exact HB.out | apply below_alloc | apply pw_below_drewN | apply below_drew1 | refine below_set ?_ GE128.out | refine below_set ?_ GE129.out) | exact HB.out))) : p := h
theorem tq_96 {p : Prop} (h : p := by (repeat (first | (with_reducible first | exact HB.out | apply below_alloc | apply pw_below_drewN | apply below_drew1 | refine below_set ?_ GE147.out) | exact HB.out))) : p := h
theorem tq_97 {p : Prop} (h : p := by (repeat (first | (with_reducible first | exact HB.out | apply below_alloc | apply pw_below_drewN | apply below_drew1 | refine below_set ?_ GE104.out) | exact HB.out))) : p := h
theorem tq_98 {p : Prop} (h : p := by (repeat (first | exact (Kd.C_below HR1_0.out HB.out) | (with_reducible refine Kd.C_alloc ?_ _) | (with_reducible refine Kd.C_drewN ?_ _) | (with_reducible refine Kd.C_drew ?_)))) : p := h
theorem tq_99 {p : Prop} (h : p := by exact (Reps.c3 (show Kd.M k38 _ _ _ (⟨a1_0, a1_1, a1_2⟩ : S38) [.string a1_0, .bool a1_1, .string a1_2] from (k38_mkM _ _ _ (⟨a1_0, a1_1, a1_2⟩ : S38) )) (Reps.none _ _))) : p := h

end Go.Proofs.Ytcdnfkoahajhhaa.PFnExactPutItem
