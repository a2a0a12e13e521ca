/- Contracts of Go functions, written by a program of ours over the print of the kit: each says that the call returns what the Lean function beside it computes. Conditions: as each theorem states them. -/
import Derived.Test.YtcdnfkoahajhhaaPkFnStates
import Derived.Test.YtcdnfkoahajhhaaPFnStatesx0
namespace Go.Proofs.Ytcdnfkoahajhhaa.PFnStates
open Go.RowKit Go.Proofs.YtcdnfkoahajhhaaW.PrintWords Go.Proofs.YtcdnfkoahajhhaaW.PrintLast Go.Proofs.YtcdnfkoahajhhaaW.PrintMore
attribute [local go_sem] max2_int min2_int max_two min_two max_three min_three max_four min_four   -- for this text's walks alone
set_option linter.unusedVariables false
set_option linter.unusedSimpArgs false

/-! ### laws_big: function 37 -/
def laws_big.f (l0 : List Int) : Option (Bool) := some (decide ((l0.length : Int) > 1048576))
set_option maxHeartbeats 8000000 in
set_option maxRecDepth 100000 in
theorem laws_big.calls (A0 : Option Addr) (c0 : Nat) (l0 : List Int) (r : Bool) (w : World) (hr0 : Kd.C (Kd.int .u8) w A0 l0.length l0) (hc0 : l0.length ≤ c0) (h : laws_big.f l0 = some r) :
  Calls Try.prog 37 #[.slice A0 l0.length c0] w fun e w' => e = .returned (.bool r) ∧ Drawn0 w w' := by
 have HR0 := Aside0.mk hr0
 have HC0 := Aside0.mk hc0
 clear hr0 hc0
 have H : (some (decide ((l0.length : Int) > 1048576))) = some r := h
 clear h
 obtain rfl := Option.some.inj H
 go_enter Try.func37, Try.ntmps37
 go_wp2
 go_ret
 exact ⟨tq_16, tq_18⟩

/-- A state of type 189 at block g of W; what its slices lead to came in by w0. -/
def IsS189 (w0 W : World) (g : Nat) (f0 : List Int) (f1 : Int) (f2 : Int) : Prop := ∃ A0 c0, W.heap[g]? = some (.cells #[.slice A0 f0.length c0, .int .i64 f1, .int .i64 f2] 189 (0, 0)) ∧ w0.heap.size ≤ g ∧ Kd.C (Kd.int .u8) w0 A0 f0.length f0
theorem IsS189.grown {w0 W : World} {g : Nat} {f0 : List Int} {f1 : Int} {f2 : Int} {W1 : World} {row : Option Nat} (h : IsS189 w0 W g f0 f1 f2) (hw : W.grownBy W1 row) (hne : some g ≠ row) : IsS189 w0 W1 g f0 f1 f2 := by
 obtain ⟨A0, c0, hb, hg, hr0⟩ := h
 exact ⟨A0, c0, blk_grown hb hw hne, hg, hr0⟩
theorem IsS189.own_neN {w0 W : World} {g : Nat} {f0 : List Int} {f1 : Int} {f2 : Int} {α : Type} {d : Kd α} {e : Nat} {base : Nat} {ok : Nat → Prop} {v : Value} {xs : List α} (h : IsS189 w0 W g f0 f1 f2) (ho : Kd.N d e W base ok v xs) (ht : e ≠ 189) : some g ≠ v.ownBlock := by
 obtain ⟨A0, c0, hb, hg, hr0⟩ := h
 exact Kd.N_ne ho hb ht
theorem IsS189.fresh {w0 W : World} {g : Nat} {f0 : List Int} {f1 : Int} {f2 : Int} (h : IsS189 w0 W g f0 f1 f2) : ∀ k, W.heap.size ≤ k → k ≠ g := by
 obtain ⟨A0, c0, hb, hg, hr0⟩ := h
 exact Kd.freshB hb
theorem IsS189.kept {w0 W : World} {g : Nat} {f0 : List Int} {f1 : Int} {f2 : Int} {W1 : World} {S : Nat → Prop} (h : IsS189 w0 W g f0 f1 f2) (hk : Kept W W1 S) (hne : ¬ S g) : IsS189 w0 W1 g f0 f1 f2 := by
 obtain ⟨A0, c0, hb, hg, hr0⟩ := h
 exact ⟨A0, c0, blk_kept hb hk hne, hg, hr0⟩
theorem IsS189.below {w0 W : World} {g : Nat} {f0 : List Int} {f1 : Int} {f2 : Int} {W1 : World} (h : IsS189 w0 W g f0 f1 f2) (hw : Below W.heap.size W W1) : IsS189 w0 W1 g f0 f1 f2 := h.grown (grown_of_below hw none) (by simp)
theorem IsS189.alloc {w0 W : World} {g : Nat} {f0 : List Int} {f1 : Int} {f2 : Int} (h : IsS189 w0 W g f0 f1 f2) (o : Obj) : IsS189 w0 (W.alloc o) g f0 f1 f2 := h.below (below_alloc (Below.refl _ _) o)
theorem IsS189.drewN {w0 W : World} {g : Nat} {f0 : List Int} {f1 : Int} {f2 : Int} (h : IsS189 w0 W g f0 f1 f2) (m : Nat) : IsS189 w0 (W.drewN m) g f0 f1 f2 := h
theorem IsS189.drew {w0 W : World} {g : Nat} {f0 : List Int} {f1 : Int} {f2 : Int} (h : IsS189 w0 W g f0 f1 f2) : IsS189 w0 W.drew g f0 f1 f2 := h
theorem IsS189.at_ {w0 W : World} {g : Nat} {f0 : List Int} {f1 : Int} {f2 : Int} {w' : World} {m : Nat} (hq : W.drewN m = w') (h : IsS189 w0 W g f0 f1 f2) : IsS189 w0 w' g f0 f1 f2 := by subst hq; exact IsS189.drewN h m
theorem IsS189.apart {w0 W : World} {g : Nat} {f0 : List Int} {f1 : Int} {f2 : Int} {α : Type} {d : Kd α} {e : Nat} {base : Nat} {ok : Nat → Prop} {v : Value} {xs : List α} (h : IsS189 w0 W g f0 f1 f2) (ho : d.R e W base ok v xs) (ht : ∀ q, q ∈ e :: d.E → q ≠ 189) : d.R e W base (fun k => ok k ∧ k ≠ g) v xs := by
 obtain ⟨A0, c0, hb, hg, hr0⟩ := h
 exact Kd.R_types ho hb ht
theorem IsS189.own_ne {w0 W : World} {g : Nat} {f0 : List Int} {f1 : Int} {f2 : Int} {α : Type} {d : Kd α} {e : Nat} {base : Nat} {ok : Nat → Prop} {v : Value} {xs : List α} (h : IsS189 w0 W g f0 f1 f2) (ho : d.R e W base ok v xs) (ht : e ≠ 189) : some g ≠ v.ownBlock := by
 obtain ⟨A0, c0, hb, hg, hr0⟩ := h
 exact Kd.R_ne ho hb ht
theorem IsS189.apartQ {w0 W : World} {g : Nat} {f0 : List Int} {f1 : Int} {f2 : Int} {α : Type} {d : Kd α} {e : Nat} {base : Nat} {ok : Nat → Prop} {v : Value} {xs : List α} (h : IsS189 w0 W g f0 f1 f2) (ho : d.Q e W base ok v xs) (ht : ∀ q, q ∈ e :: d.E → q ≠ 189) : d.Q e W base (fun k => ok k ∧ k ≠ g) v xs := by
 obtain ⟨A0, c0, hb, hg, hr0⟩ := h
 exact Kd.Q_types ho hb ht
theorem IsS189.own_neQ {w0 W : World} {g : Nat} {f0 : List Int} {f1 : Int} {f2 : Int} {α : Type} {d : Kd α} {e : Nat} {base : Nat} {ok : Nat → Prop} {v : Value} {xs : List α} (h : IsS189 w0 W g f0 f1 f2) (ho : d.Q e W base ok v xs) (ht : e ≠ 189) : some g ≠ v.ownBlock := by
 obtain ⟨A0, c0, hb, hg, hr0⟩ := h
 exact Kd.Q_ne ho hb ht
theorem IsS189.apartS {w0 W : World} {g : Nat} {f0 : List Int} {f1 : Int} {f2 : Int} {α : Type} {d : Kd α} {e : Nat} {base : Nat} {ok : Nat → Prop} {v : Value} {xs : List α} (h : IsS189 w0 W g f0 f1 f2) (ho : d.S e W base ok v xs) (ht : ∀ q, q ∈ e :: d.E → q ≠ 189) : d.S e W base (fun k => ok k ∧ k ≠ g) v xs := by
 obtain ⟨A0, c0, hb, hg, hr0⟩ := h
 exact Kd.S_types ho hb ht
theorem IsS189.own_neS {w0 W : World} {g : Nat} {f0 : List Int} {f1 : Int} {f2 : Int} {α : Type} {d : Kd α} {e : Nat} {base : Nat} {ok : Nat → Prop} {v : Value} {xs : List α} (h : IsS189 w0 W g f0 f1 f2) (ho : d.S e W base ok v xs) (ht : e ≠ 189) : some g ≠ v.ownBlock := by
 obtain ⟨A0, c0, hb, hg, hr0⟩ := h
 exact Kd.S_ne ho hb ht
theorem IsS189.lt {w0 W : World} {g : Nat} {f0 : List Int} {f1 : Int} {f2 : Int} (h : IsS189 w0 W g f0 f1 f2) : g < W.heap.size := by
 obtain ⟨A0, c0, hb, hg, hr0⟩ := h
 exact blk_lt hb
theorem IsS189.ge {w0 W : World} {g : Nat} {f0 : List Int} {f1 : Int} {f2 : Int} (h : IsS189 w0 W g f0 f1 f2) : w0.heap.size ≤ g := by
 obtain ⟨A0, c0, hb, hg, hr0⟩ := h
 exact hg
theorem IsS189.ne_blk {w0 W : World} {g : Nat} {f0 : List Int} {f1 : Int} {f2 : Int} {a : Nat} {cs : Array Value} {t : TypeId} {fr : Nat × Nat} (h : IsS189 w0 W g f0 f1 f2) (hb2 : W.heap[a]? = some (.cells cs t fr)) (ht : t ≠ 189) : g ≠ a := by
 obtain ⟨A0, c0, hb, hg, hr0⟩ := h
 rintro rfl
 rw [hb] at hb2
 injection hb2 with hb2
 injection hb2 with _ ht2
 exact ht ht2.symm
theorem IsS189.far {w0 W : World} {g : Nat} {f0 : List Int} {f1 : Int} {f2 : Int} {p : Addr} (h : IsS189 w0 W g f0 f1 f2) (hne : g ≠ p.block) (u : Value) : IsS189 w0 (W.setCell p u) g f0 f1 f2 := by
 obtain ⟨A0, c0, hb, hg, hr0⟩ := h
 exact ⟨A0, c0, blk_far hb hne u, hg, hr0⟩
theorem cellS189_0 {W : World} {g : Nat} {A0 : Option Addr} {c0 : Nat} {f0 : List Int} {f1 : Int} {f2 : Int} (h : W.heap[g]? = some (.cells #[.slice A0 f0.length c0, .int .i64 f1, .int .i64 f2] 189 (0, 0))) : W.cell? ⟨g, 0, none⟩ = some (.slice A0 f0.length c0) := (blk_cell h 0).trans rfl
theorem cellS189_1 {W : World} {g : Nat} {A0 : Option Addr} {c0 : Nat} {f0 : List Int} {f1 : Int} {f2 : Int} (h : W.heap[g]? = some (.cells #[.slice A0 f0.length c0, .int .i64 f1, .int .i64 f2] 189 (0, 0))) : W.cell? ⟨g, 1, none⟩ = some (.int .i64 f1) := (blk_cell h 1).trans rfl
theorem IsS189.set_1 {w0 W : World} {g : Nat} {f0 : List Int} {f1 : Int} {f2 : Int} (h : IsS189 w0 W g f0 f1 f2) (x : Int) : IsS189 w0 (W.setCell ⟨g, 1, none⟩ (.int .i64 x)) g f0 x f2 := by
 obtain ⟨A0, c0, hb, hg, hr0⟩ := h
 exact ⟨A0, c0, (by simpa using blk_set hb 1 (.int .i64 x)), hg, hr0⟩
theorem cellS189_2 {W : World} {g : Nat} {A0 : Option Addr} {c0 : Nat} {f0 : List Int} {f1 : Int} {f2 : Int} (h : W.heap[g]? = some (.cells #[.slice A0 f0.length c0, .int .i64 f1, .int .i64 f2] 189 (0, 0))) : W.cell? ⟨g, 2, none⟩ = some (.int .i64 f2) := (blk_cell h 2).trans rfl
theorem IsS189.set_2 {w0 W : World} {g : Nat} {f0 : List Int} {f1 : Int} {f2 : Int} (h : IsS189 w0 W g f0 f1 f2) (x : Int) : IsS189 w0 (W.setCell ⟨g, 2, none⟩ (.int .i64 x)) g f0 f1 x := by
 obtain ⟨A0, c0, hb, hg, hr0⟩ := h
 exact ⟨A0, c0, (by simpa using blk_set hb 2 (.int .i64 x)), hg, hr0⟩
theorem IsS189.new (w0 W : World) (A0 : Option Addr) (c0 : Nat) (f0 : List Int) (f1 : Int) (f2 : Int) (hB : Below w0.heap.size w0 W) (hr0 : Kd.C (Kd.int .u8) w0 A0 f0.length f0) : IsS189 w0 (W.alloc (.cells #[.slice A0 f0.length c0, .int .i64 f1, .int .i64 f2] 189)) W.heap.size f0 f1 f2 := ⟨A0, c0, (by simpa using heap_alloc_new W _), hB.size, hr0⟩

/-! ### spec_l01New: function 108 -/
def spec_l01New.l0 : Nat → List Int → Int → Int → Option (List Int × Int × Int)
 | 0, _, _, _ => none
 | k + 1, x0, x3, x4 => if x4 < (x0.length : Int) then (if x4 < 4000 then (if 0 ≤ x4 then (spec_l01New.l0 k x0 (Go.bits .and .i64 (wrap64 ((wrap64 ((wrap64 (x3 * 131)) + (wrap64 (rd x0 x4)))) + 7)) 1073741823) (wrap64 (x4 + 1))) else (none)) else (some (x0, 0, x3))) else (some (x0, 0, x3))
def spec_l01New.f (k : Nat) (l0 : List Int) : Option (List Int × Int × Int) := spec_l01New.l0 k l0 (wrap64 (94701 + (l0.length : Int))) 0
theorem spec_l01New.mono_l : ∀ k, (∀ y0 y1 y2, LeO (spec_l01New.l0 k y0 y1 y2) (spec_l01New.l0 (k + 1) y0 y1 y2))
 | 0 => fun _ _ _ r h => by simp [spec_l01New.l0] at h
 | k + 1 => by
  have ih0 := spec_l01New.mono_l k
  ·intro y0 y1 y2
   unfold spec_l01New.l0
   repeat' first
   | (with_reducible exact ih0 ..)
   | (with_reducible exact LeO.refl _)
   | (with_reducible exact LeO.none _)
   | (with_reducible refine LeO.ite ?_ ?_)
   | (with_reducible refine LeO.bind ?_ (fun _ => ?_))
   | exact ih0 ..
   | exact LeO.none _
   | refine LeO.ite ?_ ?_
   | refine LeO.bind ?_ (fun _ => ?_)
theorem spec_l01New.mono : ∀ a0 k, LeO (spec_l01New.f k a0) (spec_l01New.f (k + 1) a0) := by
 intro a0 k
 have ih0 := spec_l01New.mono_l k
 unfold spec_l01New.f
 repeat' first
   | (with_reducible exact ih0 ..)
   | (with_reducible exact LeO.refl _)
   | (with_reducible exact LeO.none _)
   | (with_reducible refine LeO.ite ?_ ?_)
   | (with_reducible refine LeO.bind ?_ (fun _ => ?_))
   | exact ih0 ..
   | exact LeO.none _
   | refine LeO.ite ?_ ?_
   | refine LeO.bind ?_ (fun _ => ?_)
set_option maxHeartbeats 8000000 in
set_option maxRecDepth 100000 in
theorem spec_l01New.calls (k : Nat) (A0 : Option Addr) (c0 : Nat) (l0 : List Int) (r1 : List Int) (r2 : Int) (r3 : Int) (w0 w : World) (hB : Below w0.heap.size w0 w) (hr0 : Kd.C (Kd.int .u8) w0 A0 l0.length l0) (hc0 : l0.length ≤ c0) (h : spec_l01New.f k l0 = some (r1, r2, r3)) :
  Calls Try.prog 108 #[.slice A0 l0.length c0] w fun e w' => ∃ g_ : Nat, e = .returned (.pointer (some ⟨g_, 0, none⟩)) ∧ IsS189 w0 w' g_ r1 r2 r3 ∧ Below w0.heap.size w0 w' ∧ Below w.heap.size w w' := by
 have hu189 := Try.underlying189
 have HR0 := Aside0.mk hr0
 have HC0 := Aside0.mk hc0
 clear hr0 hc0
 have HBW := Aside0.mk (Below.refl w.heap.size w)
 have HW0 := Aside0.mk hB.size
 have HB := Aside0.mk hB
 clear hB
 have H : (spec_l01New.l0 k l0 (wrap64 (94701 + (l0.length : Int))) 0) = some (r1, r2, r3) := h
 clear h
 have H' := Aside0.mk H
 clear H
 go_enter Try.func108, Try.ntmps108
 go_wp2
 go_loopg [3, 4] k (fun kq v3 v4 w' => ∃ (x3_1 : Int) (x4_1 : Int), v3 = .int .i64 x3_1 ∧ v4 = .int .i64 x4_1 ∧ Aside0 (spec_l01New.l0 kq l0 x3_1 x4_1 = some (r1, r2, r3)) ∧ Aside0 (kq ≤ k) ∧ Aside0 (Below w0.heap.size w0 w') ∧ Aside0 (Below w.heap.size w w'))
 case atStart => exact ⟨(wrap64 (94701 + (l0.length : Int))), (0), tq_16, tq_16, H', ⟨Nat.le_refl _⟩, ⟨tq_0⟩, ⟨tq_29⟩⟩
 case round =>
  clear H'
  try clear c1
  obtain ⟨x3_1, x4_1, rfl, rfl, HA, HK1, HB, HBW⟩ := hrel
  cases gk with
  | zero => exact absurd HA.out (by simp [spec_l01New.l0])
  | succ k1 =>
   have H := HA.out
   clear HA
   simp only [spec_l01New.l0] at H
   by_cases c2 : x4_1 < (l0.length : Int)
   ·rw [if_pos c2] at H
    have c2b0 : decide (x4_1 < (l0.length : Int)) = true := decide_eq_true c2
    clear c2
    by_cases c3 : x4_1 < 4000
    ·rw [if_pos c3] at H
     have c3b0 : decide (x4_1 < 4000) = true := decide_eq_true c3
     clear c3
     by_cases c4 : 0 ≤ x4_1
     ·rw [if_pos c4] at H
      have c4b0 : decide (0 ≤ x4_1) = true := decide_eq_true c4
      clear c4
      have H' := Aside0.mk H
      clear H
      have p101 : 0 ≤ (x4_1 : Int) := of_decide_eq_true tq_14
      have q101 : x4_1 < (l0.length : Int) := of_decide_eq_true tq_14
      obtain ⟨ad101, e101, hx101_0⟩ := Kd.at_int HR0.out x4_1 p101 q101
      cases e101
      replace hx101_0 := pw_cell_below HB.out hx101_0
      replace p101 := eq_true p101
      replace q101 := eq_true q101
      go_wp2
      go_roundg k1
      case measure => have := HK1.out; omega
      case rel => exact ⟨(Go.bits .and .i64 (wrap64 ((wrap64 ((wrap64 (x3_1 * 131)) + (wrap64 (rd l0 x4_1)))) + 7)) 1073741823), (wrap64 (x4_1 + 1)), tq_16, tq_16, H', ⟨tq_35⟩, ⟨tq_0⟩, ⟨tq_29⟩⟩
     ·rw [if_neg c4] at H
      exact absurd H (by simp)
    ·rw [if_neg c3] at H
     have c3b0 : decide (x4_1 < 4000) = false := decide_eq_false c3
     clear c3
     simp only [Option.some.injEq, Prod.mk.injEq] at H
     obtain ⟨rfl, rfl, rfl⟩ := H
     go_wp2_with (first | ((with_reducible refine gate_dst (N := 31) rfl ?_); refine box_event ?hg (N := 31) ?hd (cs := #[.slice A0 l0.length c0, .int .i64 0, .int .i64 x3_1]) (t := 189) ?hr ?_; (case hd => rfl); (case hg => rfl); (case hr => first | (go_simp; done) | (go_simp; rfl)); intro gb102 hg w5 hbox hb; have z_ := p_ (below_step HBW.out hb) <| p_ (below_step tq_0 hb) <| p_ (hbox) <| p_ (gb_ hg tq_29) <| a_ ((Nat.le_trans HW0.out (gb_ hg tq_29) : w0.heap.size ≤ gb102)); clear HBW HB; obtain ⟨HBW, HB, BK102, GW102, GE102⟩ := z_; clear hb hbox hg))
     go_ret
     exact ⟨_, rfl, (show IsS189 w0 _ gb102 l0 0 x3_1 from ⟨_, _, (by (with_reducible repeat (first | refine blk_drewN ?_ _ | refine blk_drew ?_ | refine blk_alloc ?_ _)); exact BK102.out), GE102.out, HR0.out⟩), (by repeat (first | (with_reducible first | exact HB.out | apply below_alloc | apply pw_below_drewN | apply below_drew1 | refine below_set ?_ GE102.out) | exact HB.out)), (by repeat (first | (with_reducible first | exact HBW.out | apply below_alloc | apply pw_below_drewN | apply below_drew1 | refine below_set ?_ GW102.out) | exact HBW.out))⟩
   ·rw [if_neg c2] at H
    have c2b0 : decide (x4_1 < (l0.length : Int)) = false := decide_eq_false c2
    clear c2
    simp only [Option.some.injEq, Prod.mk.injEq] at H
    obtain ⟨rfl, rfl, rfl⟩ := H
    go_wp2_with (first | ((with_reducible refine gate_dst (N := 31) rfl ?_); refine box_event ?hg (N := 31) ?hd (cs := #[.slice A0 l0.length c0, .int .i64 0, .int .i64 x3_1]) (t := 189) ?hr ?_; (case hd => rfl); (case hg => rfl); (case hr => first | (go_simp; done) | (go_simp; rfl)); intro gb103 hg w6 hbox hb; have z_ := p_ (below_step HBW.out hb) <| p_ (below_step tq_0 hb) <| p_ (hbox) <| p_ (gb_ hg tq_29) <| a_ ((Nat.le_trans HW0.out (gb_ hg tq_29) : w0.heap.size ≤ gb103)); clear HBW HB; obtain ⟨HBW, HB, BK103, GW103, GE103⟩ := z_; clear hb hbox hg))
    go_ret
    exact ⟨_, rfl, (show IsS189 w0 _ gb103 l0 0 x3_1 from ⟨_, _, (by (with_reducible repeat (first | refine blk_drewN ?_ _ | refine blk_drew ?_ | refine blk_alloc ?_ _)); exact BK103.out), GE103.out, HR0.out⟩), (by repeat (first | (with_reducible first | exact HB.out | apply below_alloc | apply pw_below_drewN | apply below_drew1 | refine below_set ?_ GE103.out) | exact HB.out)), (by repeat (first | (with_reducible first | exact HBW.out | apply below_alloc | apply pw_below_drewN | apply below_drew1 | refine below_set ?_ GW103.out) | exact HBW.out))⟩

/-! ### spec_l01Byte: function 186 -/
def spec_l01Byte.f (s0_0 : List Int) (s0_1 : Int) (s0_2 : Int) : Option (Int × Int × Int) := if s0_1 < (s0_0.length : Int) then (if 0 ≤ s0_1 then (some (Go.bits .and .i64 (wrap64 ((Go.bits .and .i64 (Go.bits .xor .i64 ((wrap64 ((wrap64 (s0_2 * 6364136223846793005)) + 1442695040888963407)) / 8589934592) ((wrap64 ((wrap64 (s0_2 * 6364136223846793005)) + 1442695040888963407)) / 35184372088832)) 255) + (wrap64 (rd s0_0 s0_1)))) 255, wrap64 (s0_1 + 1), wrap64 ((wrap64 (s0_2 * 6364136223846793005)) + 1442695040888963407))) else (none)) else (some (Go.bits .and .i64 (Go.bits .xor .i64 ((wrap64 ((wrap64 (s0_2 * 6364136223846793005)) + 1442695040888963407)) / 8589934592) ((wrap64 ((wrap64 (s0_2 * 6364136223846793005)) + 1442695040888963407)) / 35184372088832)) 255, s0_1, wrap64 ((wrap64 (s0_2 * 6364136223846793005)) + 1442695040888963407)))
set_option maxHeartbeats 8000000 in
set_option maxRecDepth 100000 in
theorem spec_l01Byte.calls (g : Nat) (s0_0 : List Int) (s0_1 : Int) (s0_2 : Int) (r1 : Int) (r2 : Int) (r3 : Int) (w0 w : World) (hI : IsS189 w0 w g s0_0 s0_1 s0_2) (hB : Below w0.heap.size w0 w) (h : spec_l01Byte.f s0_0 s0_1 s0_2 = some (r1, r2, r3)) :
  Calls Try.prog 186 #[.pointer (some ⟨g, 0, none⟩)] w fun e w' => e = .returned (.int .i64 r1) ∧ IsS189 w0 w' g s0_0 r2 r3 ∧ Below w0.heap.size w0 w' ∧ KeepBut w w' g none := by
 have HI0 := Aside0.mk hI
 have HK := Aside0.mk (KeepBut.refl w g none)
 have HL := Aside0.mk hB.size
 clear hI
 have HW0 := Aside0.mk hB.size
 have HB := Aside0.mk hB
 clear hB
 have H : (if s0_1 < (s0_0.length : Int) then (if 0 ≤ s0_1 then (some (Go.bits .and .i64 (wrap64 ((Go.bits .and .i64 (Go.bits .xor .i64 ((wrap64 ((wrap64 (s0_2 * 6364136223846793005)) + 1442695040888963407)) / 8589934592) ((wrap64 ((wrap64 (s0_2 * 6364136223846793005)) + 1442695040888963407)) / 35184372088832)) 255) + (wrap64 (rd s0_0 s0_1)))) 255, wrap64 (s0_1 + 1), wrap64 ((wrap64 (s0_2 * 6364136223846793005)) + 1442695040888963407))) else (none)) else (some (Go.bits .and .i64 (Go.bits .xor .i64 ((wrap64 ((wrap64 (s0_2 * 6364136223846793005)) + 1442695040888963407)) / 8589934592) ((wrap64 ((wrap64 (s0_2 * 6364136223846793005)) + 1442695040888963407)) / 35184372088832)) 255, s0_1, wrap64 ((wrap64 (s0_2 * 6364136223846793005)) + 1442695040888963407)))) = some (r1, r2, r3) := h
 clear h
 by_cases c2 : s0_1 < (s0_0.length : Int)
 ·rw [if_pos c2] at H
  have c2b0 : decide (s0_1 < (s0_0.length : Int)) = true := decide_eq_true c2
  clear c2
  by_cases c3 : 0 ≤ s0_1
  ·rw [if_pos c3] at H
   have c3b0 : decide (0 ≤ s0_1) = true := decide_eq_true c3
   clear c3
   simp only [Option.some.injEq, Prod.mk.injEq] at H
   obtain ⟨rfl, rfl, rfl⟩ := H
   obtain ⟨ASz4_0, cSz4_0, HGz4, hgz4, HSz4_0⟩ := HI0.out
   have hcz4_0 := cellS189_0 HGz4
   have hcz4_1 := cellS189_1 HGz4
   have hcz4_2 := cellS189_2 HGz4
   have hfz4_1 := blk_frozen HGz4 1
   have hfz4_2 := blk_frozen HGz4 2
   clear HGz4 hgz4
   have p104 : 0 ≤ (s0_1 : Int) := of_decide_eq_true tq_14
   have q104 : s0_1 < (s0_0.length : Int) := of_decide_eq_true tq_14
   obtain ⟨ad104, e104, hx104_0⟩ := Kd.at_int HSz4_0 s0_1 p104 q104
   cases e104
   have hn104_0 : ad104.block ≠ g := Nat.ne_of_lt (Nat.lt_of_lt_of_le (by have := World.block_lt_of_cell? _ _ hx104_0; first | rwa [add_block] at this | exact this) (IsS189.ge HI0.out))
   replace hx104_0 := pw_cell_below HB.out hx104_0
   replace hx104_0 := (cell_far (p := ⟨g, 2, none⟩) (by first | (rw [add_block]; exact hn104_0) | (show (Addr.add _ _).block ≠ _; rw [add_block]; exact hn104_0) | exact hn104_0) (.int .i64 (wrap64 ((wrap64 (s0_2 * 6364136223846793005)) + 1442695040888963407)))).trans hx104_0
   (try have hy104_0 := fun (n_ : Nat) => (show (((w.drewN n_).setCell ⟨g, 2, none⟩ (.int .i64 (wrap64 ((wrap64 (s0_2 * 6364136223846793005)) + 1442695040888963407))))).cell? _ = some _ from hx104_0))
   clear hn104_0
   replace p104 := eq_true p104
   replace q104 := eq_true q104
   go_enter Try.func186, Try.ntmps186
   go_wp2
   repeat (go_quiet (fail); try go_wp2)
   go_ret
   exact ⟨tq_13, tq_9, tq_10, tq_4⟩
  ·rw [if_neg c3] at H
   exact absurd H (by simp)
 ·rw [if_neg c2] at H
  have c2b0 : decide (s0_1 < (s0_0.length : Int)) = false := decide_eq_false c2
  clear c2
  simp only [Option.some.injEq, Prod.mk.injEq] at H
  obtain ⟨rfl, rfl, rfl⟩ := H
  obtain ⟨ASz5_0, cSz5_0, HGz5, hgz5, HSz5_0⟩ := HI0.out
  have hcz5_0 := cellS189_0 HGz5
  have hcz5_1 := cellS189_1 HGz5
  have hcz5_2 := cellS189_2 HGz5
  have hfz5_1 := blk_frozen HGz5 1
  have hfz5_2 := blk_frozen HGz5 2
  clear HGz5 hgz5
  go_enter Try.func186, Try.ntmps186
  go_wp2
  repeat (go_quiet (fail); try go_wp2)
  go_ret
  exact ⟨tq_13, tq_9, tq_10, tq_4⟩

/-! ### spec_l01Below: function 119 -/
def spec_l01Below.f (s0_0 : List Int) (s0_1 : Int) (s0_2 : Int) (a1 : Int) : Option (Int × Int × Int) := if a1 ≤ 0 then (some (0, s0_1, s0_2)) else (if a1 ≤ 256 then ((spec_l01Byte.f s0_0 s0_1 s0_2).bind fun bt105 => (if a1 = 0 then (none) else (some (Int.tmod bt105.1 a1, bt105.2.1, bt105.2.2)))) else ((spec_l01Byte.f s0_0 s0_1 s0_2).bind fun bt108 => ((spec_l01Byte.f s0_0 bt108.2.1 bt108.2.2).bind fun bt111 => ((spec_l01Byte.f s0_0 bt111.2.1 bt111.2.2).bind fun bt114 => ((spec_l01Byte.f s0_0 bt114.2.1 bt114.2.2).bind fun bt117 => (if a1 = 0 then (none) else (some (Int.tmod (wrap64 ((wrap64 ((wrap64 ((wrap64 (bt108.1 * 16777216)) + (wrap64 (bt111.1 * 65536)))) + (wrap64 (bt114.1 * 256)))) + bt117.1)) a1, bt117.2.1, bt117.2.2))))))))
set_option maxHeartbeats 8000000 in
set_option maxRecDepth 100000 in
theorem spec_l01Below.calls (g : Nat) (s0_0 : List Int) (s0_1 : Int) (s0_2 : Int) (a1 : Int) (r1 : Int) (r2 : Int) (r3 : Int) (w0 w : World) (hI : IsS189 w0 w g s0_0 s0_1 s0_2) (hB : Below w0.heap.size w0 w) (h : spec_l01Below.f s0_0 s0_1 s0_2 a1 = some (r1, r2, r3)) :
  Calls Try.prog 119 #[.pointer (some ⟨g, 0, none⟩), .int .i64 a1] w fun e w' => e = .returned (.int .i64 r1) ∧ IsS189 w0 w' g s0_0 r2 r3 ∧ Below w0.heap.size w0 w' ∧ KeepBut w w' g none := by
 have HI0 := Aside0.mk hI
 have HK := Aside0.mk (KeepBut.refl w g none)
 have HL := Aside0.mk hB.size
 clear hI
 have HW0 := Aside0.mk hB.size
 have HB := Aside0.mk hB
 clear hB
 have H : (if a1 ≤ 0 then (some (0, s0_1, s0_2)) else (if a1 ≤ 256 then ((spec_l01Byte.f s0_0 s0_1 s0_2).bind fun bt105 => (if a1 = 0 then (none) else (some (Int.tmod bt105.1 a1, bt105.2.1, bt105.2.2)))) else ((spec_l01Byte.f s0_0 s0_1 s0_2).bind fun bt108 => ((spec_l01Byte.f s0_0 bt108.2.1 bt108.2.2).bind fun bt111 => ((spec_l01Byte.f s0_0 bt111.2.1 bt111.2.2).bind fun bt114 => ((spec_l01Byte.f s0_0 bt114.2.1 bt114.2.2).bind fun bt117 => (if a1 = 0 then (none) else (some (Int.tmod (wrap64 ((wrap64 ((wrap64 ((wrap64 (bt108.1 * 16777216)) + (wrap64 (bt111.1 * 65536)))) + (wrap64 (bt114.1 * 256)))) + bt117.1)) a1, bt117.2.1, bt117.2.2))))))))) = some (r1, r2, r3) := h
 clear h
 by_cases c3 : a1 ≤ 0
 ·rw [if_pos c3] at H
  have c3b0 : decide (a1 ≤ 0) = true := decide_eq_true c3
  clear c3
  simp only [Option.some.injEq, Prod.mk.injEq] at H
  obtain ⟨rfl, rfl, rfl⟩ := H
  go_enter Try.func119, Try.ntmps119
  go_wp2
  go_ret
  exact ⟨tq_13, tq_9, tq_10, tq_4⟩
 ·rw [if_neg c3] at H
  have c3b0 : decide (a1 ≤ 0) = false := decide_eq_false c3
  clear c3
  by_cases c4 : a1 ≤ 256
  ·rw [if_pos c4] at H
   have c4b0 : decide (a1 ≤ 256) = true := decide_eq_true c4
   clear c4
   replace H := Option.bind_eq_some_iff.mp H
   obtain ⟨⟨t105, t106, t107⟩, A50, H⟩ := H
   replace H : (if a1 = 0 then (none) else (some (Int.tmod t105 a1, t106, t107))) = some (r1, r2, r3) := H
   have A5 := Aside0.mk A50
   clear A50
   by_cases c6 : a1 = 0
   ·rw [if_pos c6] at H
    exact absurd H (by simp)
   ·rw [if_neg c6] at H
    have c6b0 : (a1 == 0) = false := beq_eq_false_iff_ne.mpr c6
    have c6b1 : (a1 != 0) = true := bne_iff_ne.mpr c6
    simp only [Option.some.injEq, Prod.mk.injEq] at H
    obtain ⟨rfl, rfl, rfl⟩ := H
    go_enter Try.func119, Try.ntmps119
    go_wp2_with (first | ((with_reducible refine gate_callee (f := 186) rfl ?_); refine goesL_ (some 14) rfl rfl Try.func186 (by kernel_rfl) rfl #[.pointer (some ⟨g, 0, none⟩)] rfl tq_1 ?_; (with_reducible refine (spec_l01Byte.calls g s0_0 s0_1 s0_2 t105 t106 t107 w0 _ ?side1 ?side2 A5.out).mono ?_); (case side1 => exact tq_11); (case side2 => exact tq_12); rintro e w7 ⟨rfl, hi, hb, hk⟩; refine ⟨_, rfl, ?_⟩; have z_ := p_ (KeepBut.trans tq_4 hk (.inl rfl)) <| p_ (hb) <| a_ (hi); clear HK HB HI0; obtain ⟨HK, HB, HI0⟩ := z_; (try clear hb); (try clear hb2); (try clear hk); (try clear hi)))
    go_ret
    exact ⟨tq_13, tq_9, tq_10, tq_4⟩
  ·rw [if_neg c4] at H
   have c4b0 : decide (a1 ≤ 256) = false := decide_eq_false c4
   clear c4
   replace H := Option.bind_eq_some_iff.mp H
   obtain ⟨⟨t108, t109, t110⟩, A80, H⟩ := H
   replace H : ((spec_l01Byte.f s0_0 t109 t110).bind fun bt111 => ((spec_l01Byte.f s0_0 bt111.2.1 bt111.2.2).bind fun bt114 => ((spec_l01Byte.f s0_0 bt114.2.1 bt114.2.2).bind fun bt117 => (if a1 = 0 then (none) else (some (Int.tmod (wrap64 ((wrap64 ((wrap64 ((wrap64 (t108 * 16777216)) + (wrap64 (bt111.1 * 65536)))) + (wrap64 (bt114.1 * 256)))) + bt117.1)) a1, bt117.2.1, bt117.2.2)))))) = some (r1, r2, r3) := H
   have A8 := Aside0.mk A80
   clear A80
   replace H := Option.bind_eq_some_iff.mp H
   obtain ⟨⟨t111, t112, t113⟩, A90, H⟩ := H
   replace H : ((spec_l01Byte.f s0_0 t112 t113).bind fun bt114 => ((spec_l01Byte.f s0_0 bt114.2.1 bt114.2.2).bind fun bt117 => (if a1 = 0 then (none) else (some (Int.tmod (wrap64 ((wrap64 ((wrap64 ((wrap64 (t108 * 16777216)) + (wrap64 (t111 * 65536)))) + (wrap64 (bt114.1 * 256)))) + bt117.1)) a1, bt117.2.1, bt117.2.2))))) = some (r1, r2, r3) := H
   have A9 := Aside0.mk A90
   clear A90
   replace H := Option.bind_eq_some_iff.mp H
   obtain ⟨⟨t114, t115, t116⟩, A100, H⟩ := H
   replace H : ((spec_l01Byte.f s0_0 t115 t116).bind fun bt117 => (if a1 = 0 then (none) else (some (Int.tmod (wrap64 ((wrap64 ((wrap64 ((wrap64 (t108 * 16777216)) + (wrap64 (t111 * 65536)))) + (wrap64 (t114 * 256)))) + bt117.1)) a1, bt117.2.1, bt117.2.2)))) = some (r1, r2, r3) := H
   have A10 := Aside0.mk A100
   clear A100
   replace H := Option.bind_eq_some_iff.mp H
   obtain ⟨⟨t117, t118, t119⟩, A110, H⟩ := H
   replace H : (if a1 = 0 then (none) else (some (Int.tmod (wrap64 ((wrap64 ((wrap64 ((wrap64 (t108 * 16777216)) + (wrap64 (t111 * 65536)))) + (wrap64 (t114 * 256)))) + t117)) a1, t118, t119))) = some (r1, r2, r3) := H
   have A11 := Aside0.mk A110
   clear A110
   by_cases c12 : a1 = 0
   ·rw [if_pos c12] at H
    exact absurd H (by simp)
   ·rw [if_neg c12] at H
    have c12b0 : (a1 == 0) = false := beq_eq_false_iff_ne.mpr c12
    have c12b1 : (a1 != 0) = true := bne_iff_ne.mpr c12
    simp only [Option.some.injEq, Prod.mk.injEq] at H
    obtain ⟨rfl, rfl, rfl⟩ := H
    go_enter Try.func119, Try.ntmps119
    go_wp2_with (first | ((with_reducible refine gate_callee (f := 186) rfl ?_); refine goesL_ (some 18) rfl rfl Try.func186 (by kernel_rfl) rfl #[.pointer (some ⟨g, 0, none⟩)] rfl tq_1 ?_; (with_reducible refine (spec_l01Byte.calls g s0_0 s0_1 s0_2 t108 t109 t110 w0 _ ?side1 ?side2 A8.out).mono ?_); (case side1 => exact tq_11); (case side2 => exact tq_12); rintro e w13 ⟨rfl, hi, hb, hk⟩; refine ⟨_, rfl, ?_⟩; have z_ := p_ (KeepBut.trans tq_4 hk (.inl rfl)) <| p_ (hb) <| a_ (hi); clear HK HB HI0; obtain ⟨HK, HB, HI0⟩ := z_; (try clear hb); (try clear hb2); (try clear hk); (try clear hi)) | ((with_reducible refine gate_callee (f := 186) rfl ?_); refine goesL_ (some 20) rfl rfl Try.func186 (by kernel_rfl) rfl #[.pointer (some ⟨g, 0, none⟩)] rfl tq_1 ?_; (with_reducible refine (spec_l01Byte.calls g s0_0 t109 t110 t111 t112 t113 w0 _ ?side1 ?side2 A9.out).mono ?_); (case side1 => exact tq_11); (case side2 => exact tq_12); rintro e w14 ⟨rfl, hi, hb, hk⟩; refine ⟨_, rfl, ?_⟩; have z_ := p_ (KeepBut.trans tq_4 hk (.inl rfl)) <| p_ (hb) <| a_ (hi); clear HK HB HI0; obtain ⟨HK, HB, HI0⟩ := z_; (try clear hb); (try clear hb2); (try clear hk); (try clear hi)) | ((with_reducible refine gate_callee (f := 186) rfl ?_); refine goesL_ (some 22) rfl rfl Try.func186 (by kernel_rfl) rfl #[.pointer (some ⟨g, 0, none⟩)] rfl tq_1 ?_; (with_reducible refine (spec_l01Byte.calls g s0_0 t112 t113 t114 t115 t116 w0 _ ?side1 ?side2 A10.out).mono ?_); (case side1 => exact tq_11); (case side2 => exact tq_12); rintro e w15 ⟨rfl, hi, hb, hk⟩; refine ⟨_, rfl, ?_⟩; have z_ := p_ (KeepBut.trans tq_4 hk (.inl rfl)) <| p_ (hb) <| a_ (hi); clear HK HB HI0; obtain ⟨HK, HB, HI0⟩ := z_; (try clear hb); (try clear hb2); (try clear hk); (try clear hi)) | ((with_reducible refine gate_callee (f := 186) rfl ?_); refine goesL_ (some 24) rfl rfl Try.func186 (by kernel_rfl) rfl #[.pointer (some ⟨g, 0, none⟩)] rfl tq_1 ?_; (with_reducible refine (spec_l01Byte.calls g s0_0 t115 t116 t117 t118 t119 w0 _ ?side1 ?side2 A11.out).mono ?_); (case side1 => exact tq_11); (case side2 => exact tq_12); rintro e w16 ⟨rfl, hi, hb, hk⟩; refine ⟨_, rfl, ?_⟩; have z_ := p_ (KeepBut.trans tq_4 hk (.inl rfl)) <| p_ (hb) <| a_ (hi); clear HK HB HI0; obtain ⟨HK, HB, HI0⟩ := z_; (try clear hb); (try clear hb2); (try clear hk); (try clear hi)))
    go_ret
    exact ⟨tq_13, tq_9, tq_10, tq_4⟩

/-! ### spec_l01PickInt: function 179 -/
def spec_l01PickInt.f (s0_0 : List Int) (s0_1 : Int) (s0_2 : Int) (l1 : List Int) : Option (Int × Int × Int) := (spec_l01Below.f s0_0 s0_1 s0_2 (l1.length : Int)).bind fun bt120 => (if 0 ≤ bt120.1 then (if bt120.1 < (l1.length : Int) then (some (rd l1 bt120.1, bt120.2.1, bt120.2.2)) else (none)) else (none))
set_option maxHeartbeats 8000000 in
set_option maxRecDepth 100000 in
theorem spec_l01PickInt.calls (g : Nat) (s0_0 : List Int) (s0_1 : Int) (s0_2 : Int) (A1 : Option Addr) (c1 : Nat) (l1 : List Int) (r1 : Int) (r2 : Int) (r3 : Int) (w0 w : World) (hI : IsS189 w0 w g s0_0 s0_1 s0_2) (hB : Below w0.heap.size w0 w) (hr1 : Kd.C (Kd.int .i64) w A1 l1.length l1) (hc1 : l1.length ≤ c1) (hf1 : ∀ ad, A1 = some ad → 0 < l1.length → ad.block ≠ g) (h : spec_l01PickInt.f s0_0 s0_1 s0_2 l1 = some (r1, r2, r3)) :
  Calls Try.prog 179 #[.pointer (some ⟨g, 0, none⟩), .slice A1 l1.length c1] w fun e w' => e = .returned (.int .i64 r1) ∧ IsS189 w0 w' g s0_0 r2 r3 ∧ Below w0.heap.size w0 w' ∧ KeepBut w w' g none := by
 have HR1 := Aside0.mk hr1
 have HC1 := Aside0.mk hc1
 clear hr1 hc1
 have HI0 := Aside0.mk hI
 have HK := Aside0.mk (KeepBut.refl w g none)
 have HL := Aside0.mk hB.size
 clear hI
 have HW0 := Aside0.mk hB.size
 have HB := Aside0.mk hB
 clear hB
 have H : ((spec_l01Below.f s0_0 s0_1 s0_2 (l1.length : Int)).bind fun bt120 => (if 0 ≤ bt120.1 then (if bt120.1 < (l1.length : Int) then (some (rd l1 bt120.1, bt120.2.1, bt120.2.2)) else (none)) else (none))) = some (r1, r2, r3) := h
 clear h
 replace H := Option.bind_eq_some_iff.mp H
 obtain ⟨⟨t120, t121, t122⟩, A30, H⟩ := H
 replace H : (if 0 ≤ t120 then (if t120 < (l1.length : Int) then (some (rd l1 t120, t121, t122)) else (none)) else (none)) = some (r1, r2, r3) := H
 have A3 := Aside0.mk A30
 clear A30
 by_cases c4 : 0 ≤ t120
 ·rw [if_pos c4] at H
  have c4b0 : decide (0 ≤ t120) = true := decide_eq_true c4
  clear c4
  by_cases c5 : t120 < (l1.length : Int)
  ·rw [if_pos c5] at H
   have c5b0 : decide (t120 < (l1.length : Int)) = true := decide_eq_true c5
   clear c5
   simp only [Option.some.injEq, Prod.mk.injEq] at H
   obtain ⟨rfl, rfl, rfl⟩ := H
   go_enter Try.func179, Try.ntmps179
   go_wp2_with (first | ((with_reducible refine gate_callee (f := 119) rfl ?_); refine goesL_ (some 9) rfl rfl Try.func119 (by kernel_rfl) rfl #[.pointer (some ⟨g, 0, none⟩), .int .i64 (l1.length : Int)] rfl tq_1 ?_; (with_reducible refine (spec_l01Below.calls g s0_0 s0_1 s0_2 (l1.length : Int) t120 t121 t122 w0 _ ?side1 ?side2 A3.out).mono ?_); (case side1 => exact tq_11); (case side2 => exact tq_12); rintro e w6 ⟨rfl, hi, hb, hk⟩; refine ⟨_, rfl, ?_⟩; have z_ := p_ (KeepBut.trans tq_4 hk (.inl rfl)) <| p_ (hb) <| a_ (hi); clear HK HB HI0; obtain ⟨HK, HB, HI0⟩ := z_; (try clear hb); (try clear hb2); (try clear hk); (try clear hi); have p123 : 0 ≤ (t120 : Int) := of_decide_eq_true tq_14; have q123 : t120 < (l1.length : Int) := of_decide_eq_true tq_14; obtain ⟨ad123, e123, hx123_0⟩ := Kd.at_int HR1.out t120 p123 q123; cases e123; replace hx123_0 := keep_cell HK.out hx123_0 (by first | (rw [add_block]; exact hf1 _ rfl (by omega)) | exact hf1 _ rfl (by omega) | exact hf1 ad123 rfl (by omega)); replace p123 := eq_true p123; replace q123 := eq_true q123))
   go_ret
   exact ⟨tq_13, tq_9, tq_10, tq_4⟩
  ·rw [if_neg c5] at H
   exact absurd H (by simp)
 ·rw [if_neg c4] at H
  exact absurd H (by simp)

/-! ### spec_l13List: function 191 -/
def spec_l13List.l0 : Nat → List Int → Int → List Int → Int → Int → Option (List Int × Int × Int)
 | 0, _, _, _, _, _ => none
 | k + 1, x3, x4, x1000, x1001, x1002 => (spec_l01Below.f x1000 x1001 x1002 12).bind fun bt127 => (if x4 < (wrap64 (1 + bt127.1)) then ((spec_l01Below.f x1000 bt127.2.1 bt127.2.2 3).bind fun bt130 => (if x3.length < 17592186044416 then (spec_l13List.l0 k (x3 ++ [bt130.1]) (wrap64 (x4 + 1)) x1000 bt130.2.1 bt130.2.2) else (none))) else (some (x3, bt127.2.1, bt127.2.2)))
def spec_l13List.f (k : Nat) (s0_0 : List Int) (s0_1 : Int) (s0_2 : Int) : Option (List Int × Int × Int) := spec_l13List.l0 k (([] : List Int)) 0 s0_0 s0_1 s0_2
theorem spec_l13List.mono_l : ∀ k, (∀ y0 y1 y2 y3 y4, LeO (spec_l13List.l0 k y0 y1 y2 y3 y4) (spec_l13List.l0 (k + 1) y0 y1 y2 y3 y4))
 | 0 => fun _ _ _ _ _ r h => by simp [spec_l13List.l0] at h
 | k + 1 => by
  have ih0 := spec_l13List.mono_l k
  ·intro y0 y1 y2 y3 y4
   unfold spec_l13List.l0
   repeat' first
   | (with_reducible exact ih0 ..)
   | (with_reducible exact LeO.refl _)
   | (with_reducible exact LeO.none _)
   | (with_reducible refine LeO.ite ?_ ?_)
   | (with_reducible refine LeO.bind ?_ (fun _ => ?_))
   | exact ih0 ..
   | exact LeO.none _
   | refine LeO.ite ?_ ?_
   | refine LeO.bind ?_ (fun _ => ?_)
theorem spec_l13List.mono : ∀ a0 a1 a2 k, LeO (spec_l13List.f k a0 a1 a2) (spec_l13List.f (k + 1) a0 a1 a2) := by
 intro a0 a1 a2 k
 have ih0 := spec_l13List.mono_l k
 unfold spec_l13List.f
 repeat' first
   | (with_reducible exact ih0 ..)
   | (with_reducible exact LeO.refl _)
   | (with_reducible exact LeO.none _)
   | (with_reducible refine LeO.ite ?_ ?_)
   | (with_reducible refine LeO.bind ?_ (fun _ => ?_))
   | exact ih0 ..
   | exact LeO.none _
   | refine LeO.ite ?_ ?_
   | refine LeO.bind ?_ (fun _ => ?_)
set_option maxHeartbeats 8000000 in
set_option maxRecDepth 100000 in
theorem spec_l13List.calls (k : Nat) (g : Nat) (s0_0 : List Int) (s0_1 : Int) (s0_2 : Int) (r1 : List Int) (r2 : Int) (r3 : Int) (w0 w : World) (hI : IsS189 w0 w g s0_0 s0_1 s0_2) (hB : Below w0.heap.size w0 w) (h : spec_l13List.f k s0_0 s0_1 s0_2 = some (r1, r2, r3)) :
  Calls Try.prog 191 #[.pointer (some ⟨g, 0, none⟩)] w fun e w' => ∃ v0_ : Value, e = .returned (v0_) ∧ Kd.R (Kd.int .i64) 3 w' w.heap.size (fun _ => True) v0_ r1 ∧ IsS189 w0 w' g s0_0 r2 r3 ∧ Below w0.heap.size w0 w' ∧ KeepBut w w' g none := by
 have HI0 := Aside0.mk hI
 have HK := Aside0.mk (KeepBut.refl w g none)
 have HL := Aside0.mk hB.size
 clear hI
 have HW0 := Aside0.mk hB.size
 have HB := Aside0.mk hB
 clear hB
 have H : (spec_l13List.l0 k (([] : List Int)) 0 s0_0 s0_1 s0_2) = some (r1, r2, r3) := h
 clear h
 obtain ⟨y124, hy124⟩ : ∃ y_ : List Int, y_ = (([] : List Int)) := ⟨_, rfl⟩
 replace H : (spec_l13List.l0 k y124 0 s0_0 s0_1 s0_2) = some (r1, r2, r3) := by first | (rw [hy124]; with_reducible exact H) | (have H2_ := (Option.bind_some _ _).symm.trans H; rw [hy124]; with_reducible exact H2_) | (have H2_ := (Option.bind_some _ _).symm.trans H; with_reducible exact H2_) | with_reducible exact H | (rw [hy124]; exact H) | exact H
 have Ny124 := Aside0.mk hy124
 clear hy124
 have H' := Aside0.mk H
 clear H
 go_enter Try.func191, Try.ntmps191
 go_wp2_with (first | ((with_reducible refine gate_dst (N := 5) rfl ?_); refine Kd.R_lit (Kd.int .i64) _ 3 ?hg (N := 5) ?hd (xs := ([] : List Int)) (inner := []) (ok := fun _ => True) (okp := fun _ => True) ?hr ?hp (fun _ hk => hk) trivial (Below.refl _ _) (Nat.le_refl _) (by simp) ?_; (case hd => rfl); (case hg => rfl); (case hr => first | (go_simp; done) | (go_simp; rfl)); (case hp => exact (Reps.none _ _)); intro v125 w2 ho3 hb hg_ hnew_; clear hg_ hnew_; (first | rw [← Ny124.out] at ho3 | (simp only [Int.reduceToNat] at ho3; rw [← Ny124.out] at ho3)); have z_ := p_ (Kd.R_lower ho3 (keep_size (w := w) (g := g) (row := none) tq_4)) <| p_ (IsS189.below tq_9 hb) <| p_ (KeepBut.trans tq_4 (KeepBut.of_below hb g none) (.inl rfl)) <| a_ (below_step tq_10 hb); clear HI0 HK HB; obtain ⟨HO126, HI0, HK, HB⟩ := z_; clear hb ho3))
 go_loopg [3, 4] k (fun kq v3 v4 w' => ∃ (x3_1 : List Int) (x4_1 : Int) (x1001_1 : Int) (x1002_1 : Int), v4 = .int .i64 x4_1 ∧ Aside0 (spec_l13List.l0 kq x3_1 x4_1 s0_0 x1001_1 x1002_1 = some (r1, r2, r3)) ∧ Aside0 (kq ≤ k) ∧ Aside0 (Kd.R (Kd.int .i64) 3 w' w.heap.size (fun _ => True) v3 x3_1) ∧ Aside0 (IsS189 w0 w' g s0_0 x1001_1 x1002_1) ∧ Aside0 (KeepBut w w' g none) ∧ Aside0 (Below w0.heap.size w0 w'))
 case atStart => exact ⟨(y124), (0), (s0_1), (s0_2), tq_16, H', ⟨Nat.le_refl _⟩, ⟨(by (with_reducible repeat (first | apply Kd.R_alloc | apply Kd.R_drewN | apply Kd.R_drew)); exact HO126.out)⟩, ⟨tq_9⟩, ⟨tq_4⟩, ⟨tq_10⟩⟩
 case round =>
  clear H'
  try clear c1
  try clear p2
  obtain ⟨x3_1, x4_1, x1001_1, x1002_1, rfl, HA, HK1, HO_3, HI0, HK, HB⟩ := hrel
  cases gk with
  | zero => exact absurd HA.out (by simp [spec_l13List.l0])
  | succ k1 =>
   have H := HA.out
   clear HA
   simp only [spec_l13List.l0] at H
   replace H := Option.bind_eq_some_iff.mp H
   obtain ⟨⟨t127, t128, t129⟩, A40, H⟩ := H
   replace H : (if x4_1 < (wrap64 (1 + t127)) then ((spec_l01Below.f s0_0 t128 t129 3).bind fun bt130 => (if x3_1.length < 17592186044416 then (spec_l13List.l0 k1 (x3_1 ++ [bt130.1]) (wrap64 (x4_1 + 1)) s0_0 bt130.2.1 bt130.2.2) else (none))) else (some (x3_1, t128, t129))) = some (r1, r2, r3) := H
   have A4 := Aside0.mk A40
   clear A40
   by_cases c5 : x4_1 < (wrap64 (1 + t127))
   ·rw [if_pos c5] at H
    have c5b0 : decide (x4_1 < (wrap64 (1 + t127))) = true := decide_eq_true c5
    clear c5
    replace H := Option.bind_eq_some_iff.mp H
    obtain ⟨⟨t130, t131, t132⟩, A60, H⟩ := H
    replace H : (if x3_1.length < 17592186044416 then (spec_l13List.l0 k1 (x3_1 ++ [t130]) (wrap64 (x4_1 + 1)) s0_0 t131 t132) else (none)) = some (r1, r2, r3) := H
    have A6 := Aside0.mk A60
    clear A60
    by_cases c7 : x3_1.length < 17592186044416
    ·rw [if_pos c7] at H
     have LMc7 := Aside0.mk c7
     clear c7
     obtain ⟨y133, hy133⟩ : ∃ y_ : List Int, y_ = (x3_1 ++ [t130]) := ⟨_, rfl⟩
     replace H : (spec_l13List.l0 k1 y133 (wrap64 (x4_1 + 1)) s0_0 t131 t132) = some (r1, r2, r3) := by first | (rw [hy133]; with_reducible exact H) | (have H2_ := (Option.bind_some _ _).symm.trans H; rw [hy133]; with_reducible exact H2_) | (have H2_ := (Option.bind_some _ _).symm.trans H; with_reducible exact H2_) | with_reducible exact H | (rw [hy133]; exact H) | exact H
     have Ny133 := Aside0.mk hy133
     clear hy133
     have H' := Aside0.mk H
     clear H
     go_wp2_with (first | ((with_reducible refine gate_callee (f := 119) rfl ?_); refine goesL_ (some 8) rfl rfl Try.func119 (by kernel_rfl) rfl #[.pointer (some ⟨g, 0, none⟩), .int .i64 12] rfl tq_1 ?_; (with_reducible refine (spec_l01Below.calls g s0_0 x1001_1 x1002_1 12 t127 t128 t129 w0 _ ?side1 ?side2 A4.out).mono ?_); (case side1 => exact tq_11); (case side2 => exact tq_12); rintro e w8 ⟨rfl, hi, hb, hk⟩; refine ⟨_, rfl, ?_⟩; have z_ := p_ (Kd.R_mono (Kd.R_keep (IsS189.apart (show IsS189 w0 _ g s0_0 x1001_1 x1002_1 from by repeat (first | (with_reducible first | exact HI0.out | apply IsS189.alloc | apply IsS189.drewN | apply IsS189.drew | apply IsS189.set_1 | apply IsS189.set_2) | exact HI0.out)) tq_2 (by decide)) hk (fun _ h => h.2)) (fun _ h => h.1)) <| p_ (KeepBut.trans tq_4 hk (.inl rfl)) <| p_ (hb) <| a_ (hi); clear HO_3 HK HB HI0; obtain ⟨HO_3, HK, HB, HI0⟩ := z_; (try clear hb); (try clear hb2); (try clear hk); (try clear hi)) | ((with_reducible refine gate_callee (f := 119) rfl ?_); refine goesL_ (some 15) rfl rfl Try.func119 (by kernel_rfl) rfl #[.pointer (some ⟨g, 0, none⟩), .int .i64 3] rfl tq_1 ?_; (with_reducible refine (spec_l01Below.calls g s0_0 t128 t129 3 t130 t131 t132 w0 _ ?side1 ?side2 A6.out).mono ?_); (case side1 => exact tq_11); (case side2 => exact tq_12); rintro e w9 ⟨rfl, hi, hb, hk⟩; refine ⟨_, rfl, ?_⟩; have z_ := p_ (Kd.R_mono (Kd.R_keep (IsS189.apart (show IsS189 w0 _ g s0_0 t128 t129 from by repeat (first | (with_reducible first | exact HI0.out | apply IsS189.alloc | apply IsS189.drewN | apply IsS189.drew | apply IsS189.set_1 | apply IsS189.set_2) | exact HI0.out)) tq_2 (by decide)) hk (fun _ h => h.2)) (fun _ h => h.1)) <| p_ (KeepBut.trans tq_4 hk (.inl rfl)) <| p_ (hb) <| a_ (hi); clear HO_3 HK HB HI0; obtain ⟨HO_3, HK, HB, HI0⟩ := z_; (try clear hb); (try clear hb2); (try clear hk); (try clear hi)) | ((with_reducible refine gate_builtin (b := .append) (xs := #[.tmp 13, .tmp 16]) rfl ?_); at_builtin; refine Kd.R_append (Kd.int .i64) w.heap.size rfl (.tmp 13) (.tmp 16) 66 3 (.int .i64 0) 8 rfl Try.underlying66 info3 rfl (by decide) (by omega) u3 x3_1 t130 [.int .i64 t130] (fun _ => True) (fun _ => False) rfl rfl ?aP (fun _ hk => hk.elim) ?aF ?aO (Below.refl _ _) ?aS ?aL ?_; (case aP => exact rfl); (case aF => exact (fun _ _ => trivial)); (case aO => exact tq_2); (case aS => exact (keep_size (w := w) (g := g) (row := none) tq_4)); (case aL => have := LMc7.out; omega); intro v134 w10 ho hb hg hat; rw [← Ny133.out] at ho; have z_ := p_ (IsS189.grown tq_9 hg (IsS189.own_ne HI0.out HO_3.out (by decide))) <| p_ (below_weaken tq_10 HL.out hb) <| p_ (KeepBut.trans tq_4 (KeepBut.of_grown hg g) (Kd.R_base2 HO_3.out)) <| a_ (ho); clear HI0 HB HK HO_3; obtain ⟨HI0, HB, HK, HO135⟩ := z_; clear ho hb hg hat))
     go_roundg k1
     case measure => have := HK1.out; omega
     case rel => exact ⟨(y133), (wrap64 (x4_1 + 1)), (t131), (t132), tq_16, H', ⟨tq_35⟩, ⟨(by (with_reducible repeat (first | apply Kd.R_alloc | apply Kd.R_drewN | apply Kd.R_drew)); exact HO135.out)⟩, ⟨tq_9⟩, ⟨tq_4⟩, ⟨tq_10⟩⟩
    ·rw [if_neg c7] at H
     exact absurd H (by simp)
   ·rw [if_neg c5] at H
    have c5b0 : decide (x4_1 < (wrap64 (1 + t127))) = false := decide_eq_false c5
    clear c5
    simp only [Option.some.injEq, Prod.mk.injEq] at H
    obtain ⟨rfl, rfl, rfl⟩ := H
    go_wp2_with (first | ((with_reducible refine gate_callee (f := 119) rfl ?_); refine goesL_ (some 8) rfl rfl Try.func119 (by kernel_rfl) rfl #[.pointer (some ⟨g, 0, none⟩), .int .i64 12] rfl tq_1 ?_; (with_reducible refine (spec_l01Below.calls g s0_0 x1001_1 x1002_1 12 t127 t128 t129 w0 _ ?side1 ?side2 A4.out).mono ?_); (case side1 => exact tq_11); (case side2 => exact tq_12); rintro e w11 ⟨rfl, hi, hb, hk⟩; refine ⟨_, rfl, ?_⟩; have z_ := p_ (Kd.R_mono (Kd.R_keep (IsS189.apart (show IsS189 w0 _ g s0_0 x1001_1 x1002_1 from by repeat (first | (with_reducible first | exact HI0.out | apply IsS189.alloc | apply IsS189.drewN | apply IsS189.drew | apply IsS189.set_1 | apply IsS189.set_2) | exact HI0.out)) tq_2 (by decide)) hk (fun _ h => h.2)) (fun _ h => h.1)) <| p_ (KeepBut.trans tq_4 hk (.inl rfl)) <| p_ (hb) <| a_ (hi); clear HO_3 HK HB HI0; obtain ⟨HO_3, HK, HB, HI0⟩ := z_; (try clear hb); (try clear hb2); (try clear hk); (try clear hi)))
    go_ret
    exact ⟨_, tq_13, tq_2, tq_9, tq_10, tq_4⟩

/-! ### spec_l13Any: function 137 -/
def spec_l13Any.l0 : Nat → List Int → List Int → Int → Int → Option (List Int × Int × Int)
 | 0, _, _, _, _ => none
 | k + 1, x3, x1000, x1001, x1002 => if (x3.length : Int) < 13 then (if x3.length < 17592186044416 then (spec_l13Any.l0 k (x3 ++ [0]) x1000 x1001 x1002) else (none)) else (some (x3, x1001, x1002))
def spec_l13Any.f (k : Nat) (s0_0 : List Int) (s0_1 : Int) (s0_2 : Int) : Option (List Int × Int × Int) := (spec_l13List.f k s0_0 s0_1 s0_2).bind fun bt136 => ((spec_l01Below.f s0_0 bt136.2.1 bt136.2.2 8).bind fun bt141 => (if bt141.1 = 0 then ((spec_l01PickInt.f s0_0 bt141.2.1 bt141.2.2 (([3, (-1)] : List Int))).bind fun bt147 => (if 0 < (bt136.1.length : Int) then (some ((bt136.1.set (0 : Int).toNat bt147.1), bt147.2.1, bt147.2.2)) else (none))) else (if bt141.1 = 1 then (spec_l13Any.l0 k bt136.1 s0_0 bt141.2.1 bt141.2.2) else (if bt141.1 = 2 then (some ((([] : List Int)), bt141.2.1, bt141.2.2)) else (some (bt136.1, bt141.2.1, bt141.2.2))))))
theorem spec_l13Any.mono_l : ∀ k, (∀ y0 y1 y2 y3, LeO (spec_l13Any.l0 k y0 y1 y2 y3) (spec_l13Any.l0 (k + 1) y0 y1 y2 y3))
 | 0 => fun _ _ _ _ r h => by simp [spec_l13Any.l0] at h
 | k + 1 => by
  have ih0 := spec_l13Any.mono_l k
  ·intro y0 y1 y2 y3
   unfold spec_l13Any.l0
   repeat' first
   | (with_reducible exact ih0 ..)
   | (with_reducible exact spec_l13List.mono ..)
   | (with_reducible exact LeO.refl _)
   | (with_reducible exact LeO.none _)
   | (with_reducible refine LeO.ite ?_ ?_)
   | (with_reducible refine LeO.bind ?_ (fun _ => ?_))
   | exact ih0 ..
   | exact spec_l13List.mono ..
   | exact LeO.none _
   | refine LeO.ite ?_ ?_
   | refine LeO.bind ?_ (fun _ => ?_)
theorem spec_l13Any.mono : ∀ a0 a1 a2 k, LeO (spec_l13Any.f k a0 a1 a2) (spec_l13Any.f (k + 1) a0 a1 a2) := by
 intro a0 a1 a2 k
 have ih0 := spec_l13Any.mono_l k
 unfold spec_l13Any.f
 repeat' first
   | (with_reducible exact ih0 ..)
   | (with_reducible exact spec_l13List.mono ..)
   | (with_reducible exact LeO.refl _)
   | (with_reducible exact LeO.none _)
   | (with_reducible refine LeO.ite ?_ ?_)
   | (with_reducible refine LeO.bind ?_ (fun _ => ?_))
   | exact ih0 ..
   | exact spec_l13List.mono ..
   | exact LeO.none _
   | refine LeO.ite ?_ ?_
   | refine LeO.bind ?_ (fun _ => ?_)
set_option maxHeartbeats 8000000 in
set_option maxRecDepth 100000 in
theorem spec_l13Any.calls (k : Nat) (g : Nat) (s0_0 : List Int) (s0_1 : Int) (s0_2 : Int) (r1 : List Int) (r2 : Int) (r3 : Int) (w0 w : World) (hI : IsS189 w0 w g s0_0 s0_1 s0_2) (hB : Below w0.heap.size w0 w) (h : spec_l13Any.f k s0_0 s0_1 s0_2 = some (r1, r2, r3)) :
  Calls Try.prog 137 #[.pointer (some ⟨g, 0, none⟩)] w fun e w' => ∃ v0_ : Value, e = .returned (v0_) ∧ Kd.R (Kd.int .i64) 3 w' w.heap.size (fun _ => True) v0_ r1 ∧ IsS189 w0 w' g s0_0 r2 r3 ∧ Below w0.heap.size w0 w' ∧ KeepBut w w' g none := by
 have HI0 := Aside0.mk hI
 have HK := Aside0.mk (KeepBut.refl w g none)
 have HL := Aside0.mk hB.size
 clear hI
 have HW0 := Aside0.mk hB.size
 have HB := Aside0.mk hB
 clear hB
 have H : ((spec_l13List.f k s0_0 s0_1 s0_2).bind fun bt136 => ((spec_l01Below.f s0_0 bt136.2.1 bt136.2.2 8).bind fun bt141 => (if bt141.1 = 0 then ((spec_l01PickInt.f s0_0 bt141.2.1 bt141.2.2 (([3, (-1)] : List Int))).bind fun bt147 => (if 0 < (bt136.1.length : Int) then (some ((bt136.1.set (0 : Int).toNat bt147.1), bt147.2.1, bt147.2.2)) else (none))) else (if bt141.1 = 1 then (spec_l13Any.l0 k bt136.1 s0_0 bt141.2.1 bt141.2.2) else (if bt141.1 = 2 then (some ((([] : List Int)), bt141.2.1, bt141.2.2)) else (some (bt136.1, bt141.2.1, bt141.2.2))))))) = some (r1, r2, r3) := h
 clear h
 replace H := Option.bind_eq_some_iff.mp H
 obtain ⟨⟨t136, t139, t140⟩, A20, H⟩ := H
 replace H : ((spec_l01Below.f s0_0 t139 t140 8).bind fun bt141 => (if bt141.1 = 0 then ((spec_l01PickInt.f s0_0 bt141.2.1 bt141.2.2 (([3, (-1)] : List Int))).bind fun bt147 => (if 0 < (t136.length : Int) then (some ((t136.set (0 : Int).toNat bt147.1), bt147.2.1, bt147.2.2)) else (none))) else (if bt141.1 = 1 then (spec_l13Any.l0 k t136 s0_0 bt141.2.1 bt141.2.2) else (if bt141.1 = 2 then (some ((([] : List Int)), bt141.2.1, bt141.2.2)) else (some (t136, bt141.2.1, bt141.2.2)))))) = some (r1, r2, r3) := H
 have A2 := Aside0.mk A20
 clear A20
 replace H := Option.bind_eq_some_iff.mp H
 obtain ⟨⟨t141, t142, t143⟩, A30, H⟩ := H
 replace H : (if t141 = 0 then ((spec_l01PickInt.f s0_0 t142 t143 (([3, (-1)] : List Int))).bind fun bt147 => (if 0 < (t136.length : Int) then (some ((t136.set (0 : Int).toNat bt147.1), bt147.2.1, bt147.2.2)) else (none))) else (if t141 = 1 then (spec_l13Any.l0 k t136 s0_0 t142 t143) else (if t141 = 2 then (some ((([] : List Int)), t142, t143)) else (some (t136, t142, t143))))) = some (r1, r2, r3) := H
 have A3 := Aside0.mk A30
 clear A30
 by_cases c4 : t141 = 0
 ·rw [if_pos c4] at H
  have c4b0 : (t141 == 0) = true := beq_iff_eq.mpr c4
  have c4b1 : (t141 != 0) = false := bne_eq_false_iff_eq.mpr c4
  clear c4
  obtain ⟨y144, hy144⟩ : ∃ y_ : List Int, y_ = (([3, (-1)] : List Int)) := ⟨_, rfl⟩
  replace H : ((spec_l01PickInt.f s0_0 t142 t143 y144).bind fun bt147 => (if 0 < (t136.length : Int) then (some ((t136.set (0 : Int).toNat bt147.1), bt147.2.1, bt147.2.2)) else (none))) = some (r1, r2, r3) := by first | (rw [hy144]; with_reducible exact H) | (have H2_ := (Option.bind_some _ _).symm.trans H; rw [hy144]; with_reducible exact H2_) | (have H2_ := (Option.bind_some _ _).symm.trans H; with_reducible exact H2_) | with_reducible exact H | (rw [hy144]; exact H) | exact H
  have Ny144 := Aside0.mk hy144
  clear hy144
  replace H := Option.bind_eq_some_iff.mp H
  obtain ⟨⟨t147, t148, t149⟩, A50, H⟩ := H
  replace H : (if 0 < (t136.length : Int) then (some ((t136.set (0 : Int).toNat t147), t148, t149)) else (none)) = some (r1, r2, r3) := H
  have A5 := Aside0.mk A50
  clear A50
  by_cases c6 : 0 < (t136.length : Int)
  ·rw [if_pos c6] at H
   have c6b0 : decide (0 < (t136.length : Int)) = true := decide_eq_true c6
   have c6b1 : decide (0 < t136.length) = true := decide_eq_true (by omega)
   clear c6
   obtain ⟨y150, hy150⟩ : ∃ y_ : List Int, y_ = (t136.set (0 : Int).toNat t147) := ⟨_, rfl⟩
   replace H : (some (y150, t148, t149)) = some (r1, r2, r3) := by first | (rw [hy150]; with_reducible exact H) | (have H2_ := (Option.bind_some _ _).symm.trans H; rw [hy150]; with_reducible exact H2_) | (have H2_ := (Option.bind_some _ _).symm.trans H; with_reducible exact H2_) | with_reducible exact H | (rw [hy150]; exact H) | exact H
   have Ny150 := Aside0.mk hy150
   clear hy150
   simp only [Option.some.injEq, Prod.mk.injEq] at H
   obtain ⟨rfl, rfl, rfl⟩ := H
   go_enter Try.func137, Try.ntmps137
   go_wp2_with (first | ((with_reducible refine gate_callee (f := 191) rfl ?_); refine goesL_ (some 5) rfl rfl Try.func191 (by kernel_rfl) rfl #[.pointer (some ⟨g, 0, none⟩)] rfl tq_1 ?_; (with_reducible refine (spec_l13List.calls k g s0_0 s0_1 s0_2 t136 t139 t140 w0 _ ?side1 ?side2 A2.out).mono ?_); (case side1 => exact tq_11); (case side2 => exact tq_12); rintro e w8 ⟨v137, rfl, ho0, hi, hb, hk⟩; refine ⟨_, rfl, ?_⟩; have z_ := p_ (Kd.R_lower ho0 (keep_size (w := w) (g := g) (row := none) tq_4)) <| p_ (KeepBut.trans tq_4 hk (.inl rfl)) <| p_ (hb) <| a_ (hi); clear HK HB HI0; obtain ⟨HO138, HK, HB, HI0⟩ := z_; (try clear hb); (try clear hb2); (try clear hk); (try clear hi); (try clear ho0)) | ((with_reducible refine gate_callee (f := 119) rfl ?_); refine goesL_ (some 7) rfl rfl Try.func119 (by kernel_rfl) rfl #[.pointer (some ⟨g, 0, none⟩), .int .i64 8] rfl tq_1 ?_; (with_reducible refine (spec_l01Below.calls g s0_0 t139 t140 8 t141 t142 t143 w0 _ ?side1 ?side2 A3.out).mono ?_); (case side1 => exact tq_11); (case side2 => exact tq_12); rintro e w9 ⟨rfl, hi, hb, hk⟩; refine ⟨_, rfl, ?_⟩; have z_ := p_ (Kd.R_mono (Kd.R_keep (IsS189.apart (show IsS189 w0 _ g s0_0 t139 t140 from by repeat (first | (with_reducible first | exact HI0.out | apply IsS189.alloc | apply IsS189.drewN | apply IsS189.drew | apply IsS189.set_1 | apply IsS189.set_2) | exact HI0.out)) tq_23 (by decide)) hk (fun _ h => h.2)) (fun _ h => h.1)) <| p_ (KeepBut.trans tq_4 hk (.inl rfl)) <| p_ (hb) <| a_ (hi); clear HO138 HK HB HI0; obtain ⟨HO138, HK, HB, HI0⟩ := z_; (try clear hb); (try clear hb2); (try clear hk); (try clear hi)) | ((with_reducible refine gate_dst (N := 12) rfl ?_); refine Kd.R_lit (Kd.int .i64) _ 3 ?hg (N := 12) ?hd (xs := ([3, (-1)] : List Int)) (inner := [.int .i64 3, .int .i64 (-1)]) (ok := fun _ => True) (okp := fun _ => True) ?hr ?hp (fun _ hk => hk) trivial (Below.refl _ _) (Nat.le_refl _) (by simp) ?_; (case hd => rfl); (case hg => rfl); (case hr => first | (go_simp; done) | (go_simp; rfl)); (case hp => exact (Reps.one (show Kd.M (Kd.int .i64) _ _ _ 3 [.int .i64 3] from rfl) (Reps.one (show Kd.M (Kd.int .i64) _ _ _ (-1) [.int .i64 (-1)] from rfl) (Reps.none _ _)))); intro v145 w10 ho11 hb hg_ hnew_; clear hg_ hnew_; (first | rw [← Ny144.out] at ho11 | (simp only [Int.reduceToNat] at ho11; rw [← Ny144.out] at ho11)); have z_ := p_ (Kd.R_elder' tq_23 (Kd.R_base ho11) hb) <| p_ (Kd.R_lower (Kd.R_new' ho11 (Kd.R_lt tq_23)) (keep_size (w := w) (g := g) (row := none) tq_4)) <| p_ (IsS189.below tq_9 hb) <| p_ (KeepBut.trans tq_4 (KeepBut.of_below hb g none) (.inl rfl)) <| a_ (below_step tq_10 hb); clear HO138 HI0 HK HB; obtain ⟨HO138, HO146, HI0, HK, HB⟩ := z_; clear hb ho11; obtain ⟨Ao12, co12, eo12⟩ := Kd.R_slice HO146.out; subst eo12) | ((with_reducible refine gate_callee (f := 179) rfl ?_); refine goesL_ (some 13) rfl rfl Try.func179 (by kernel_rfl) rfl #[.pointer (some ⟨g, 0, none⟩), .slice Ao12 y144.length co12] rfl tq_1 ?_; (with_reducible refine (spec_l01PickInt.calls g s0_0 t142 t143 _ _ y144 t147 t148 t149 w0 _ ?side1 ?side2 ?side3 ?side4 ?side5 A5.out).mono ?_); (case side1 => exact tq_11); (case side2 => exact tq_12); (case side3 => repeat (first | exact (Kd.R_reads' HO146.out).2.2 | (with_reducible refine Kd.C_alloc ?_ _) | (with_reducible refine Kd.C_drewN ?_ _) | (with_reducible refine Kd.C_drew ?_))); (case side4 => exact (Kd.R_reads' HO146.out).2.1); (case side5 => exact far_slice (IsS189.own_ne HI0.out HO146.out (by decide))); rintro e w13 ⟨rfl, hi, hb, hk⟩; refine ⟨_, rfl, ?_⟩; have z_ := p_ (Kd.R_mono (Kd.R_keep (IsS189.apart (show IsS189 w0 _ g s0_0 t142 t143 from by repeat (first | (with_reducible first | exact HI0.out | apply IsS189.alloc | apply IsS189.drewN | apply IsS189.drew | apply IsS189.set_1 | apply IsS189.set_2) | exact HI0.out)) tq_23 (by decide)) hk (fun _ h => h.2)) (fun _ h => h.1)) <| p_ (Kd.R_mono (Kd.R_keep (IsS189.apart (show IsS189 w0 _ g s0_0 t142 t143 from by repeat (first | (with_reducible first | exact HI0.out | apply IsS189.alloc | apply IsS189.drewN | apply IsS189.drew | apply IsS189.set_1 | apply IsS189.set_2) | exact HI0.out)) (by (with_reducible repeat (first | apply Kd.R_alloc | apply Kd.R_drewN | apply Kd.R_drew)); exact HO146.out) (by decide)) hk (fun _ h => h.2)) (fun _ h => h.1)) <| p_ (KeepBut.trans tq_4 hk (.inl rfl)) <| p_ (hb) <| a_ (hi); clear HO138 HO146 HK HB HI0; obtain ⟨HO138, HO146, HK, HB, HI0⟩ := z_; (try clear hb); (try clear hb2); (try clear hk); (try clear hi); have p7 : 0 ≤ (0 : Int) := (by omega); have q7 : (0 : Int) < ((t136.length : Int) : Int) := of_decide_eq_true tq_14; have qi7 : (0 < t136.length) = True := eq_true (by omega); obtain ⟨go7, co7, eo7, gb7, gl7, cl7, HG7⟩ := Kd.R_form HO138.out (by omega); (first | cases eo7 | (injection eo7 with ea_ en_ ec_; (first | subst ea_ | (injection ea_ with ea_; subst ea_)); subst ec_; clear en_)); have GB7 := Aside0.mk gb7; have GG7 := Aside0.mk HG7; clear gb7 gl7 HG7; obtain ⟨hx7_0, hf7_0⟩ := Kd.R_celln 0 HO138.out (0 : Int) p7 q7; (try rw [show ((0 : Int)).toNat = 0 from rfl] at hx7_0); (try simp only [Nat.reduceMul, Nat.zero_mul, Nat.zero_add, Nat.reduceAdd] at hx7_0); (try rw [show ((0 : Int)).toNat = 0 from rfl] at hf7_0); (try simp only [Nat.reduceMul, Nat.zero_mul, Nat.zero_add, Nat.reduceAdd] at hf7_0); replace p7 := eq_true p7; replace q7 := eq_true q7; have n_ := Aside0.mk (Kd.R_mono (ok' := (fun k_ => some k_ ≠ (.slice Ao12 y144.length co12 : Value).ownBlock)) HO138.out (fun k_ hk => hk.2)); clear HO138; have HO138 := n_; clear n_; obtain ⟨hy14_, hz14_⟩ := Kd.R_celln 0 HO138.out (0 : Int) (by omega) (of_decide_eq_true tq_14); (try simp only [Int.reduceToNat, Int.toNat_zero, Int.toNat_ofNat, Nat.reduceMul, Nat.zero_mul, Nat.zero_add] at hy14_ hz14_); (try rw [show ((0 : Int)).toNat = 0 from rfl] at hy14_); (try rw [show ((0 : Int)).toNat = 0 from rfl] at hz14_); have HP14 := Kd.R_putg HO138.out (0 : Int) t147) | ((with_reducible refine gate_store (t := 3) (p := 14) rfl ?_); refine store_event (t := 3) (p := 14) (v := ?vo_w15) (w1 := (w13.setCell ⟨go7, (0 : Int).toNat, none⟩ (.int .i64 t147))) ?hg ?ho ?hn ?hr ?_; (case ho => rfl); (case hg => rfl); (case hn => rfl); (case hr => first | (go_simp; done) | (go_simp; rfl)); intro w15 hw; have hg : w13.grownBy w15 (some go7) := (by rw [hw]; exact HP14.2); have hp_ : Kd.R (Kd.int .i64) 3 w15 w.heap.size (fun k_ => some k_ ≠ (.slice Ao12 y144.length co12 : Value).ownBlock) (.slice (some ⟨go7, 0, none⟩) t136.length co7) y150 := (by rw [hw, Ny150.out]; exact HP14.1); clear HP14; have z_ := p_ (IsS189.grown tq_9 hg (IsS189.own_ne HI0.out HO138.out (by decide))) <| p_ (hp_) <| p_ (Kd.R_after (v := (.slice (some ⟨go7, 0, none⟩) t136.length co7)) (v1 := (.slice (some ⟨go7, 0, none⟩) t136.length co7)) (ok := (fun _ => True)) (by (with_reducible repeat (first | apply Kd.R_alloc | apply Kd.R_drewN | apply Kd.R_drew)); exact HO146.out) hg (.inl rfl)) <| p_ ((by rw [hw]; exact below_set (HB.out) (Nat.le_trans HL.out GB7.out) : Below w0.heap.size w0 w15)) <| a_ (KeepBut.trans tq_4 (KeepBut.of_grown hg g) (Kd.R_base2 HO138.out)); clear HI0 HO138 HO146 HB HK; obtain ⟨HI0, HO138, HO146, HB, HK⟩ := z_; clear hg hw hp_))
   go_ret
   exact ⟨_, tq_13, (by (with_reducible repeat (first | apply Kd.R_alloc | apply Kd.R_drewN | apply Kd.R_drew)); exact Kd.R_mono HO138.out (fun _ hk => trivial)), tq_9, tq_10, tq_4⟩
  ·rw [if_neg c6] at H
   exact absurd H (by simp)
 ·rw [if_neg c4] at H
  have c4b0 : (t141 == 0) = false := beq_eq_false_iff_ne.mpr c4
  have c4b1 : (t141 != 0) = true := bne_iff_ne.mpr c4
  by_cases c16 : t141 = 1
  ·rw [if_pos c16] at H
   have c16b0 : (t141 == 1) = true := beq_iff_eq.mpr c16
   have c16b1 : (t141 != 1) = false := bne_eq_false_iff_eq.mpr c16
   clear c16
   have H' := Aside0.mk H
   clear H
   go_enter Try.func137, Try.ntmps137
   go_wp2_with (first | ((with_reducible refine gate_callee (f := 191) rfl ?_); refine goesL_ (some 5) rfl rfl Try.func191 (by kernel_rfl) rfl #[.pointer (some ⟨g, 0, none⟩)] rfl tq_1 ?_; (with_reducible refine (spec_l13List.calls k g s0_0 s0_1 s0_2 t136 t139 t140 w0 _ ?side1 ?side2 A2.out).mono ?_); (case side1 => exact tq_11); (case side2 => exact tq_12); rintro e w17 ⟨v137, rfl, ho0, hi, hb, hk⟩; refine ⟨_, rfl, ?_⟩; have z_ := p_ (Kd.R_lower ho0 (keep_size (w := w) (g := g) (row := none) tq_4)) <| p_ (KeepBut.trans tq_4 hk (.inl rfl)) <| p_ (hb) <| a_ (hi); clear HK HB HI0; obtain ⟨HO138, HK, HB, HI0⟩ := z_; (try clear hb); (try clear hb2); (try clear hk); (try clear hi); (try clear ho0)) | ((with_reducible refine gate_callee (f := 119) rfl ?_); refine goesL_ (some 7) rfl rfl Try.func119 (by kernel_rfl) rfl #[.pointer (some ⟨g, 0, none⟩), .int .i64 8] rfl tq_1 ?_; (with_reducible refine (spec_l01Below.calls g s0_0 t139 t140 8 t141 t142 t143 w0 _ ?side1 ?side2 A3.out).mono ?_); (case side1 => exact tq_11); (case side2 => exact tq_12); rintro e w18 ⟨rfl, hi, hb, hk⟩; refine ⟨_, rfl, ?_⟩; have z_ := p_ (Kd.R_mono (Kd.R_keep (IsS189.apart (show IsS189 w0 _ g s0_0 t139 t140 from by repeat (first | (with_reducible first | exact HI0.out | apply IsS189.alloc | apply IsS189.drewN | apply IsS189.drew | apply IsS189.set_1 | apply IsS189.set_2) | exact HI0.out)) tq_23 (by decide)) hk (fun _ h => h.2)) (fun _ h => h.1)) <| p_ (KeepBut.trans tq_4 hk (.inl rfl)) <| p_ (hb) <| a_ (hi); clear HO138 HK HB HI0; obtain ⟨HO138, HK, HB, HI0⟩ := z_; (try clear hb); (try clear hb2); (try clear hk); (try clear hi)))
   go_loopg [3] k (fun kq v3 w' => ∃ (x3_1 : List Int), Aside0 (spec_l13Any.l0 kq x3_1 s0_0 t142 t143 = some (r1, r2, r3)) ∧ Aside0 (kq ≤ k) ∧ Aside0 (Kd.R (Kd.int .i64) 3 w' w.heap.size (fun _ => True) v3 x3_1) ∧ Aside0 (IsS189 w0 w' g s0_0 t142 t143) ∧ Aside0 (KeepBut w w' g none) ∧ Aside0 (Below w0.heap.size w0 w'))
   case atStart => exact ⟨(t136), H', ⟨Nat.le_refl _⟩, ⟨tq_23⟩, ⟨tq_9⟩, ⟨tq_4⟩, ⟨tq_10⟩⟩
   case round =>
    clear H'
    try clear c1
    try clear p2
    try clear c4
    try clear c4b0
    try clear c4b1
    try clear c6
    try clear c6b0
    try clear c6b1
    try clear p7
    try clear q7
    try clear hx7
    try clear qi7
    try clear hf7
    try clear c11
    try clear c13
    try clear c16
    try clear c16b0
    try clear c16b1
    try clear c17
    try clear hx7_0
    try clear p7
    try clear q7
    obtain ⟨x3_1, HA, HK1, HO_3, HI0, HK, HB⟩ := hrel
    cases gk with
    | zero => exact absurd HA.out (by simp [spec_l13Any.l0])
    | succ k1 =>
     have H := HA.out
     clear HA
     simp only [spec_l13Any.l0] at H
     by_cases c19 : (x3_1.length : Int) < 13
     ·rw [if_pos c19] at H
      have c19b0 : decide ((x3_1.length : Int) < 13) = true := decide_eq_true c19
      have c19b1 : decide (x3_1.length < 13) = true := decide_eq_true (by omega)
      clear c19
      by_cases c20 : x3_1.length < 17592186044416
      ·rw [if_pos c20] at H
       have LMc20 := Aside0.mk c20
       clear c20
       obtain ⟨y151, hy151⟩ : ∃ y_ : List Int, y_ = (x3_1 ++ [0]) := ⟨_, rfl⟩
       replace H : (spec_l13Any.l0 k1 y151 s0_0 t142 t143) = some (r1, r2, r3) := by first | (rw [hy151]; with_reducible exact H) | (have H2_ := (Option.bind_some _ _).symm.trans H; rw [hy151]; with_reducible exact H2_) | (have H2_ := (Option.bind_some _ _).symm.trans H; with_reducible exact H2_) | with_reducible exact H | (rw [hy151]; exact H) | exact H
       have Ny151 := Aside0.mk hy151
       clear hy151
       have H' := Aside0.mk H
       clear H
       obtain ⟨Ao21, co21, eo21⟩ := Kd.R_slice HO_3.out
       subst eo21
       go_wp2_with (first | ((with_reducible refine gate_builtin (b := .append) (xs := #[.tmp 20, .tmp 21]) rfl ?_); at_builtin; refine Kd.R_append (Kd.int .i64) w.heap.size rfl (.tmp 20) (.tmp 21) 66 3 (.int .i64 0) 8 rfl Try.underlying66 info3 rfl (by decide) (by omega) (.slice Ao21 x3_1.length co21) x3_1 0 [.int .i64 0] (fun _ => True) (fun _ => False) rfl rfl ?aP (fun _ hk => hk.elim) ?aF ?aO (Below.refl _ _) ?aS ?aL ?_; (case aP => exact rfl); (case aF => exact (fun _ _ => trivial)); (case aO => exact tq_2); (case aS => exact (keep_size (w := w) (g := g) (row := none) tq_4)); (case aL => have := LMc20.out; omega); intro v152 w22 ho hb hg hat; rw [← Ny151.out] at ho; have z_ := p_ (IsS189.grown tq_9 hg (IsS189.own_ne HI0.out HO_3.out (by decide))) <| p_ (below_weaken tq_10 HL.out hb) <| p_ (KeepBut.trans tq_4 (KeepBut.of_grown hg g) (Kd.R_base2 HO_3.out)) <| a_ (ho); clear HI0 HB HK HO_3; obtain ⟨HI0, HB, HK, HO153⟩ := z_; clear ho hb hg hat))
       go_roundg k1
       case measure => have := HK1.out; omega
       case rel => exact ⟨(y151), H', ⟨tq_35⟩, ⟨(by (with_reducible repeat (first | apply Kd.R_alloc | apply Kd.R_drewN | apply Kd.R_drew)); exact HO153.out)⟩, ⟨tq_9⟩, ⟨tq_4⟩, ⟨tq_10⟩⟩
      ·rw [if_neg c20] at H
       exact absurd H (by simp)
     ·rw [if_neg c19] at H
      have c19b0 : decide ((x3_1.length : Int) < 13) = false := decide_eq_false c19
      have c19b1 : decide (x3_1.length < 13) = false := decide_eq_false (by omega)
      clear c19
      simp only [Option.some.injEq, Prod.mk.injEq] at H
      obtain ⟨rfl, rfl, rfl⟩ := H
      obtain ⟨Ao23, co23, eo23⟩ := Kd.R_slice HO_3.out
      subst eo23
      go_wp2
      go_ret
      exact ⟨_, tq_13, tq_2, tq_9, tq_10, tq_4⟩
  ·rw [if_neg c16] at H
   have c16b0 : (t141 == 1) = false := beq_eq_false_iff_ne.mpr c16
   have c16b1 : (t141 != 1) = true := bne_iff_ne.mpr c16
   by_cases c24 : t141 = 2
   ·rw [if_pos c24] at H
    have c24b0 : (t141 == 2) = true := beq_iff_eq.mpr c24
    have c24b1 : (t141 != 2) = false := bne_eq_false_iff_eq.mpr c24
    clear c24
    obtain ⟨y154, hy154⟩ : ∃ y_ : List Int, y_ = (([] : List Int)) := ⟨_, rfl⟩
    replace H : (some (y154, t142, t143)) = some (r1, r2, r3) := by first | (rw [hy154]; with_reducible exact H) | (have H2_ := (Option.bind_some _ _).symm.trans H; rw [hy154]; with_reducible exact H2_) | (have H2_ := (Option.bind_some _ _).symm.trans H; with_reducible exact H2_) | with_reducible exact H | (rw [hy154]; exact H) | exact H
    have Ny154 := Aside0.mk hy154
    clear hy154
    simp only [Option.some.injEq, Prod.mk.injEq] at H
    obtain ⟨rfl, rfl, rfl⟩ := H
    go_enter Try.func137, Try.ntmps137
    go_wp2_with (first | ((with_reducible refine gate_callee (f := 191) rfl ?_); refine goesL_ (some 5) rfl rfl Try.func191 (by kernel_rfl) rfl #[.pointer (some ⟨g, 0, none⟩)] rfl tq_1 ?_; (with_reducible refine (spec_l13List.calls k g s0_0 s0_1 s0_2 t136 t139 t140 w0 _ ?side1 ?side2 A2.out).mono ?_); (case side1 => exact tq_11); (case side2 => exact tq_12); rintro e w25 ⟨v137, rfl, ho0, hi, hb, hk⟩; refine ⟨_, rfl, ?_⟩; have z_ := p_ (Kd.R_lower ho0 (keep_size (w := w) (g := g) (row := none) tq_4)) <| p_ (KeepBut.trans tq_4 hk (.inl rfl)) <| p_ (hb) <| a_ (hi); clear HK HB HI0; obtain ⟨HO138, HK, HB, HI0⟩ := z_; (try clear hb); (try clear hb2); (try clear hk); (try clear hi); (try clear ho0)) | ((with_reducible refine gate_callee (f := 119) rfl ?_); refine goesL_ (some 7) rfl rfl Try.func119 (by kernel_rfl) rfl #[.pointer (some ⟨g, 0, none⟩), .int .i64 8] rfl tq_1 ?_; (with_reducible refine (spec_l01Below.calls g s0_0 t139 t140 8 t141 t142 t143 w0 _ ?side1 ?side2 A3.out).mono ?_); (case side1 => exact tq_11); (case side2 => exact tq_12); rintro e w26 ⟨rfl, hi, hb, hk⟩; refine ⟨_, rfl, ?_⟩; have z_ := p_ (Kd.R_mono (Kd.R_keep (IsS189.apart (show IsS189 w0 _ g s0_0 t139 t140 from by repeat (first | (with_reducible first | exact HI0.out | apply IsS189.alloc | apply IsS189.drewN | apply IsS189.drew | apply IsS189.set_1 | apply IsS189.set_2) | exact HI0.out)) tq_23 (by decide)) hk (fun _ h => h.2)) (fun _ h => h.1)) <| p_ (KeepBut.trans tq_4 hk (.inl rfl)) <| p_ (hb) <| a_ (hi); clear HO138 HK HB HI0; obtain ⟨HO138, HK, HB, HI0⟩ := z_; (try clear hb); (try clear hb2); (try clear hk); (try clear hi)) | ((with_reducible refine gate_dst (N := 25) rfl ?_); refine Kd.R_lit (Kd.int .i64) _ 3 ?hg (N := 25) ?hd (xs := ([] : List Int)) (inner := []) (ok := fun _ => True) (okp := fun _ => True) ?hr ?hp (fun _ hk => hk) trivial (Below.refl _ _) (Nat.le_refl _) (by simp) ?_; (case hd => rfl); (case hg => rfl); (case hr => first | (go_simp; done) | (go_simp; rfl)); (case hp => exact (Reps.none _ _)); intro v155 w27 ho28 hb hg_ hnew_; clear hg_ hnew_; (first | rw [← Ny154.out] at ho28 | (simp only [Int.reduceToNat] at ho28; rw [← Ny154.out] at ho28)); have z_ := p_ (Kd.R_elder' tq_23 (Kd.R_base ho28) hb) <| p_ (Kd.R_lower (Kd.R_new' ho28 (Kd.R_lt tq_23)) (keep_size (w := w) (g := g) (row := none) tq_4)) <| p_ (IsS189.below tq_9 hb) <| p_ (KeepBut.trans tq_4 (KeepBut.of_below hb g none) (.inl rfl)) <| a_ (below_step tq_10 hb); clear HO138 HI0 HK HB; obtain ⟨HO138, HO156, HI0, HK, HB⟩ := z_; clear hb ho28))
    go_ret
    exact ⟨_, tq_13, (by (with_reducible repeat (first | apply Kd.R_alloc | apply Kd.R_drewN | apply Kd.R_drew)); exact Kd.R_mono HO156.out (fun _ hk => trivial)), tq_9, tq_10, tq_4⟩
   ·rw [if_neg c24] at H
    have c24b0 : (t141 == 2) = false := beq_eq_false_iff_ne.mpr c24
    have c24b1 : (t141 != 2) = true := bne_iff_ne.mpr c24
    simp only [Option.some.injEq, Prod.mk.injEq] at H
    obtain ⟨rfl, rfl, rfl⟩ := H
    go_enter Try.func137, Try.ntmps137
    go_wp2_with (first | ((with_reducible refine gate_callee (f := 191) rfl ?_); refine goesL_ (some 5) rfl rfl Try.func191 (by kernel_rfl) rfl #[.pointer (some ⟨g, 0, none⟩)] rfl tq_1 ?_; (with_reducible refine (spec_l13List.calls k g s0_0 s0_1 s0_2 t136 t139 t140 w0 _ ?side1 ?side2 A2.out).mono ?_); (case side1 => exact tq_11); (case side2 => exact tq_12); rintro e w29 ⟨v137, rfl, ho0, hi, hb, hk⟩; refine ⟨_, rfl, ?_⟩; have z_ := p_ (Kd.R_lower ho0 (keep_size (w := w) (g := g) (row := none) tq_4)) <| p_ (KeepBut.trans tq_4 hk (.inl rfl)) <| p_ (hb) <| a_ (hi); clear HK HB HI0; obtain ⟨HO138, HK, HB, HI0⟩ := z_; (try clear hb); (try clear hb2); (try clear hk); (try clear hi); (try clear ho0)) | ((with_reducible refine gate_callee (f := 119) rfl ?_); refine goesL_ (some 7) rfl rfl Try.func119 (by kernel_rfl) rfl #[.pointer (some ⟨g, 0, none⟩), .int .i64 8] rfl tq_1 ?_; (with_reducible refine (spec_l01Below.calls g s0_0 t139 t140 8 t141 t142 t143 w0 _ ?side1 ?side2 A3.out).mono ?_); (case side1 => exact tq_11); (case side2 => exact tq_12); rintro e w30 ⟨rfl, hi, hb, hk⟩; refine ⟨_, rfl, ?_⟩; have z_ := p_ (Kd.R_mono (Kd.R_keep (IsS189.apart (show IsS189 w0 _ g s0_0 t139 t140 from by repeat (first | (with_reducible first | exact HI0.out | apply IsS189.alloc | apply IsS189.drewN | apply IsS189.drew | apply IsS189.set_1 | apply IsS189.set_2) | exact HI0.out)) tq_23 (by decide)) hk (fun _ h => h.2)) (fun _ h => h.1)) <| p_ (KeepBut.trans tq_4 hk (.inl rfl)) <| p_ (hb) <| a_ (hi); clear HO138 HK HB HI0; obtain ⟨HO138, HK, HB, HI0⟩ := z_; (try clear hb); (try clear hb2); (try clear hk); (try clear hi)))
    go_ret
    exact ⟨_, tq_13, tq_23, tq_9, tq_10, tq_4⟩

/-! ### spec_l01Once: function 117 -/
def spec_l01Once.f (s0_0 : List Int) (s0_1 : Int) (s0_2 : Int) (a1 : Int) : Option (Bool × Int × Int) := (spec_l01Below.f s0_0 s0_1 s0_2 a1).bind fun bt157 => (some ((bt157.1 == 0), bt157.2.1, bt157.2.2))
set_option maxHeartbeats 8000000 in
set_option maxRecDepth 100000 in
theorem spec_l01Once.calls (g : Nat) (s0_0 : List Int) (s0_1 : Int) (s0_2 : Int) (a1 : Int) (r1 : Bool) (r2 : Int) (r3 : Int) (w0 w : World) (hI : IsS189 w0 w g s0_0 s0_1 s0_2) (hB : Below w0.heap.size w0 w) (h : spec_l01Once.f s0_0 s0_1 s0_2 a1 = some (r1, r2, r3)) :
  Calls Try.prog 117 #[.pointer (some ⟨g, 0, none⟩), .int .i64 a1] w fun e w' => e = .returned (.bool r1) ∧ IsS189 w0 w' g s0_0 r2 r3 ∧ Below w0.heap.size w0 w' ∧ KeepBut w w' g none := by
 have HI0 := Aside0.mk hI
 have HK := Aside0.mk (KeepBut.refl w g none)
 have HL := Aside0.mk hB.size
 clear hI
 have HW0 := Aside0.mk hB.size
 have HB := Aside0.mk hB
 clear hB
 have H : ((spec_l01Below.f s0_0 s0_1 s0_2 a1).bind fun bt157 => (some ((bt157.1 == 0), bt157.2.1, bt157.2.2))) = some (r1, r2, r3) := h
 clear h
 replace H := Option.bind_eq_some_iff.mp H
 obtain ⟨⟨t157, t158, t159⟩, A30, H⟩ := H
 replace H : (some ((t157 == 0), t158, t159)) = some (r1, r2, r3) := H
 have A3 := Aside0.mk A30
 clear A30
 simp only [Option.some.injEq, Prod.mk.injEq] at H
 obtain ⟨rfl, rfl, rfl⟩ := H
 go_enter Try.func117, Try.ntmps117
 go_wp2_with (first | ((with_reducible refine gate_callee (f := 119) rfl ?_); refine goesL_ (some 7) rfl rfl Try.func119 (by kernel_rfl) rfl #[.pointer (some ⟨g, 0, none⟩), .int .i64 a1] rfl tq_1 ?_; (with_reducible refine (spec_l01Below.calls g s0_0 s0_1 s0_2 a1 t157 t158 t159 w0 _ ?side1 ?side2 A3.out).mono ?_); (case side1 => exact tq_11); (case side2 => exact tq_12); rintro e w4 ⟨rfl, hi, hb, hk⟩; refine ⟨_, rfl, ?_⟩; have z_ := p_ (KeepBut.trans tq_4 hk (.inl rfl)) <| p_ (hb) <| a_ (hi); clear HK HB HI0; obtain ⟨HK, HB, HI0⟩ := z_; (try clear hb); (try clear hb2); (try clear hk); (try clear hi)))
 go_ret
 exact ⟨tq_13, tq_9, tq_10, tq_4⟩

/-! ### spec_l01Place: function 138 -/
def spec_l01Place.f (s0_0 : List Int) (s0_1 : Int) (s0_2 : Int) (a1 : Int) : Option (Int × Int × Int) := (spec_l01Once.f s0_0 s0_1 s0_2 15).bind fun bt160 => (if bt160.1 = true then ((spec_l01PickInt.f s0_0 bt160.2.1 bt160.2.2 (([(-1), a1, wrap64 (a1 + 1), 9223372036854775807, (-9223372036854775808)] : List Int))).bind fun bt166 => (some (bt166.1, bt166.2.1, bt166.2.2))) else ((spec_l01Below.f s0_0 bt160.2.1 bt160.2.2 a1).bind fun bt169 => (some (bt169.1, bt169.2.1, bt169.2.2))))
set_option maxHeartbeats 8000000 in
set_option maxRecDepth 100000 in
theorem spec_l01Place.calls (g : Nat) (s0_0 : List Int) (s0_1 : Int) (s0_2 : Int) (a1 : Int) (r1 : Int) (r2 : Int) (r3 : Int) (w0 w : World) (hI : IsS189 w0 w g s0_0 s0_1 s0_2) (hB : Below w0.heap.size w0 w) (h : spec_l01Place.f s0_0 s0_1 s0_2 a1 = some (r1, r2, r3)) :
  Calls Try.prog 138 #[.pointer (some ⟨g, 0, none⟩), .int .i64 a1] w fun e w' => e = .returned (.int .i64 r1) ∧ IsS189 w0 w' g s0_0 r2 r3 ∧ Below w0.heap.size w0 w' ∧ KeepBut w w' g none := by
 have HI0 := Aside0.mk hI
 have HK := Aside0.mk (KeepBut.refl w g none)
 have HL := Aside0.mk hB.size
 clear hI
 have HW0 := Aside0.mk hB.size
 have HB := Aside0.mk hB
 clear hB
 have H : ((spec_l01Once.f s0_0 s0_1 s0_2 15).bind fun bt160 => (if bt160.1 = true then ((spec_l01PickInt.f s0_0 bt160.2.1 bt160.2.2 (([(-1), a1, wrap64 (a1 + 1), 9223372036854775807, (-9223372036854775808)] : List Int))).bind fun bt166 => (some (bt166.1, bt166.2.1, bt166.2.2))) else ((spec_l01Below.f s0_0 bt160.2.1 bt160.2.2 a1).bind fun bt169 => (some (bt169.1, bt169.2.1, bt169.2.2))))) = some (r1, r2, r3) := h
 clear h
 replace H := Option.bind_eq_some_iff.mp H
 obtain ⟨⟨t160, t161, t162⟩, A30, H⟩ := H
 replace H : (if t160 = true then ((spec_l01PickInt.f s0_0 t161 t162 (([(-1), a1, wrap64 (a1 + 1), 9223372036854775807, (-9223372036854775808)] : List Int))).bind fun bt166 => (some (bt166.1, bt166.2.1, bt166.2.2))) else ((spec_l01Below.f s0_0 t161 t162 a1).bind fun bt169 => (some (bt169.1, bt169.2.1, bt169.2.2)))) = some (r1, r2, r3) := H
 have A3 := Aside0.mk A30
 clear A30
 by_cases c4 : t160 = true
 ·subst c4
  have H1 : ((spec_l01PickInt.f s0_0 t161 t162 (([(-1), a1, wrap64 (a1 + 1), 9223372036854775807, (-9223372036854775808)] : List Int))).bind fun bt166 => (some (bt166.1, bt166.2.1, bt166.2.2))) = some (r1, r2, r3) := by rw [if_pos rfl] at H; exact H
  clear H
  have H := H1
  clear H1
  obtain ⟨y163, hy163⟩ : ∃ y_ : List Int, y_ = (([(-1), a1, wrap64 (a1 + 1), 9223372036854775807, (-9223372036854775808)] : List Int)) := ⟨_, rfl⟩
  replace H : ((spec_l01PickInt.f s0_0 t161 t162 y163).bind fun bt166 => (some (bt166.1, bt166.2.1, bt166.2.2))) = some (r1, r2, r3) := by first | (rw [hy163]; with_reducible exact H) | (have H2_ := (Option.bind_some _ _).symm.trans H; rw [hy163]; with_reducible exact H2_) | (have H2_ := (Option.bind_some _ _).symm.trans H; with_reducible exact H2_) | with_reducible exact H | (rw [hy163]; exact H) | exact H
  have Ny163 := Aside0.mk hy163
  clear hy163
  replace H := Option.bind_eq_some_iff.mp H
  obtain ⟨⟨t166, t167, t168⟩, A50, H⟩ := H
  replace H : (some (t166, t167, t168)) = some (r1, r2, r3) := H
  have A5 := Aside0.mk A50
  clear A50
  simp only [Option.some.injEq, Prod.mk.injEq] at H
  obtain ⟨rfl, rfl, rfl⟩ := H
  go_enter Try.func138, Try.ntmps138
  go_wp2_with (first | ((with_reducible refine gate_callee (f := 117) rfl ?_); refine goesL_ (some 6) rfl rfl Try.func117 (by kernel_rfl) rfl #[.pointer (some ⟨g, 0, none⟩), .int .i64 15] rfl tq_1 ?_; (with_reducible refine (spec_l01Once.calls g s0_0 s0_1 s0_2 15 true t161 t162 w0 _ ?side1 ?side2 A3.out).mono ?_); (case side1 => exact tq_11); (case side2 => exact tq_12); rintro e w6 ⟨rfl, hi, hb, hk⟩; refine ⟨_, rfl, ?_⟩; have z_ := p_ (KeepBut.trans tq_4 hk (.inl rfl)) <| p_ (hb) <| a_ (hi); clear HK HB HI0; obtain ⟨HK, HB, HI0⟩ := z_; (try clear hb); (try clear hb2); (try clear hk); (try clear hi)) | ((with_reducible refine gate_dst (N := 11) rfl ?_); refine Kd.R_lit (Kd.int .i64) _ 3 ?hg (N := 11) ?hd (xs := ([(-1), a1, wrap64 (a1 + 1), 9223372036854775807, (-9223372036854775808)] : List Int)) (inner := [.int .i64 (-1), .int .i64 a1, .int .i64 (wrap64 (a1 + 1)), .int .i64 9223372036854775807, .int .i64 (-9223372036854775808)]) (ok := fun _ => True) (okp := fun _ => True) ?hr ?hp (fun _ hk => hk) trivial (Below.refl _ _) (Nat.le_refl _) (by simp) ?_; (case hd => rfl); (case hg => rfl); (case hr => first | (go_simp; done) | (go_simp; rfl)); (case hp => exact (Reps.one (show Kd.M (Kd.int .i64) _ _ _ (-1) [.int .i64 (-1)] from rfl) (Reps.one (show Kd.M (Kd.int .i64) _ _ _ a1 [.int .i64 a1] from rfl) (Reps.one (show Kd.M (Kd.int .i64) _ _ _ (wrap64 (a1 + 1)) [.int .i64 (wrap64 (a1 + 1))] from rfl) (Reps.one (show Kd.M (Kd.int .i64) _ _ _ 9223372036854775807 [.int .i64 9223372036854775807] from rfl) (Reps.one (show Kd.M (Kd.int .i64) _ _ _ (-9223372036854775808) [.int .i64 (-9223372036854775808)] from rfl) (Reps.none _ _))))))); intro v164 w7 ho8 hb hg_ hnew_; clear hg_ hnew_; (first | rw [← Ny163.out] at ho8 | (simp only [Int.reduceToNat] at ho8; rw [← Ny163.out] at ho8)); have z_ := p_ (Kd.R_lower ho8 (keep_size (w := w) (g := g) (row := none) tq_4)) <| p_ (IsS189.below tq_9 hb) <| p_ (KeepBut.trans tq_4 (KeepBut.of_below hb g none) (.inl rfl)) <| a_ (below_step tq_10 hb); clear HI0 HK HB; obtain ⟨HO165, HI0, HK, HB⟩ := z_; clear hb ho8; obtain ⟨Ao9, co9, eo9⟩ := Kd.R_slice HO165.out; subst eo9) | ((with_reducible refine gate_callee (f := 179) rfl ?_); refine goesL_ (some 12) rfl rfl Try.func179 (by kernel_rfl) rfl #[.pointer (some ⟨g, 0, none⟩), .slice Ao9 y163.length co9] rfl tq_1 ?_; (with_reducible refine (spec_l01PickInt.calls g s0_0 t161 t162 _ _ y163 t166 t167 t168 w0 _ ?side1 ?side2 ?side3 ?side4 ?side5 A5.out).mono ?_); (case side1 => exact tq_11); (case side2 => exact tq_12); (case side3 => repeat (first | exact (Kd.R_reads' HO165.out).2.2 | (with_reducible refine Kd.C_alloc ?_ _) | (with_reducible refine Kd.C_drewN ?_ _) | (with_reducible refine Kd.C_drew ?_))); (case side4 => exact (Kd.R_reads' HO165.out).2.1); (case side5 => exact far_slice (IsS189.own_ne HI0.out HO165.out (by decide))); rintro e w10 ⟨rfl, hi, hb, hk⟩; refine ⟨_, rfl, ?_⟩; have z_ := p_ (Kd.R_mono (Kd.R_keep (IsS189.apart (show IsS189 w0 _ g s0_0 t161 t162 from by repeat (first | (with_reducible first | exact HI0.out | apply IsS189.alloc | apply IsS189.drewN | apply IsS189.drew | apply IsS189.set_1 | apply IsS189.set_2) | exact HI0.out)) (by (with_reducible repeat (first | apply Kd.R_alloc | apply Kd.R_drewN | apply Kd.R_drew)); exact HO165.out) (by decide)) hk (fun _ h => h.2)) (fun _ h => h.1)) <| p_ (KeepBut.trans tq_4 hk (.inl rfl)) <| p_ (hb) <| a_ (hi); clear HO165 HK HB HI0; obtain ⟨HO165, HK, HB, HI0⟩ := z_; (try clear hb); (try clear hb2); (try clear hk); (try clear hi)))
  go_ret
  exact ⟨tq_13, tq_9, tq_10, tq_4⟩
 ·replace c4 := Bool.eq_false_iff.mpr c4
  subst c4
  have H1 : ((spec_l01Below.f s0_0 t161 t162 a1).bind fun bt169 => (some (bt169.1, bt169.2.1, bt169.2.2))) = some (r1, r2, r3) := by rw [if_neg (show ¬ (false = true) by decide)] at H; exact H
  clear H
  have H := H1
  clear H1
  replace H := Option.bind_eq_some_iff.mp H
  obtain ⟨⟨t169, t170, t171⟩, A110, H⟩ := H
  replace H : (some (t169, t170, t171)) = some (r1, r2, r3) := H
  have A11 := Aside0.mk A110
  clear A110
  simp only [Option.some.injEq, Prod.mk.injEq] at H
  obtain ⟨rfl, rfl, rfl⟩ := H
  go_enter Try.func138, Try.ntmps138
  go_wp2_with (first | ((with_reducible refine gate_callee (f := 117) rfl ?_); refine goesL_ (some 6) rfl rfl Try.func117 (by kernel_rfl) rfl #[.pointer (some ⟨g, 0, none⟩), .int .i64 15] rfl tq_1 ?_; (with_reducible refine (spec_l01Once.calls g s0_0 s0_1 s0_2 15 false t161 t162 w0 _ ?side1 ?side2 A3.out).mono ?_); (case side1 => exact tq_11); (case side2 => exact tq_12); rintro e w12 ⟨rfl, hi, hb, hk⟩; refine ⟨_, rfl, ?_⟩; have z_ := p_ (KeepBut.trans tq_4 hk (.inl rfl)) <| p_ (hb) <| a_ (hi); clear HK HB HI0; obtain ⟨HK, HB, HI0⟩ := z_; (try clear hb); (try clear hb2); (try clear hk); (try clear hi)) | ((with_reducible refine gate_callee (f := 119) rfl ?_); refine goesL_ (some 15) rfl rfl Try.func119 (by kernel_rfl) rfl #[.pointer (some ⟨g, 0, none⟩), .int .i64 a1] rfl tq_1 ?_; (with_reducible refine (spec_l01Below.calls g s0_0 t161 t162 a1 t169 t170 t171 w0 _ ?side1 ?side2 A11.out).mono ?_); (case side1 => exact tq_11); (case side2 => exact tq_12); rintro e w13 ⟨rfl, hi, hb, hk⟩; refine ⟨_, rfl, ?_⟩; have z_ := p_ (KeepBut.trans tq_4 hk (.inl rfl)) <| p_ (hb) <| a_ (hi); clear HK HB HI0; obtain ⟨HK, HB, HI0⟩ := z_; (try clear hb); (try clear hb2); (try clear hk); (try clear hi)))
  go_ret
  exact ⟨tq_13, tq_9, tq_10, tq_4⟩

/-! ### spec_DrawWithState: function 57 -/
def spec_DrawWithState.l0 : Nat → List Int → List Int → Int → List Int → Int → Int → Option (List Int × List Int × Int)
 | 0, _, _, _, _, _, _ => none
 | k + 1, x6, x7, x8, x176000, x176001, x176002 => (spec_l01Below.f x176000 x176001 x176002 5).bind fun bt184 => (if x8 < bt184.1 then ((spec_l01Place.f x176000 bt184.2.1 bt184.2.2 12).bind fun bt187 => (if x7.length < 17592186044416 then (spec_DrawWithState.l0 k x6 (x7 ++ [bt187.1]) (wrap64 (x8 + 1)) x176000 bt187.2.1 bt187.2.2) else (none))) else ((spec_l01Below.f x176000 bt184.2.1 bt184.2.2 3).bind fun bt193 => (some (x6, x7, bt193.1))))
def spec_DrawWithState.f (k : Nat) (l0 : List Int) : Option (List Int × List Int × Int) := (spec_l01New.f k l0).bind fun bt172 => ((spec_l13Any.f k bt172.1 bt172.2.1 bt172.2.2).bind fun bt176 => (spec_DrawWithState.l0 k bt176.1 (([] : List Int)) 0 bt172.1 bt176.2.1 bt176.2.2))
theorem spec_DrawWithState.mono_l : ∀ k, (∀ y0 y1 y2 y3 y4 y5, LeO (spec_DrawWithState.l0 k y0 y1 y2 y3 y4 y5) (spec_DrawWithState.l0 (k + 1) y0 y1 y2 y3 y4 y5))
 | 0 => fun _ _ _ _ _ _ r h => by simp [spec_DrawWithState.l0] at h
 | k + 1 => by
  have ih0 := spec_DrawWithState.mono_l k
  ·intro y0 y1 y2 y3 y4 y5
   unfold spec_DrawWithState.l0
   repeat' first
   | (with_reducible exact ih0 ..)
   | (with_reducible exact spec_l01New.mono ..)
   | (with_reducible exact spec_l13Any.mono ..)
   | (with_reducible exact LeO.refl _)
   | (with_reducible exact LeO.none _)
   | (with_reducible refine LeO.ite ?_ ?_)
   | (with_reducible refine LeO.bind ?_ (fun _ => ?_))
   | exact ih0 ..
   | exact spec_l01New.mono ..
   | exact spec_l13Any.mono ..
   | exact LeO.none _
   | refine LeO.ite ?_ ?_
   | refine LeO.bind ?_ (fun _ => ?_)
theorem spec_DrawWithState.mono : ∀ a0 k, LeO (spec_DrawWithState.f k a0) (spec_DrawWithState.f (k + 1) a0) := by
 intro a0 k
 have ih0 := spec_DrawWithState.mono_l k
 unfold spec_DrawWithState.f
 repeat' first
   | (with_reducible exact ih0 ..)
   | (with_reducible exact spec_l01New.mono ..)
   | (with_reducible exact spec_l13Any.mono ..)
   | (with_reducible exact LeO.refl _)
   | (with_reducible exact LeO.none _)
   | (with_reducible refine LeO.ite ?_ ?_)
   | (with_reducible refine LeO.bind ?_ (fun _ => ?_))
   | exact ih0 ..
   | exact spec_l01New.mono ..
   | exact spec_l13Any.mono ..
   | exact LeO.none _
   | refine LeO.ite ?_ ?_
   | refine LeO.bind ?_ (fun _ => ?_)
set_option maxHeartbeats 8000000 in
set_option maxRecDepth 100000 in
theorem spec_DrawWithState.calls (k : Nat) (A0 : Option Addr) (c0 : Nat) (l0 : List Int) (r1 : List Int) (r2 : List Int) (r3 : Int) (w : World) (hr0 : Kd.C (Kd.int .u8) w A0 l0.length l0) (hc0 : l0.length ≤ c0) (h : spec_DrawWithState.f k l0 = some (r1, r2, r3)) :
  Calls Try.prog 57 #[.slice A0 l0.length c0] w fun e w' => ∃ v0_ v1_ : Value, e = .returned (.tuple #[v0_, v1_, .int .i64 r3]) ∧ Kd.R (Kd.int .i64) 3 w' w.heap.size (fun k_ => some k_ ≠ (v1_ : Value).ownBlock) v0_ r1 ∧ Kd.R (Kd.int .i64) 3 w' w.heap.size (fun k_ => some k_ ≠ (v0_ : Value).ownBlock) v1_ r2 ∧ Below w.heap.size w w' := by
 have HR0 := Aside0.mk hr0
 have HC0 := Aside0.mk hc0
 clear hr0 hc0
 have HB := Aside0.mk (Below.refl w.heap.size w)
 have H : ((spec_l01New.f k l0).bind fun bt172 => ((spec_l13Any.f k bt172.1 bt172.2.1 bt172.2.2).bind fun bt176 => (spec_DrawWithState.l0 k bt176.1 (([] : List Int)) 0 bt172.1 bt176.2.1 bt176.2.2))) = some (r1, r2, r3) := h
 clear h
 replace H := Option.bind_eq_some_iff.mp H
 obtain ⟨⟨t172, t173, t174⟩, A20, H⟩ := H
 replace H : ((spec_l13Any.f k t172 t173 t174).bind fun bt176 => (spec_DrawWithState.l0 k bt176.1 (([] : List Int)) 0 t172 bt176.2.1 bt176.2.2)) = some (r1, r2, r3) := H
 have A2 := Aside0.mk A20
 clear A20
 replace H := Option.bind_eq_some_iff.mp H
 obtain ⟨⟨t176, t179, t180⟩, A30, H⟩ := H
 replace H : (spec_DrawWithState.l0 k t176 (([] : List Int)) 0 t172 t179 t180) = some (r1, r2, r3) := H
 have A3 := Aside0.mk A30
 clear A30
 obtain ⟨y181, hy181⟩ : ∃ y_ : List Int, y_ = (([] : List Int)) := ⟨_, rfl⟩
 replace H : (spec_DrawWithState.l0 k t176 y181 0 t172 t179 t180) = some (r1, r2, r3) := by first | (rw [hy181]; with_reducible exact H) | (have H2_ := (Option.bind_some _ _).symm.trans H; rw [hy181]; with_reducible exact H2_) | (have H2_ := (Option.bind_some _ _).symm.trans H; with_reducible exact H2_) | with_reducible exact H | (rw [hy181]; exact H) | exact H
 have Ny181 := Aside0.mk hy181
 clear hy181
 have H' := Aside0.mk H
 clear H
 go_enter Try.func57, Try.ntmps57
 go_wp2_with (first | ((with_reducible refine gate_callee (f := 108) rfl ?_); refine goesL_ (some 10) rfl rfl Try.func108 (by kernel_rfl) rfl #[.slice A0 l0.length c0] rfl tq_1 ?_; (with_reducible refine (spec_l01New.calls k _ _ l0 t172 t173 t174 w _ ?side1 ?side2 ?side3 A2.out).mono ?_); (case side1 => repeat (first | (with_reducible first | exact HB.out | apply below_alloc | apply pw_below_drewN | apply below_drew1) | exact HB.out)); (case side2 => exact HR0.out); (case side3 => exact HC0.out); rintro e w4 ⟨g175, rfl, hi, hb, hb2⟩; refine ⟨_, rfl, ?_⟩; have z_ := p_ (hb) <| a_ (hi); clear HB; obtain ⟨HB, HI175⟩ := z_; (try clear hb); (try clear hb2); (try clear hk); (try clear hi)) | ((with_reducible refine gate_callee (f := 137) rfl ?_); refine goesL_ (some 12) rfl rfl Try.func137 (by kernel_rfl) rfl #[.pointer (some ⟨g175, 0, none⟩)] rfl tq_1 ?_; (with_reducible refine (spec_l13Any.calls k g175 t172 t173 t174 t176 t179 t180 w _ ?side1 ?side2 A3.out).mono ?_); (case side1 => exact tq_28); (case side2 => exact tq_30); rintro e w5 ⟨v177, rfl, ho0, hi, hb, hk⟩; refine ⟨_, rfl, ?_⟩; have z_ := p_ (Kd.R_lower ho0 (below_size tq_20)) <| p_ (hb) <| a_ (hi); clear HB HI175; obtain ⟨HO178, HB, HI175⟩ := z_; (try clear hb); (try clear hb2); (try clear hk); (try clear hi); (try clear ho0)) | ((with_reducible refine gate_dst (N := 13) rfl ?_); refine Kd.R_lit (Kd.int .i64) _ 3 ?hg (N := 13) ?hd (xs := ([] : List Int)) (inner := []) (ok := fun _ => True) (okp := fun _ => True) ?hr ?hp (fun _ hk => hk) trivial (Below.refl _ _) (Nat.le_refl _) (by simp) ?_; (case hd => rfl); (case hg => rfl); (case hr => first | (go_simp; done) | (go_simp; rfl)); (case hp => exact (Reps.none _ _)); intro v182 w6 ho7 hb hg_ hnew_; clear hg_ hnew_; (first | rw [← Ny181.out] at ho7 | (simp only [Int.reduceToNat] at ho7; rw [← Ny181.out] at ho7)); have z_ := p_ (Kd.R_elder' (by (with_reducible repeat (first | apply Kd.R_alloc | apply Kd.R_drewN | apply Kd.R_drew)); exact HO178.out) (Kd.R_base ho7) hb) <| p_ (Kd.R_lower (Kd.R_new' ho7 (Kd.R_lt (by (with_reducible repeat (first | apply Kd.R_alloc | apply Kd.R_drewN | apply Kd.R_drew)); exact HO178.out))) (below_size tq_20)) <| p_ (IsS189.below tq_31 hb) <| a_ (below_step tq_20 hb); clear HO178 HI175 HB; obtain ⟨HO178, HO183, HI175, HB⟩ := z_; clear hb ho7))
 go_loopg [7, 8] k (fun kq v7 v8 w' => ∃ (x7_1 : List Int) (x8_1 : Int) (x176001_1 : Int) (x176002_1 : Int), v8 = .int .i64 x8_1 ∧ Aside0 (spec_DrawWithState.l0 kq t176 x7_1 x8_1 t172 x176001_1 x176002_1 = some (r1, r2, r3)) ∧ Aside0 (kq ≤ k) ∧ Aside0 (Kd.R (Kd.int .i64) 3 w' w.heap.size (fun k_ => some k_ ≠ (v7 : Value).ownBlock) v177 t176) ∧ Aside0 (Kd.R (Kd.int .i64) 3 w' w.heap.size (fun k_ => some k_ ≠ (v177 : Value).ownBlock) v7 x7_1) ∧ Aside0 (IsS189 w w' g175 t172 x176001_1 x176002_1) ∧ Aside0 (Below w.heap.size w w'))
 case atStart => exact ⟨(y181), (0), (t179), (t180), tq_16, H', ⟨Nat.le_refl _⟩, ⟨(by (with_reducible repeat (first | apply Kd.R_alloc | apply Kd.R_drewN | apply Kd.R_drew)); exact Kd.R_mono HO178.out (fun _ hk => hk.2))⟩, ⟨(by (with_reducible repeat (first | apply Kd.R_alloc | apply Kd.R_drewN | apply Kd.R_drew)); exact Kd.R_mono HO183.out (fun _ hk => hk.2))⟩, ⟨tq_31⟩, ⟨tq_20⟩⟩
 case round =>
  clear H'
  try clear c1
  try clear p2
  try clear c5
  obtain ⟨x7_1, x8_1, x176001_1, x176002_1, rfl, HA, HK1, HO_6, HO_7, HI175, HB⟩ := hrel
  cases gk with
  | zero => exact absurd HA.out (by simp [spec_DrawWithState.l0])
  | succ k1 =>
   have H := HA.out
   clear HA
   simp only [spec_DrawWithState.l0] at H
   replace H := Option.bind_eq_some_iff.mp H
   obtain ⟨⟨t184, t185, t186⟩, A80, H⟩ := H
   replace H : (if x8_1 < t184 then ((spec_l01Place.f t172 t185 t186 12).bind fun bt187 => (if x7_1.length < 17592186044416 then (spec_DrawWithState.l0 k1 t176 (x7_1 ++ [bt187.1]) (wrap64 (x8_1 + 1)) t172 bt187.2.1 bt187.2.2) else (none))) else ((spec_l01Below.f t172 t185 t186 3).bind fun bt193 => (some (t176, x7_1, bt193.1)))) = some (r1, r2, r3) := H
   have A8 := Aside0.mk A80
   clear A80
   by_cases c9 : x8_1 < t184
   ·rw [if_pos c9] at H
    have c9b0 : decide (x8_1 < t184) = true := decide_eq_true c9
    clear c9
    replace H := Option.bind_eq_some_iff.mp H
    obtain ⟨⟨t187, t188, t189⟩, A100, H⟩ := H
    replace H : (if x7_1.length < 17592186044416 then (spec_DrawWithState.l0 k1 t176 (x7_1 ++ [t187]) (wrap64 (x8_1 + 1)) t172 t188 t189) else (none)) = some (r1, r2, r3) := H
    have A10 := Aside0.mk A100
    clear A100
    by_cases c11 : x7_1.length < 17592186044416
    ·rw [if_pos c11] at H
     have LMc11 := Aside0.mk c11
     clear c11
     obtain ⟨y190, hy190⟩ : ∃ y_ : List Int, y_ = (x7_1 ++ [t187]) := ⟨_, rfl⟩
     replace H : (spec_DrawWithState.l0 k1 t176 y190 (wrap64 (x8_1 + 1)) t172 t188 t189) = some (r1, r2, r3) := by first | (rw [hy190]; with_reducible exact H) | (have H2_ := (Option.bind_some _ _).symm.trans H; rw [hy190]; with_reducible exact H2_) | (have H2_ := (Option.bind_some _ _).symm.trans H; with_reducible exact H2_) | with_reducible exact H | (rw [hy190]; exact H) | exact H
     have Ny190 := Aside0.mk hy190
     clear hy190
     have H' := Aside0.mk H
     clear H
     go_wp2_with (first | ((with_reducible refine gate_callee (f := 119) rfl ?_); refine goesL_ (some 16) rfl rfl Try.func119 (by kernel_rfl) rfl #[.pointer (some ⟨g175, 0, none⟩), .int .i64 5] rfl tq_1 ?_; (with_reducible refine (spec_l01Below.calls g175 t172 x176001_1 x176002_1 5 t184 t185 t186 w _ ?side1 ?side2 A8.out).mono ?_); (case side1 => exact tq_28); (case side2 => exact tq_30); rintro e w12 ⟨rfl, hi, hb, hk⟩; refine ⟨_, rfl, ?_⟩; have z_ := p_ (Kd.R_mono (Kd.R_keep (IsS189.apart (show IsS189 w _ g175 t172 x176001_1 x176002_1 from by repeat (first | (with_reducible first | exact HI175.out | apply IsS189.alloc | apply IsS189.drewN | apply IsS189.drew | apply IsS189.set_1 | apply IsS189.set_2) | exact HI175.out)) tq_32 (by decide)) hk (fun _ h => h.2)) (fun _ h => h.1)) <| p_ (Kd.R_mono (Kd.R_keep (IsS189.apart (show IsS189 w _ g175 t172 x176001_1 x176002_1 from by repeat (first | (with_reducible first | exact HI175.out | apply IsS189.alloc | apply IsS189.drewN | apply IsS189.drew | apply IsS189.set_1 | apply IsS189.set_2) | exact HI175.out)) tq_17 (by decide)) hk (fun _ h => h.2)) (fun _ h => h.1)) <| p_ (hb) <| a_ (hi); clear HO_6 HO_7 HB HI175; obtain ⟨HO_6, HO_7, HB, HI175⟩ := z_; (try clear hb); (try clear hb2); (try clear hk); (try clear hi)) | ((with_reducible refine gate_callee (f := 138) rfl ?_); refine goesL_ (some 22) rfl rfl Try.func138 (by kernel_rfl) rfl #[.pointer (some ⟨g175, 0, none⟩), .int .i64 12] rfl tq_1 ?_; (with_reducible refine (spec_l01Place.calls g175 t172 t185 t186 12 t187 t188 t189 w _ ?side1 ?side2 A10.out).mono ?_); (case side1 => exact tq_28); (case side2 => exact tq_30); rintro e w13 ⟨rfl, hi, hb, hk⟩; refine ⟨_, rfl, ?_⟩; have z_ := p_ (Kd.R_mono (Kd.R_keep (IsS189.apart (show IsS189 w _ g175 t172 t185 t186 from by repeat (first | (with_reducible first | exact HI175.out | apply IsS189.alloc | apply IsS189.drewN | apply IsS189.drew | apply IsS189.set_1 | apply IsS189.set_2) | exact HI175.out)) tq_32 (by decide)) hk (fun _ h => h.2)) (fun _ h => h.1)) <| p_ (Kd.R_mono (Kd.R_keep (IsS189.apart (show IsS189 w _ g175 t172 t185 t186 from by repeat (first | (with_reducible first | exact HI175.out | apply IsS189.alloc | apply IsS189.drewN | apply IsS189.drew | apply IsS189.set_1 | apply IsS189.set_2) | exact HI175.out)) tq_17 (by decide)) hk (fun _ h => h.2)) (fun _ h => h.1)) <| p_ (hb) <| a_ (hi); clear HO_6 HO_7 HB HI175; obtain ⟨HO_6, HO_7, HB, HI175⟩ := z_; (try clear hb); (try clear hb2); (try clear hk); (try clear hi)) | ((with_reducible refine gate_builtin (b := .append) (xs := #[.tmp 20, .tmp 23]) rfl ?_); at_builtin; refine Kd.R_append (Kd.int .i64) (w0 := w) w.heap.size rfl (.tmp 20) (.tmp 23) 66 3 (.int .i64 0) 8 rfl Try.underlying66 info3 rfl (by decide) (by omega) u7 x7_1 t187 [.int .i64 t187] (fun k_ => some k_ ≠ (v177 : Value).ownBlock) (fun _ => False) rfl rfl ?aP (fun _ hk => hk.elim) ?aF ?aO ?aB ?aS ?aL ?_; (case aP => exact rfl); (case aB => exact tq_20); (case aF => exact (fun k_ hk => Kd.fresh' (Kd.R_lt tq_32) k_ hk)); (case aO => exact tq_17); (case aS => exact (below_size tq_20)); (case aL => have := LMc11.out; omega); intro v191 w14 ho hb hg hat; rw [← Ny190.out] at ho; have z_ := p_ (Kd.R_after (ok := (fun _ => True)) (by (with_reducible repeat (first | apply Kd.R_alloc | apply Kd.R_drewN | apply Kd.R_drew)); exact Kd.R_mono HO_6.out (fun _ hk => ⟨trivial, hk⟩)) hg hat) <| p_ (IsS189.grown tq_31 hg (IsS189.own_ne HI175.out HO_7.out (by decide))) <| p_ (hb) <| a_ (ho); clear HO_6 HI175 HB HO_7; obtain ⟨HO_6, HI175, HB, HO192⟩ := z_; clear ho hb hg hat))
     go_roundg k1
     case measure => have := HK1.out; omega
     case rel => exact ⟨(y190), (wrap64 (x8_1 + 1)), (t188), (t189), tq_16, H', ⟨tq_35⟩, ⟨(by (with_reducible repeat (first | apply Kd.R_alloc | apply Kd.R_drewN | apply Kd.R_drew)); exact Kd.R_mono HO_6.out (fun _ hk => hk.2))⟩, ⟨(by (with_reducible repeat (first | apply Kd.R_alloc | apply Kd.R_drewN | apply Kd.R_drew)); exact HO192.out)⟩, ⟨tq_31⟩, ⟨tq_20⟩⟩
    ·rw [if_neg c11] at H
     exact absurd H (by simp)
   ·rw [if_neg c9] at H
    have c9b0 : decide (x8_1 < t184) = false := decide_eq_false c9
    clear c9
    replace H := Option.bind_eq_some_iff.mp H
    obtain ⟨⟨t193, t194, t195⟩, A150, H⟩ := H
    replace H : (some (t176, x7_1, t193)) = some (r1, r2, r3) := H
    have A15 := Aside0.mk A150
    clear A150
    simp only [Option.some.injEq, Prod.mk.injEq] at H
    obtain ⟨rfl, rfl, rfl⟩ := H
    go_wp2_with (first | ((with_reducible refine gate_callee (f := 119) rfl ?_); refine goesL_ (some 16) rfl rfl Try.func119 (by kernel_rfl) rfl #[.pointer (some ⟨g175, 0, none⟩), .int .i64 5] rfl tq_1 ?_; (with_reducible refine (spec_l01Below.calls g175 t172 x176001_1 x176002_1 5 t184 t185 t186 w _ ?side1 ?side2 A8.out).mono ?_); (case side1 => exact tq_28); (case side2 => exact tq_30); rintro e w16 ⟨rfl, hi, hb, hk⟩; refine ⟨_, rfl, ?_⟩; have z_ := p_ (Kd.R_mono (Kd.R_keep (IsS189.apart (show IsS189 w _ g175 t172 x176001_1 x176002_1 from by repeat (first | (with_reducible first | exact HI175.out | apply IsS189.alloc | apply IsS189.drewN | apply IsS189.drew | apply IsS189.set_1 | apply IsS189.set_2) | exact HI175.out)) tq_32 (by decide)) hk (fun _ h => h.2)) (fun _ h => h.1)) <| p_ (Kd.R_mono (Kd.R_keep (IsS189.apart (show IsS189 w _ g175 t172 x176001_1 x176002_1 from by repeat (first | (with_reducible first | exact HI175.out | apply IsS189.alloc | apply IsS189.drewN | apply IsS189.drew | apply IsS189.set_1 | apply IsS189.set_2) | exact HI175.out)) tq_17 (by decide)) hk (fun _ h => h.2)) (fun _ h => h.1)) <| p_ (hb) <| a_ (hi); clear HO_6 HO_7 HB HI175; obtain ⟨HO_6, HO_7, HB, HI175⟩ := z_; (try clear hb); (try clear hb2); (try clear hk); (try clear hi)) | ((with_reducible refine gate_callee (f := 119) rfl ?_); refine goesL_ (some 28) rfl rfl Try.func119 (by kernel_rfl) rfl #[.pointer (some ⟨g175, 0, none⟩), .int .i64 3] rfl tq_1 ?_; (with_reducible refine (spec_l01Below.calls g175 t172 t185 t186 3 t193 t194 t195 w _ ?side1 ?side2 A15.out).mono ?_); (case side1 => exact tq_28); (case side2 => exact tq_30); rintro e w17 ⟨rfl, hi, hb, hk⟩; refine ⟨_, rfl, ?_⟩; have z_ := p_ (Kd.R_mono (Kd.R_keep (IsS189.apart (show IsS189 w _ g175 t172 t185 t186 from by repeat (first | (with_reducible first | exact HI175.out | apply IsS189.alloc | apply IsS189.drewN | apply IsS189.drew | apply IsS189.set_1 | apply IsS189.set_2) | exact HI175.out)) tq_32 (by decide)) hk (fun _ h => h.2)) (fun _ h => h.1)) <| p_ (Kd.R_mono (Kd.R_keep (IsS189.apart (show IsS189 w _ g175 t172 t185 t186 from by repeat (first | (with_reducible first | exact HI175.out | apply IsS189.alloc | apply IsS189.drewN | apply IsS189.drew | apply IsS189.set_1 | apply IsS189.set_2) | exact HI175.out)) tq_17 (by decide)) hk (fun _ h => h.2)) (fun _ h => h.1)) <| p_ (hb) <| a_ (hi); clear HO_6 HO_7 HB HI175; obtain ⟨HO_6, HO_7, HB, HI175⟩ := z_; (try clear hb); (try clear hb2); (try clear hk); (try clear hi)))
    go_ret3
    exact ⟨_, _, tq_13, tq_32, tq_17, tq_20⟩

end Go.Proofs.Ytcdnfkoahajhhaa.PFnStates
