/- Contracts of Go functions, written by a program of ours over the print of the kit: each says that the call returns what the Lean function beside it computes. Conditions: as each theorem states them. -/
import Derived.Test.YtljnnmpfeningaaPkFnExactPartOk
import Derived.Test.YtljnnmpfeningaaPFnExactPartOkx0
namespace Go.Proofs.Ytljnnmpfeningaa.PFnExactPartOk
open Go.RowKit Go.Proofs.YtljnnmpfeningaaW.PrintWords Go.Proofs.YtljnnmpfeningaaW.PrintLast Go.Proofs.YtljnnmpfeningaaW.PrintMore
attribute [local go_sem] max2_int min2_int max_two min_two max_three min_three max_four min_four   -- for this text's walks alone
set_option linter.unusedVariables false
set_option linter.unusedSimpArgs false

/-! ### impl_UsersOf: function 43 -/
mutual
def impl_UsersOf.l0 : Nat → Int → Int → List (S64) → Int → Int → Option (Int)
 | 0, _, _, _, _, _ => none
 | k + 1, x1, x5, x11, x12, x13 => if x13 < x12 then (if 0 ≤ x13 then (if x13 < (x11.length : Int) then (impl_UsersOf.l1 k x1 x5 x11 x12 x13 ((rd_T64 x11 x13).f4) (((rd_T64 x11 x13).f4).length : Int) 0 ((rd_T64 x11 x13).f0) ((rd_T64 x11 x13).f1) ((rd_T64 x11 x13).f2) ((rd_T64 x11 x13).f3) ((rd_T64 x11 x13).f4) ((rd_T64 x11 x13).f5)) else (none)) else (none)) else (some x5)
def impl_UsersOf.l1 : Nat → Int → Int → List (S64) → Int → Int → List (S96) → Int → Int → Int → Int → Int → ByteArray → List (S96) → List (S67) → Option (Int)
 | 0, _, _, _, _, _, _, _, _, _, _, _, _, _, _ => none
 | k + 1, x1, x5, x11, x12, x13, x18, x19, x20, x355000, x355001, x355002, x355003, x355004, x355005 => if x20 < x19 then (if 0 ≤ x20 then (if x20 < (x18.length : Int) then (if x355000 = 1 then (if (wrap64 (((rd_T96 x18 x20).f0) - 1)) = x1 then (impl_UsersOf.l1 k x1 (wrap64 (x5 + 1)) x11 x12 x13 x18 x19 (wrap64 (x20 + 1)) x355000 x355001 x355002 x355003 x355004 x355005) else (impl_UsersOf.l1 k x1 x5 x11 x12 x13 x18 x19 (wrap64 (x20 + 1)) x355000 x355001 x355002 x355003 x355004 x355005)) else (impl_UsersOf.l1 k x1 x5 x11 x12 x13 x18 x19 (wrap64 (x20 + 1)) x355000 x355001 x355002 x355003 x355004 x355005)) else (none)) else (none)) else (impl_UsersOf.l0 k x1 x5 x11 x12 (wrap64 (x13 + 1)))
end
def impl_UsersOf.f (k : Nat) (a0_0 : Int) (l0_1 : List Int) (l0_2 : List (S64)) (a1 : Int) : Option (Int) := impl_UsersOf.l0 k a1 0 l0_2 (l0_2.length : Int) 0
theorem impl_UsersOf.mono_l : ∀ k, (∀ y0 y1 y2 y3 y4, LeO (impl_UsersOf.l0 k y0 y1 y2 y3 y4) (impl_UsersOf.l0 (k + 1) y0 y1 y2 y3 y4)) ∧ (∀ y0 y1 y2 y3 y4 y5 y6 y7 y8 y9 y10 y11 y12 y13, LeO (impl_UsersOf.l1 k y0 y1 y2 y3 y4 y5 y6 y7 y8 y9 y10 y11 y12 y13) (impl_UsersOf.l1 (k + 1) y0 y1 y2 y3 y4 y5 y6 y7 y8 y9 y10 y11 y12 y13))
 | 0 => ⟨fun _ _ _ _ _ r h => by simp [impl_UsersOf.l0] at h, fun _ _ _ _ _ _ _ _ _ _ _ _ _ _ r h => by simp [impl_UsersOf.l1] at h⟩
 | k + 1 => by
  obtain ⟨ih0, ih1⟩ := impl_UsersOf.mono_l k
  refine ⟨?_, ?_⟩
  ·intro y0 y1 y2 y3 y4
   unfold impl_UsersOf.l0
   exact mo_2
  ·intro y0 y1 y2 y3 y4 y5 y6 y7 y8 y9 y10 y11 y12 y13
   unfold impl_UsersOf.l1
   exact mo_2
theorem impl_UsersOf.mono : ∀ a0 a1 a2 a3 k, LeO (impl_UsersOf.f k a0 a1 a2 a3) (impl_UsersOf.f (k + 1) a0 a1 a2 a3) := by
 intro a0 a1 a2 a3 k
 obtain ⟨ih0, ih1⟩ := impl_UsersOf.mono_l k
 unfold impl_UsersOf.f
 repeat' first
   | (with_reducible exact ih0 ..)
   | (with_reducible exact ih1 ..)
   | (with_reducible exact LeO.refl _)
   | (with_reducible exact LeO.none _)
   | (with_reducible refine LeO.ite ?_ ?_)
   | (with_reducible refine LeO.bind ?_ (fun _ => ?_))
   | exact ih0 ..
   | exact ih1 ..
   | exact LeO.none _
   | refine LeO.ite ?_ ?_
   | refine LeO.bind ?_ (fun _ => ?_)
set_option maxHeartbeats 8000000 in
set_option maxRecDepth 100000 in
theorem impl_UsersOf.calls (k : Nat) (a0_0 : Int) (A0_1 : Option Addr) (c0_1 : Nat) (l0_1 : List Int) (A0_2 : Option Addr) (c0_2 : Nat) (l0_2 : List (S64)) (a1 : Int) (r : Int) (w : World) (hr0_1 : Kd.C (Kd.int .i64) w A0_1 l0_1.length l0_1) (hc0_1 : l0_1.length ≤ c0_1) (hr0_2 : Kd.C k64 w A0_2 l0_2.length l0_2) (hc0_2 : l0_2.length ≤ c0_2) (h : impl_UsersOf.f k a0_0 l0_1 l0_2 a1 = some r) :
  Calls Try.prog 43 #[.agg #[.int .i64 a0_0, .slice A0_1 l0_1.length c0_1, .slice A0_2 l0_2.length c0_2], .int .i64 a1] w fun e w' => e = .returned (.int .i64 r) ∧ Below w.heap.size w w' := by
 have hu34 := Try.underlying34
 have hu64 := Try.underlying64
 have hu96 := Try.underlying96
 have HR0_1 := Aside0.mk hr0_1
 have HC0_1 := Aside0.mk hc0_1
 clear hr0_1 hc0_1
 have HR0_2 := Aside0.mk hr0_2
 have HC0_2 := Aside0.mk hc0_2
 clear hr0_2 hc0_2
 have HB := Aside0.mk (Below.refl w.heap.size w)
 have H : (impl_UsersOf.l0 k a1 0 l0_2 (l0_2.length : Int) 0) = some r := h
 clear h
 have H' := Aside0.mk H
 clear H
 go_enter Try.func43, Try.ntmps43
 go_wp2_with (first | ((with_reducible refine gate_dst (N := 2) rfl ?_); refine box_event ?hg (N := 2) ?hd (cs := #[.int .i64 a0_0, .slice A0_1 l0_1.length c0_1, .slice A0_2 l0_2.length c0_2]) (t := 34) ?hr ?_; (case hd => rfl); (case hg => rfl); (case hr => first | (go_simp; done) | (go_simp; rfl)); intro gb352 hg w3 hbox hb; have z_ := p_ (below_step tq_0 hb) <| p_ (hbox) <| p_ (gb_ hg tq_0) <| a_ (gb_ hg tq_0); clear HB; obtain ⟨HB, BK352, GW352, GE352⟩ := z_; clear hb hbox hg; obtain ⟨hcz4_0, hcz4_1, hcz4_2⟩ := bk3_ BK352.out; obtain ⟨hfz4_0, hfz4_1, hfz4_2⟩ := bf3_ BK352.out))
 go_loopg [5, 13] k (fun kq v5 v13 w' => ∃ (x5_1 : Int) (x13_1 : Int), v5 = .int .i64 x5_1 ∧ v13 = .int .i64 x13_1 ∧ Aside0 (impl_UsersOf.l0 kq a1 x5_1 l0_2 (l0_2.length : Int) x13_1 = some r) ∧ Aside0 (kq ≤ k) ∧ Aside0 (w'.heap[gb352]? = some (.cells #[.int .i64 a0_0, (.slice A0_1 l0_1.length c0_1), (.slice A0_2 l0_2.length c0_2)] 34 (0, 0))) ∧ Aside0 (Below w.heap.size w w'))
 case atStart => exact ⟨(0), (0), tq_4, tq_4, H', ⟨Nat.le_refl _⟩, ⟨tq_48⟩, ⟨tq_88⟩⟩
 case round =>
 clear H'
 try clear p2; try clear c4; try clear hcz4_0 hcz4_1 hcz4_2 hfz4_0 hfz4_1 hfz4_2
 obtain ⟨x5_1, x13_1, rfl, rfl, HA, HK1, BK352, HB⟩ := hrel
 cases gk with
 | zero => exact absurd HA.out (by simp [impl_UsersOf.l0])
 | succ k1 =>
 have H := HA.out
 clear HA
 simp only [impl_UsersOf.l0] at H
 by_cases c5 : x13_1 < (l0_2.length : Int)
 rotate_left
 ·rw [if_neg c5] at H
  have c5b0 := decide_eq_false c5
  clear c5
  obtain rfl := Option.some.inj H
  go_wp2
  go_ret
  exact ⟨tq_2, tq_88⟩
 rw [if_pos c5] at H
 have c5b0 := decide_eq_true c5
 clear c5
 by_cases c6 : 0 ≤ x13_1
 rotate_left
 ·rw [if_neg c6] at H
  exact absurd H (by simp)
 rw [if_pos c6] at H
 have c6b0 := decide_eq_true c6
 clear c6
 by_cases c7 : x13_1 < (l0_2.length : Int)
 rotate_left
 ·rw [if_neg c7] at H
  exact absurd H (by simp)
 rw [if_pos c7] at H
 have c7b0 := decide_eq_true c7
 clear c7
 have H' := Aside0.mk H
 clear H
 have p353 : 0 ≤ (x13_1 : Int) := of_decide_eq_true tq_3
 have q353 : x13_1 < (l0_2.length : Int) := of_decide_eq_true tq_3
 obtain ⟨ad353, A353_4, c353_4, A353_5, c353_5, e353, hx353_0, hx353_1, hx353_2, hx353_3, hx353_4, hx353_5, hl353_4, hi353_4, hl353_5, hi353_5⟩ := at_T64 HR0_2.out x13_1 p353 q353
 cases e353
 replace hx353_0 := hx_ HB.out hx353_0
 replace hx353_1 := hx_ HB.out hx353_1
 replace hx353_2 := hx_ HB.out hx353_2
 replace hx353_3 := hx_ HB.out hx353_3
 replace hx353_4 := hx_ HB.out hx353_4
 replace hx353_5 := hx_ HB.out hx353_5
 have HR353_4 := Aside0.mk hi353_4
 have HC353_4 := Aside0.mk hl353_4
 clear hi353_4 hl353_4
 have HR353_5 := Aside0.mk hi353_5
 have HC353_5 := Aside0.mk hl353_5
 clear hi353_5 hl353_5
 replace p353 := eq_true p353
 replace q353 := eq_true q353
 go_wp2_with (first | ((with_reducible refine gate_dst (N := 7) rfl ?_); refine box_event ?hg (N := 7) ?hd (cs := #[.int .i64 0, .int .i64 0, .int .i64 0, .string (⟨#[]⟩ : ByteArray), .slice none 0 0, .slice none 0 0]) (t := 64) ?hr ?_; (case hd => rfl); (case hg => rfl); (case hr => first | (go_simp; done) | (go_simp; rfl)); intro gb354 hg w8 hbox hb; have z_ := p_ (blk_below tq_48 hb) <| p_ (below_step tq_88 hb) <| p_ (hbox) <| p_ (gb_ hg tq_88) <| p_ (gb_ hg tq_88) <| p_ (ltne_ hg (blk_lt tq_48)) <| a_ (gtne_ hg (blk_lt tq_48)); clear BK352 HB; obtain ⟨BK352, HB, BK354, GW354, GE354, NB352_354, NB354_352⟩ := z_; clear hb hbox hg; have hnb9 := NB354_352.out; have hnc9 := NB352_354.out; obtain ⟨hcz10_0, hcz10_1, hcz10_2, hcz10_3, hcz10_4, hcz10_5⟩ := bk6_ BK354.out; obtain ⟨hfz10_0, hfz10_1, hfz10_2, hfz10_3, hfz10_4, hfz10_5⟩ := bf6_ BK354.out))
 go_loopg [5, 20] k1 (fun kq v5 v20 w' => ∃ (x5_2 : Int) (x20_2 : Int), v5 = .int .i64 x5_2 ∧ v20 = .int .i64 x20_2 ∧ Aside0 (impl_UsersOf.l1 kq a1 x5_2 l0_2 (l0_2.length : Int) x13_1 ((rd_T64 l0_2 x13_1).f4) (((rd_T64 l0_2 x13_1).f4).length : Int) x20_2 ((rd_T64 l0_2 x13_1).f0) ((rd_T64 l0_2 x13_1).f1) ((rd_T64 l0_2 x13_1).f2) ((rd_T64 l0_2 x13_1).f3) ((rd_T64 l0_2 x13_1).f4) ((rd_T64 l0_2 x13_1).f5) = some r) ∧ Aside0 (kq ≤ k1) ∧ Aside0 (w'.heap[gb352]? = some (.cells #[.int .i64 a0_0, (.slice A0_1 l0_1.length c0_1), (.slice (some ad353) l0_2.length c0_2)] 34 (0, 0))) ∧ Aside0 (w'.heap[gb354]? = some (.cells #[.int .i64 ((rd_T64 l0_2 x13_1).f0), .int .i64 ((rd_T64 l0_2 x13_1).f1), .int .i64 ((rd_T64 l0_2 x13_1).f2), .string ((rd_T64 l0_2 x13_1).f3), (.slice A353_4 ((rd_T64 l0_2 x13_1).f4).length c353_4), (.slice A353_5 ((rd_T64 l0_2 x13_1).f5).length c353_5)] 64 (0, 0))) ∧ Aside0 (Below w.heap.size w w'))
 case atStart => exact ⟨(x5_1), (0), tq_4, tq_4, H', ⟨Nat.le_refl _⟩, ⟨(by (with_reducible repeat (first | refine blk_drewN ?_ _ | refine blk_drew ?_ | refine blk_alloc ?_ _)); refine blk_far ?_ NB352_354.out _; (with_reducible repeat (first | refine blk_drewN ?_ _ | refine blk_drew ?_ | refine blk_alloc ?_ _)); refine blk_far ?_ NB352_354.out _; (with_reducible repeat (first | refine blk_drewN ?_ _ | refine blk_drew ?_ | refine blk_alloc ?_ _)); refine blk_far ?_ NB352_354.out _; (with_reducible repeat (first | refine blk_drewN ?_ _ | refine blk_drew ?_ | refine blk_alloc ?_ _)); refine blk_far ?_ NB352_354.out _; (with_reducible repeat (first | refine blk_drewN ?_ _ | refine blk_drew ?_ | refine blk_alloc ?_ _)); refine blk_far ?_ NB352_354.out _; (with_reducible repeat (first | refine blk_drewN ?_ _ | refine blk_drew ?_ | refine blk_alloc ?_ _)); refine blk_far ?_ NB352_354.out _; (with_reducible repeat (first | refine blk_drewN ?_ _ | refine blk_drew ?_ | refine blk_alloc ?_ _)); exact BK352.out)⟩, ⟨(by (with_reducible repeat (first | refine blk_drewN ?_ _ | refine blk_drew ?_ | refine blk_alloc ?_ _)); refine blk_put (cs := #[.int .i64 ((rd_T64 l0_2 x13_1).f0), .int .i64 ((rd_T64 l0_2 x13_1).f1), .int .i64 ((rd_T64 l0_2 x13_1).f2), .string ((rd_T64 l0_2 x13_1).f3), .slice A353_4 ((rd_T64 l0_2 x13_1).f4).length c353_4, .slice none 0 0]) ?_ 5 _ rfl; (with_reducible repeat (first | refine blk_drewN ?_ _ | refine blk_drew ?_ | refine blk_alloc ?_ _)); refine blk_put (cs := #[.int .i64 ((rd_T64 l0_2 x13_1).f0), .int .i64 ((rd_T64 l0_2 x13_1).f1), .int .i64 ((rd_T64 l0_2 x13_1).f2), .string ((rd_T64 l0_2 x13_1).f3), .slice none 0 0, .slice none 0 0]) ?_ 4 _ rfl; (with_reducible repeat (first | refine blk_drewN ?_ _ | refine blk_drew ?_ | refine blk_alloc ?_ _)); refine blk_put (cs := #[.int .i64 ((rd_T64 l0_2 x13_1).f0), .int .i64 ((rd_T64 l0_2 x13_1).f1), .int .i64 ((rd_T64 l0_2 x13_1).f2), .string (⟨#[]⟩ : ByteArray), .slice none 0 0, .slice none 0 0]) ?_ 3 _ rfl; (with_reducible repeat (first | refine blk_drewN ?_ _ | refine blk_drew ?_ | refine blk_alloc ?_ _)); refine blk_put (cs := #[.int .i64 ((rd_T64 l0_2 x13_1).f0), .int .i64 ((rd_T64 l0_2 x13_1).f1), .int .i64 0, .string (⟨#[]⟩ : ByteArray), .slice none 0 0, .slice none 0 0]) ?_ 2 _ rfl; (with_reducible repeat (first | refine blk_drewN ?_ _ | refine blk_drew ?_ | refine blk_alloc ?_ _)); refine blk_put (cs := #[.int .i64 ((rd_T64 l0_2 x13_1).f0), .int .i64 0, .int .i64 0, .string (⟨#[]⟩ : ByteArray), .slice none 0 0, .slice none 0 0]) ?_ 1 _ rfl; (with_reducible repeat (first | refine blk_drewN ?_ _ | refine blk_drew ?_ | refine blk_alloc ?_ _)); refine blk_put (cs := #[.int .i64 0, .int .i64 0, .int .i64 0, .string (⟨#[]⟩ : ByteArray), .slice none 0 0, .slice none 0 0]) ?_ 0 _ rfl; (with_reducible repeat (first | refine blk_drewN ?_ _ | refine blk_drew ?_ | refine blk_alloc ?_ _)); exact BK354.out)⟩, ⟨tq_38⟩⟩
 case round =>
 clear H'
 try clear p2; try clear c3; try clear p3; try clear q3; try clear hx3; try clear c4; try clear c5; try clear c5b0; try clear c6; try clear c6b0; try clear c7; try clear c7b0; try clear c9; try clear hcz10_0 hcz10_1 hcz10_2 hcz10_3 hcz10_4 hcz10_5; try clear hcz4_0 hcz4_1 hcz4_2; try clear hfz10_0 hfz10_1 hfz10_2 hfz10_3 hfz10_4 hfz10_5; try clear hfz4_0 hfz4_1 hfz4_2; try clear hx353_0; try clear hx353_1; try clear hx353_2; try clear hx353_3; try clear hx353_4; try clear hx353_5; try clear p2; try clear p353; try clear q353
 obtain ⟨x5_2, x20_2, rfl, rfl, HA, HK2, BK352, BK354, HB⟩ := hrel
 cases gk with
 | zero => exact absurd HA.out (by simp [impl_UsersOf.l1])
 | succ k2 =>
 have H := HA.out
 clear HA
 simp only [impl_UsersOf.l1] at H
 by_cases c11 : x20_2 < (((rd_T64 l0_2 x13_1).f4).length : Int)
 rotate_left
 ·rw [if_neg c11] at H
  have c11b0 := decide_eq_false c11
  clear c11
  have H' := Aside0.mk H
  clear H
  go_wp2
  go_roundg k2
  case measure => have := HK1.out; have := HK2.out; omega
  case rel => exact ⟨(x5_2), (wrap64 (x13_1 + 1)), tq_4, tq_4, H', ⟨tq_129⟩, ⟨tq_48⟩, ⟨tq_38⟩⟩
 rw [if_pos c11] at H
 have c11b0 := decide_eq_true c11
 clear c11
 by_cases c12 : 0 ≤ x20_2
 rotate_left
 ·rw [if_neg c12] at H
  exact absurd H (by simp)
 rw [if_pos c12] at H
 have c12b0 := decide_eq_true c12
 clear c12
 by_cases c13 : x20_2 < (((rd_T64 l0_2 x13_1).f4).length : Int)
 rotate_left
 ·rw [if_neg c13] at H
  exact absurd H (by simp)
 rw [if_pos c13] at H
 have c13b0 := decide_eq_true c13
 clear c13
 by_cases c14 : ((rd_T64 l0_2 x13_1).f0) = 1
 rotate_left
 ·rw [if_neg c14] at H
  have c14b0 := beq_eq_false_iff_ne.mpr c14
  have c14b1 := bne_iff_ne.mpr c14
  have H' := Aside0.mk H
  clear H
  have p355 : 0 ≤ (x20_2 : Int) := of_decide_eq_true tq_3
  have q355 : x20_2 < (((rd_T64 l0_2 x13_1).f4).length : Int) := of_decide_eq_true tq_3
  obtain ⟨ad355, e355, hx355_0, hx355_1, hx355_2⟩ := at_T96 HR353_4.out x20_2 p355 q355
  cases e355
  replace hx355_0 := hx_ HB.out hx355_0
  replace hx355_1 := hx_ HB.out hx355_1
  replace hx355_2 := hx_ HB.out hx355_2
  replace p355 := eq_true p355
  replace q355 := eq_true q355
  go_wp2_with (first | ((with_reducible refine gate_dst (N := 9) rfl ?_); refine box_event ?hg (N := 9) ?hd (cs := #[.int .i64 0, .int .i64 0, .string (⟨#[]⟩ : ByteArray)]) (t := 96) ?hr ?_; (case hd => rfl); (case hg => rfl); (case hr => first | (go_simp; done) | (go_simp; rfl)); intro gb356 hg w28 hbox hb; have z_ := p_ (blk_below tq_48 hb) <| p_ (blk_below tq_73 hb) <| p_ (below_step tq_38 hb) <| p_ (hbox) <| p_ (gb_ hg tq_38) <| p_ (gb_ hg tq_38) <| p_ (ltne_ hg (blk_lt tq_48)) <| p_ (gtne_ hg (blk_lt tq_48)) <| p_ (ltne_ hg (blk_lt tq_73)) <| a_ (gtne_ hg (blk_lt tq_73)); clear BK352 BK354 HB; obtain ⟨BK352, BK354, HB, BK356, GW356, GE356, NB352_356, NB356_352, NB354_356, NB356_354⟩ := z_; clear hb hbox hg; have hnb29 := NB356_352.out; have hnc29 := NB352_356.out; have hnb30 := NB356_354.out; have hnc30 := NB354_356.out; obtain ⟨hcz31_0, hcz31_1, hcz31_2⟩ := bk3_ BK356.out; obtain ⟨hfz31_0, hfz31_1, hfz31_2⟩ := bf3_ BK356.out; have hnb32 := NB354_352.out; have hnc32 := NB352_354.out; obtain ⟨hcz33_0, hcz33_1, hcz33_2, hcz33_3, hcz33_4, hcz33_5⟩ := bk6_ BK354.out; obtain ⟨hfz33_0, hfz33_1, hfz33_2, hfz33_3, hfz33_4, hfz33_5⟩ := bf6_ BK354.out))
  go_roundg k2
  case measure => have := HK1.out; have := HK2.out; omega
  case rel => exact ⟨(x5_2), (wrap64 (x20_2 + 1)), tq_4, tq_4, H', ⟨tq_129⟩, ⟨tq_64⟩, ⟨tq_63⟩, ⟨tq_114⟩⟩
 rw [if_pos c14] at H
 have c14b0 := beq_iff_eq.mpr c14
 have c14b1 := bne_eq_false_iff_eq.mpr c14
 clear c14
 by_cases c15 : (wrap64 (((rd_T96 ((rd_T64 l0_2 x13_1).f4) x20_2).f0) - 1)) = a1
 rotate_left
 ·rw [if_neg c15] at H
  have c15b0 := beq_eq_false_iff_ne.mpr c15
  have c15b1 := bne_iff_ne.mpr c15
  have H' := Aside0.mk H
  clear H
  have p355 : 0 ≤ (x20_2 : Int) := of_decide_eq_true tq_3
  have q355 : x20_2 < (((rd_T64 l0_2 x13_1).f4).length : Int) := of_decide_eq_true tq_3
  obtain ⟨ad355, e355, hx355_0, hx355_1, hx355_2⟩ := at_T96 HR353_4.out x20_2 p355 q355
  cases e355
  replace hx355_0 := hx_ HB.out hx355_0
  replace hx355_1 := hx_ HB.out hx355_1
  replace hx355_2 := hx_ HB.out hx355_2
  replace p355 := eq_true p355
  replace q355 := eq_true q355
  go_wp2_with (first | ((with_reducible refine gate_dst (N := 9) rfl ?_); refine box_event ?hg (N := 9) ?hd (cs := #[.int .i64 0, .int .i64 0, .string (⟨#[]⟩ : ByteArray)]) (t := 96) ?hr ?_; (case hd => rfl); (case hg => rfl); (case hr => first | (go_simp; done) | (go_simp; rfl)); intro gb356 hg w22 hbox hb; have z_ := p_ (blk_below tq_48 hb) <| p_ (blk_below tq_73 hb) <| p_ (below_step tq_38 hb) <| p_ (hbox) <| p_ (gb_ hg tq_38) <| p_ (gb_ hg tq_38) <| p_ (ltne_ hg (blk_lt tq_48)) <| p_ (gtne_ hg (blk_lt tq_48)) <| p_ (ltne_ hg (blk_lt tq_73)) <| a_ (gtne_ hg (blk_lt tq_73)); clear BK352 BK354 HB; obtain ⟨BK352, BK354, HB, BK356, GW356, GE356, NB352_356, NB356_352, NB354_356, NB356_354⟩ := z_; clear hb hbox hg; have hnb23 := NB356_352.out; have hnc23 := NB352_356.out; have hnb24 := NB356_354.out; have hnc24 := NB354_356.out; obtain ⟨hcz25_0, hcz25_1, hcz25_2⟩ := bk3_ BK356.out; obtain ⟨hfz25_0, hfz25_1, hfz25_2⟩ := bf3_ BK356.out; have hnb26 := NB354_352.out; have hnc26 := NB352_354.out; obtain ⟨hcz27_0, hcz27_1, hcz27_2, hcz27_3, hcz27_4, hcz27_5⟩ := bk6_ BK354.out; obtain ⟨hfz27_0, hfz27_1, hfz27_2, hfz27_3, hfz27_4, hfz27_5⟩ := bf6_ BK354.out))
  go_roundg k2
  case measure => have := HK1.out; have := HK2.out; omega
  case rel => exact ⟨(x5_2), (wrap64 (x20_2 + 1)), tq_4, tq_4, H', ⟨tq_129⟩, ⟨tq_64⟩, ⟨tq_63⟩, ⟨tq_114⟩⟩
 rw [if_pos c15] at H
 have c15b0 := beq_iff_eq.mpr c15
 have c15b1 := bne_eq_false_iff_eq.mpr c15
 clear c15
 have H' := Aside0.mk H
 clear H
 have p355 : 0 ≤ (x20_2 : Int) := of_decide_eq_true tq_3
 have q355 : x20_2 < (((rd_T64 l0_2 x13_1).f4).length : Int) := of_decide_eq_true tq_3
 obtain ⟨ad355, e355, hx355_0, hx355_1, hx355_2⟩ := at_T96 HR353_4.out x20_2 p355 q355
 cases e355
 replace hx355_0 := hx_ HB.out hx355_0
 replace hx355_1 := hx_ HB.out hx355_1
 replace hx355_2 := hx_ HB.out hx355_2
 replace p355 := eq_true p355
 replace q355 := eq_true q355
 go_wp2_with (first | ((with_reducible refine gate_dst (N := 9) rfl ?_); refine box_event ?hg (N := 9) ?hd (cs := #[.int .i64 0, .int .i64 0, .string (⟨#[]⟩ : ByteArray)]) (t := 96) ?hr ?_; (case hd => rfl); (case hg => rfl); (case hr => first | (go_simp; done) | (go_simp; rfl)); intro gb356 hg w16 hbox hb; have z_ := p_ (blk_below tq_48 hb) <| p_ (blk_below tq_73 hb) <| p_ (below_step tq_38 hb) <| p_ (hbox) <| p_ (gb_ hg tq_38) <| p_ (gb_ hg tq_38) <| p_ (ltne_ hg (blk_lt tq_48)) <| p_ (gtne_ hg (blk_lt tq_48)) <| p_ (ltne_ hg (blk_lt tq_73)) <| a_ (gtne_ hg (blk_lt tq_73)); clear BK352 BK354 HB; obtain ⟨BK352, BK354, HB, BK356, GW356, GE356, NB352_356, NB356_352, NB354_356, NB356_354⟩ := z_; clear hb hbox hg; have hnb17 := NB356_352.out; have hnc17 := NB352_356.out; have hnb18 := NB356_354.out; have hnc18 := NB354_356.out; obtain ⟨hcz19_0, hcz19_1, hcz19_2⟩ := bk3_ BK356.out; obtain ⟨hfz19_0, hfz19_1, hfz19_2⟩ := bf3_ BK356.out; have hnb20 := NB354_352.out; have hnc20 := NB352_354.out; obtain ⟨hcz21_0, hcz21_1, hcz21_2, hcz21_3, hcz21_4, hcz21_5⟩ := bk6_ BK354.out; obtain ⟨hfz21_0, hfz21_1, hfz21_2, hfz21_3, hfz21_4, hfz21_5⟩ := bf6_ BK354.out))
 go_roundg k2
 case measure => have := HK1.out; have := HK2.out; omega
 case rel => exact ⟨(wrap64 (x5_2 + 1)), (wrap64 (x20_2 + 1)), tq_4, tq_4, H', ⟨tq_129⟩, ⟨tq_64⟩, ⟨tq_63⟩, ⟨tq_114⟩⟩

/-! ### impl_PagesWith: function 44 -/
def impl_PagesWith.l0 : Nat → Int → List Int → List Int → Int → Int → Option (List Int)
 | 0, _, _, _, _, _ => none
 | k + 1, x1, x5, x9, x10, x11 => if x11 < x10 then (if 0 ≤ x11 then (if x11 < (x9.length : Int) then (if (rd x9 x11) = x1 then (if x5.length < 17592186044416 then (impl_PagesWith.l0 k x1 (x5 ++ [x11]) x9 x10 (wrap64 (x11 + 1))) else (none)) else (impl_PagesWith.l0 k x1 x5 x9 x10 (wrap64 (x11 + 1)))) else (none)) else (none)) else (some x5)
def impl_PagesWith.f (k : Nat) (l0 : List Int) (a1 : Int) : Option (List Int) := impl_PagesWith.l0 k a1 (([] : List Int)) l0 (l0.length : Int) 0
theorem impl_PagesWith.mono_l : ∀ k, (∀ y0 y1 y2 y3 y4, LeO (impl_PagesWith.l0 k y0 y1 y2 y3 y4) (impl_PagesWith.l0 (k + 1) y0 y1 y2 y3 y4))
 | 0 => fun _ _ _ _ _ r h => by simp [impl_PagesWith.l0] at h
 | k + 1 => by
  have ih0 := impl_PagesWith.mono_l k
  ·intro y0 y1 y2 y3 y4
   unfold impl_PagesWith.l0
   exact mo_0
theorem impl_PagesWith.mono : ∀ a0 a1 k, LeO (impl_PagesWith.f k a0 a1) (impl_PagesWith.f (k + 1) a0 a1) := by
 intro a0 a1 k
 have ih0 := impl_PagesWith.mono_l k
 unfold impl_PagesWith.f
 repeat' first
   | (with_reducible exact ih0 ..)
   | (with_reducible exact LeO.refl _)
   | (with_reducible exact LeO.none _)
   | (with_reducible refine LeO.ite ?_ ?_)
   | (with_reducible refine LeO.bind ?_ (fun _ => ?_))
   | exact ih0 ..
   | exact LeO.none _
   | refine LeO.ite ?_ ?_
   | refine LeO.bind ?_ (fun _ => ?_)
set_option maxHeartbeats 8000000 in
set_option maxRecDepth 100000 in
theorem impl_PagesWith.calls (k : Nat) (A0 : Option Addr) (c0 : Nat) (l0 : List Int) (a1 : Int) (r : List Int) (w : World) (hr0 : Kd.C (Kd.int .i64) w A0 l0.length l0) (hc0 : l0.length ≤ c0) (h : impl_PagesWith.f k l0 a1 = some r) :
  Calls Try.prog 44 #[.slice A0 l0.length c0, .int .i64 a1] w fun e w' => ∃ v0_ : Value, e = .returned (v0_) ∧ Kd.R (Kd.int .i64) 3 w' w.heap.size (fun _ => True) v0_ r ∧ Below w.heap.size w w' := by
 have HR0 := Aside0.mk hr0
 have HC0 := Aside0.mk hc0
 clear hr0 hc0
 have HB := Aside0.mk (Below.refl w.heap.size w)
 have H : (impl_PagesWith.l0 k a1 (([] : List Int)) l0 (l0.length : Int) 0) = some r := h
 clear h
 obtain ⟨y357, hy357⟩ : ∃ y_ : List Int, y_ = (([] : List Int)) := ⟨_, rfl⟩
 replace H : (impl_PagesWith.l0 k a1 y357 l0 (l0.length : Int) 0) = some r := by first | (rw [hy357]; with_reducible exact H) | (have H2_ := (Option.bind_some _ _).symm.trans H; rw [hy357]; with_reducible exact H2_) | (have H2_ := (Option.bind_some _ _).symm.trans H; with_reducible exact H2_) | with_reducible exact H | (rw [hy357]; exact H) | exact H
 have Ny357 := Aside0.mk hy357
 clear hy357
 have H' := Aside0.mk H
 clear H
 go_enter Try.func44, Try.ntmps44
 go_wp2_with (first | ((with_reducible refine gate_dst (N := 8) rfl ?_); refine Kd.R_lit (Kd.int .i64) _ 3 ?hg (N := 8) ?hd (xs := ([] : List Int)) (inner := []) (ok := fun _ => True) (okp := fun _ => True) ?hr ?hp (fun _ hk => hk) trivial (Below.refl _ _) (Nat.le_refl _) (by simp) ?_; (case hd => rfl); (case hg => rfl); (case hr => first | (go_simp; done) | (go_simp; rfl)); (case hp => exact (Reps.none _ _)); intro v358 w3 ho4 hb hg_ hnew_; clear hg_ hnew_; (first | rw [← Ny357.out] at ho4 | (simp only [Int.reduceToNat] at ho4; rw [← Ny357.out] at ho4)); have z_ := p_ (Kd.R_lower ho4 (below_size tq_0)) <| a_ (below_step tq_0 hb); clear HB; obtain ⟨HO359, HB⟩ := z_; clear hb ho4))
 go_loopg [5, 11] k (fun kq v5 v11 w' => ∃ (x5_1 : List Int) (x11_1 : Int), v11 = .int .i64 x11_1 ∧ Aside0 (impl_PagesWith.l0 kq a1 x5_1 l0 (l0.length : Int) x11_1 = some r) ∧ Aside0 (kq ≤ k) ∧ Aside0 (Kd.R (Kd.int .i64) 3 w' w.heap.size (fun _ => True) v5 x5_1) ∧ Aside0 (Below w.heap.size w w'))
 case atStart => exact ⟨(y357), (0), tq_4, H', ⟨Nat.le_refl _⟩, ⟨(by (with_reducible repeat (first | apply Kd.R_alloc | apply Kd.R_drewN | apply Kd.R_drew)); exact HO359.out)⟩, ⟨tq_0⟩⟩
 case round =>
 clear H'
 try clear p2; try clear c4
 obtain ⟨x5_1, x11_1, rfl, HA, HK1, HO_5, HB⟩ := hrel
 cases gk with
 | zero => exact absurd HA.out (by simp [impl_PagesWith.l0])
 | succ k1 =>
 have H := HA.out
 clear HA
 simp only [impl_PagesWith.l0] at H
 by_cases c5 : x11_1 < (l0.length : Int)
 rotate_left
 ·rw [if_neg c5] at H
  have c5b0 := decide_eq_false c5
  clear c5
  obtain rfl := Option.some.inj H
  go_wp2
  go_ret
  exact ⟨_, tq_2, tq_84, tq_0⟩
 rw [if_pos c5] at H
 have c5b0 := decide_eq_true c5
 clear c5
 by_cases c6 : 0 ≤ x11_1
 rotate_left
 ·rw [if_neg c6] at H
  exact absurd H (by simp)
 rw [if_pos c6] at H
 have c6b0 := decide_eq_true c6
 clear c6
 by_cases c7 : x11_1 < (l0.length : Int)
 rotate_left
 ·rw [if_neg c7] at H
  exact absurd H (by simp)
 rw [if_pos c7] at H
 have c7b0 := decide_eq_true c7
 clear c7
 by_cases c8 : (rd l0 x11_1) = a1
 rotate_left
 ·rw [if_neg c8] at H
  have c8b0 := beq_eq_false_iff_ne.mpr c8
  have c8b1 := bne_iff_ne.mpr c8
  have H' := Aside0.mk H
  clear H
  have p360 : 0 ≤ (x11_1 : Int) := of_decide_eq_true tq_3
  have q360 : x11_1 < (l0.length : Int) := of_decide_eq_true tq_3
  obtain ⟨ad360, e360, hx360_0⟩ := Kd.at_int HR0.out x11_1 p360 q360
  cases e360
  replace hx360_0 := hx_ HB.out hx360_0
  replace p360 := eq_true p360
  replace q360 := eq_true q360
  go_wp2
  go_roundg k1
  case measure => have := HK1.out; omega
  case rel => exact ⟨(x5_1), (wrap64 (x11_1 + 1)), tq_4, H', ⟨tq_93⟩, ⟨tq_84⟩, ⟨tq_0⟩⟩
 rw [if_pos c8] at H
 have c8b0 := beq_iff_eq.mpr c8
 have c8b1 := bne_eq_false_iff_eq.mpr c8
 clear c8
 by_cases c9 : x5_1.length < 17592186044416
 rotate_left
 ·rw [if_neg c9] at H
  exact absurd H (by simp)
 rw [if_pos c9] at H
 have LMc9 := Aside0.mk c9
 clear c9
 obtain ⟨y361, hy361⟩ : ∃ y_ : List Int, y_ = (x5_1 ++ [x11_1]) := ⟨_, rfl⟩
 replace H : (impl_PagesWith.l0 k1 a1 y361 l0 (l0.length : Int) (wrap64 (x11_1 + 1))) = some r := by first | (rw [hy361]; with_reducible exact H) | (have H2_ := (Option.bind_some _ _).symm.trans H; rw [hy361]; with_reducible exact H2_) | (have H2_ := (Option.bind_some _ _).symm.trans H; with_reducible exact H2_) | with_reducible exact H | (rw [hy361]; exact H) | exact H
 have Ny361 := Aside0.mk hy361
 clear hy361
 have H' := Aside0.mk H
 clear H
 have p360 : 0 ≤ (x11_1 : Int) := of_decide_eq_true tq_3
 have q360 : x11_1 < (l0.length : Int) := of_decide_eq_true tq_3
 obtain ⟨ad360, e360, hx360_0⟩ := Kd.at_int HR0.out x11_1 p360 q360
 cases e360
 replace hx360_0 := hx_ HB.out hx360_0
 replace p360 := eq_true p360
 replace q360 := eq_true q360
 go_wp2_with (first | ((with_reducible refine gate_builtin (b := .append) (xs := #[.tmp 19, .tmp 21]) rfl ?_); at_builtin; refine Kd.R_append (Kd.int .i64) (w0 := w) w.heap.size rfl (.tmp 19) (.tmp 21) 24 3 (.int .i64 0) 8 rfl Try.underlying24 info3 rfl (by decide) (by omega) u5 x5_1 x11_1 [.int .i64 x11_1] (fun _ => True) (fun _ => False) rfl rfl ?aP (fun _ hk => hk.elim) ?aF ?aO ?aB ?aS ?aL ?_; (case aP => exact rfl); (case aB => exact tq_0); (case aF => exact (fun _ _ => trivial)); (case aO => exact tq_84); (case aS => exact (below_size tq_0)); (case aL => have := LMc9.out; omega); intro v362 w10 ho hb hg hat; rw [← Ny361.out] at ho; have z_ := p_ (hb) <| a_ (ho); clear HB HO_5; obtain ⟨HB, HO363⟩ := z_; clear ho hb hg hat))
 go_roundg k1
 case measure => have := HK1.out; omega
 case rel => exact ⟨(y361), (wrap64 (x11_1 + 1)), tq_4, H', ⟨tq_93⟩, ⟨(by (with_reducible repeat (first | apply Kd.R_alloc | apply Kd.R_drewN | apply Kd.R_drew)); exact HO363.out)⟩, ⟨tq_0⟩⟩

end Go.Proofs.Ytljnnmpfeningaa.PFnExactPartOk
