/- Contracts of Go functions, written by a program of ours over the print of the kit: each says that the call returns what the Lean function beside it computes. Conditions: as each theorem states them. -/
import Derived.Test.YtljnnmpfeningaaPkFnExactPartOk
import Derived.Test.YtljnnmpfeningaaPFnExactPartOkx0
namespace Go.Proofs.Ytljnnmpfeningaa.PFnExactPartOk
open Go.RowKit Go.Proofs.YtljnnmpfeningaaW.PrintWords Go.Proofs.YtljnnmpfeningaaW.PrintLast Go.Proofs.YtljnnmpfeningaaW.PrintMore
attribute [local go_sem] max2_int min2_int max_two min_two max_three min_three max_four min_four   -- for this text's walks alone
set_option linter.unusedVariables false
set_option linter.unusedSimpArgs false

/-! ### spec_UsersOf: function 36 -/
mutual
def spec_UsersOf.l0 : Nat → Int → Int → Int → Int → List Int → List (S64) → Option (Int)
 | 0, _, _, _, _, _, _ => none
 | k + 1, x1, x5, x6, x182000, x182001, x182002 => if x6 < (x182002.length : Int) then (spec_UsersOf.l1 k x1 x5 x6 0 x182000 x182001 x182002) else (some x5)
def spec_UsersOf.l1 : Nat → Int → Int → Int → Int → Int → List Int → List (S64) → Option (Int)
 | 0, _, _, _, _, _, _, _ => none
 | k + 1, x1, x5, x6, x7, x182000, x182001, x182002 => if 0 ≤ x6 then (if x6 < (x182002.length : Int) then (if x7 < (((rd_T64 x182002 x6).f4).length : Int) then (spec_UsersOf.j2 k x1 x5 x6 x7 (((rd_T64 x182002 x6).f0) == 1) x182000 x182001 x182002) else (spec_UsersOf.j2 k x1 x5 x6 x7 false x182000 x182001 x182002)) else (none)) else (none)
def spec_UsersOf.j2 : Nat → Int → Int → Int → Int → Bool → Int → List Int → List (S64) → Option (Int)
 | 0, _, _, _, _, _, _, _, _ => none
 | k + 1, x1, x5, x6, x7, x32, x182000, x182001, x182002 => if x32 = true then (if 0 ≤ x6 then (if x6 < (x182002.length : Int) then (if 0 ≤ x7 then (if x7 < (((rd_T64 x182002 x6).f4).length : Int) then (if (wrap64 (((rd_T96 ((rd_T64 x182002 x6).f4) x7).f0) - 1)) = x1 then (spec_UsersOf.l1 k x1 (wrap64 (x5 + 1)) x6 (wrap64 (x7 + 1)) x182000 x182001 x182002) else (spec_UsersOf.l1 k x1 x5 x6 (wrap64 (x7 + 1)) x182000 x182001 x182002)) else (none)) else (none)) else (none)) else (none)) else (spec_UsersOf.l0 k x1 x5 (wrap64 (x6 + 1)) x182000 x182001 x182002)
end
def spec_UsersOf.f (k : Nat) (a0_0 : Int) (l0_1 : List Int) (l0_2 : List (S64)) (a1 : Int) : Option (Int) := spec_UsersOf.l0 k a1 0 0 a0_0 l0_1 l0_2
theorem spec_UsersOf.mono_l : ∀ k, (∀ y0 y1 y2 y3 y4 y5, LeO (spec_UsersOf.l0 k y0 y1 y2 y3 y4 y5) (spec_UsersOf.l0 (k + 1) y0 y1 y2 y3 y4 y5)) ∧ (∀ y0 y1 y2 y3 y4 y5 y6, LeO (spec_UsersOf.l1 k y0 y1 y2 y3 y4 y5 y6) (spec_UsersOf.l1 (k + 1) y0 y1 y2 y3 y4 y5 y6)) ∧ (∀ y0 y1 y2 y3 y4 y5 y6 y7, LeO (spec_UsersOf.j2 k y0 y1 y2 y3 y4 y5 y6 y7) (spec_UsersOf.j2 (k + 1) y0 y1 y2 y3 y4 y5 y6 y7))
 | 0 => ⟨fun _ _ _ _ _ _ r h => by simp [spec_UsersOf.l0] at h, fun _ _ _ _ _ _ _ r h => by simp [spec_UsersOf.l1] at h, fun _ _ _ _ _ _ _ _ r h => by simp [spec_UsersOf.j2] at h⟩
 | k + 1 => by
  obtain ⟨ih0, ih1, ih2⟩ := spec_UsersOf.mono_l k
  refine ⟨?_, ?_, ?_⟩
  ·intro y0 y1 y2 y3 y4 y5
   unfold spec_UsersOf.l0
   exact mo_1
  ·intro y0 y1 y2 y3 y4 y5 y6
   unfold spec_UsersOf.l1
   exact mo_1
  ·intro y0 y1 y2 y3 y4 y5 y6 y7
   unfold spec_UsersOf.j2
   exact mo_1
theorem spec_UsersOf.mono : ∀ a0 a1 a2 a3 k, LeO (spec_UsersOf.f k a0 a1 a2 a3) (spec_UsersOf.f (k + 1) a0 a1 a2 a3) := by
 intro a0 a1 a2 a3 k
 obtain ⟨ih0, ih1, ih2⟩ := spec_UsersOf.mono_l k
 unfold spec_UsersOf.f
 repeat' first
   | (with_reducible exact ih0 ..)
   | (with_reducible exact ih1 ..)
   | (with_reducible exact ih2 ..)
   | (with_reducible exact LeO.refl _)
   | (with_reducible exact LeO.none _)
   | (with_reducible refine LeO.ite ?_ ?_)
   | (with_reducible refine LeO.bind ?_ (fun _ => ?_))
   | exact ih0 ..
   | exact ih1 ..
   | exact ih2 ..
   | exact LeO.none _
   | refine LeO.ite ?_ ?_
   | refine LeO.bind ?_ (fun _ => ?_)
set_option maxHeartbeats 8000000 in
set_option maxRecDepth 100000 in
theorem spec_UsersOf.calls (k : Nat) (a0_0 : Int) (A0_1 : Option Addr) (c0_1 : Nat) (l0_1 : List Int) (A0_2 : Option Addr) (c0_2 : Nat) (l0_2 : List (S64)) (a1 : Int) (r : Int) (w : World) (hr0_1 : Kd.C (Kd.int .i64) w A0_1 l0_1.length l0_1) (hc0_1 : l0_1.length ≤ c0_1) (hr0_2 : Kd.C k64 w A0_2 l0_2.length l0_2) (hc0_2 : l0_2.length ≤ c0_2) (h : spec_UsersOf.f k a0_0 l0_1 l0_2 a1 = some r) :
  Calls Try.prog 36 #[.agg #[.int .i64 a0_0, .slice A0_1 l0_1.length c0_1, .slice A0_2 l0_2.length c0_2], .int .i64 a1] w fun e w' => e = .returned (.int .i64 r) ∧ Below w.heap.size w w' := by
 have hu34 := Try.underlying34
 have HR0_1 := Aside0.mk hr0_1
 have HC0_1 := Aside0.mk hc0_1
 clear hr0_1 hc0_1
 have HR0_2 := Aside0.mk hr0_2
 have HC0_2 := Aside0.mk hc0_2
 clear hr0_2 hc0_2
 have HB := Aside0.mk (Below.refl w.heap.size w)
 have H : (spec_UsersOf.l0 k a1 0 0 a0_0 l0_1 l0_2) = some r := h
 clear h
 have H' := Aside0.mk H
 clear H
 go_enter Try.func36, Try.ntmps36
 go_wp2_with (first | ((with_reducible refine gate_dst (N := 2) rfl ?_); refine box_event ?hg (N := 2) ?hd (cs := #[.int .i64 a0_0, .slice A0_1 l0_1.length c0_1, .slice A0_2 l0_2.length c0_2]) (t := 34) ?hr ?_; (case hd => rfl); (case hg => rfl); (case hr => first | (go_simp; done) | (go_simp; rfl)); intro gb181 hg w3 hbox hb; have z_ := p_ (below_step tq_0 hb) <| p_ (hbox) <| p_ (gb_ hg tq_0) <| a_ (gb_ hg tq_0); clear HB; obtain ⟨HB, BK181, GW181, GE181⟩ := z_; clear hb hbox hg))
 go_loopg [5, 6] k (fun kq v5 v6 w' => ∃ (x5_1 : Int) (x6_1 : Int), v5 = .int .i64 x5_1 ∧ v6 = .int .i64 x6_1 ∧ Aside0 (spec_UsersOf.l0 kq a1 x5_1 x6_1 a0_0 l0_1 l0_2 = some r) ∧ Aside0 (kq ≤ k) ∧ Aside0 (w'.heap[gb181]? = some (.cells #[.int .i64 a0_0, (.slice A0_1 l0_1.length c0_1), (.slice A0_2 l0_2.length c0_2)] 34 (0, 0))) ∧ Aside0 (Below w.heap.size w w'))
 case atStart => exact ⟨(0), (0), tq_4, tq_4, H', ⟨Nat.le_refl _⟩, ⟨tq_86⟩, ⟨tq_60⟩⟩
 case round =>
 clear H'
 try clear p2; try clear c3
 obtain ⟨x5_1, x6_1, rfl, rfl, HA, HK1, BK181, HB⟩ := hrel
 cases gk with
 | zero => exact absurd HA.out (by simp [spec_UsersOf.l0])
 | succ k1 =>
 have H := HA.out
 clear HA
 simp only [spec_UsersOf.l0] at H
 by_cases c4 : x6_1 < (l0_2.length : Int)
 rotate_left
 ·rw [if_neg c4] at H
  have c4b0 := decide_eq_false c4
  clear c4
  obtain rfl := Option.some.inj H
  obtain ⟨hcz20_0, hcz20_1, hcz20_2⟩ := bk3_ BK181.out
  obtain ⟨hfz20_0, hfz20_1, hfz20_2⟩ := bf3_ BK181.out
  go_wp2
  go_ret
  exact ⟨tq_2, tq_60⟩
 rw [if_pos c4] at H
 have c4b0 := decide_eq_true c4
 clear c4
 have H' := Aside0.mk H
 clear H
 obtain ⟨hcz5_0, hcz5_1, hcz5_2⟩ := bk3_ BK181.out
 obtain ⟨hfz5_0, hfz5_1, hfz5_2⟩ := bf3_ BK181.out
 go_wp2
 go_loopg [5, 7] k1 (fun kq v5 v7 w' => ∃ (x5_2 : Int) (x7_2 : Int), v5 = .int .i64 x5_2 ∧ v7 = .int .i64 x7_2 ∧ Aside0 (spec_UsersOf.l1 kq a1 x5_2 x6_1 x7_2 a0_0 l0_1 l0_2 = some r) ∧ Aside0 (kq ≤ k1) ∧ Aside0 (w'.heap[gb181]? = some (.cells #[.int .i64 a0_0, (.slice A0_1 l0_1.length c0_1), (.slice A0_2 l0_2.length c0_2)] 34 (0, 0))) ∧ Aside0 (Below w.heap.size w w'))
 case atStart => exact ⟨(x5_1), (0), tq_4, tq_4, H', ⟨Nat.le_refl _⟩, ⟨tq_86⟩, ⟨tq_60⟩⟩
 case round =>
 clear H'
 try clear p2; try clear c3; try clear c4; try clear c4b0; try clear hcz5_0 hcz5_1 hcz5_2 hfz5_0 hfz5_1 hfz5_2; try clear p2
 obtain ⟨x5_2, x7_2, rfl, rfl, HA, HK2, BK181, HB⟩ := hrel
 cases gk with
 | zero => exact absurd HA.out (by simp [spec_UsersOf.l1])
 | succ k2 =>
 have H := HA.out
 clear HA
 simp only [spec_UsersOf.l1] at H
 have HC6 := Aside0.mk H
 clear H
 go_upto_region 6 with (fail)
 go_cut [32] (fun v32 wc => ∃ (kq : Nat) (x32_5 : Bool), v32 = .bool x32_5 ∧ Aside0 (spec_UsersOf.j2 kq a1 x5_2 x6_1 x7_2 x32_5 a0_0 l0_1 l0_2 = some r) ∧ Aside0 (kq ≤ k2) ∧ Aside0 (wc.heap[gb181]? = some (.cells #[.int .i64 a0_0, (.slice A0_1 l0_1.length c0_1), (.slice A0_2 l0_2.length c0_2)] 34 (0, 0))) ∧ Aside0 (Below w.heap.size w wc))
 case first =>
  have H := HC6.out
  clear HC6
  by_cases c7 : 0 ≤ x6_1
  rotate_left
  ·rw [if_neg c7] at H
   exact absurd H (by simp)
  rw [if_pos c7] at H
  have c7b0 := decide_eq_true c7
  clear c7
  (first | rw [c7b0] | (simp only [i64_w, i32_w]; rw [c7b0]) | skip)
  by_cases c8 : x6_1 < (l0_2.length : Int)
  rotate_left
  ·rw [if_neg c8] at H
   exact absurd H (by simp)
  rw [if_pos c8] at H
  have c8b0 := decide_eq_true c8
  clear c8
  by_cases c9 : x7_2 < (((rd_T64 l0_2 x6_1).f4).length : Int)
  rotate_left
  ·rw [if_neg c9] at H
   have c9b0 := decide_eq_false c9
   clear c9
   have H' := Aside0.mk H
   clear H
   obtain ⟨hcz11_0, hcz11_1, hcz11_2⟩ := bk3_ BK181.out
   obtain ⟨hfz11_0, hfz11_1, hfz11_2⟩ := bf3_ BK181.out
   have p182 : 0 ≤ (x6_1 : Int) := of_decide_eq_true tq_3
   have q182 : x6_1 < (l0_2.length : Int) := of_decide_eq_true tq_3
   obtain ⟨ad182, A182_4, c182_4, A182_5, c182_5, e182, hx182_0, hx182_1, hx182_2, hx182_3, hx182_4, hx182_5, hl182_4, hi182_4, hl182_5, hi182_5⟩ := at_T64 HR0_2.out x6_1 p182 q182
   cases e182
   replace hx182_0 := hx_ HB.out hx182_0
   replace hx182_1 := hx_ HB.out hx182_1
   replace hx182_2 := hx_ HB.out hx182_2
   replace hx182_3 := hx_ HB.out hx182_3
   replace hx182_4 := hx_ HB.out hx182_4
   replace hx182_5 := hx_ HB.out hx182_5
   have HR182_4 := Aside0.mk hi182_4
   have HC182_4 := Aside0.mk hl182_4
   clear hi182_4 hl182_4
   have HR182_5 := Aside0.mk hi182_5
   have HC182_5 := Aside0.mk hl182_5
   clear hi182_5 hl182_5
   replace p182 := eq_true p182
   replace q182 := eq_true q182
   go_wp2
   go_meet
   case rel => exact ⟨_, (false), tq_4, H', ⟨tq_128⟩, ⟨tq_86⟩, ⟨tq_60⟩⟩
  rw [if_pos c9] at H
  have c9b0 := decide_eq_true c9
  clear c9
  have H' := Aside0.mk H
  clear H
  obtain ⟨hcz10_0, hcz10_1, hcz10_2⟩ := bk3_ BK181.out
  obtain ⟨hfz10_0, hfz10_1, hfz10_2⟩ := bf3_ BK181.out
  have p182 : 0 ≤ (x6_1 : Int) := of_decide_eq_true tq_3
  have q182 : x6_1 < (l0_2.length : Int) := of_decide_eq_true tq_3
  obtain ⟨ad182, A182_4, c182_4, A182_5, c182_5, e182, hx182_0, hx182_1, hx182_2, hx182_3, hx182_4, hx182_5, hl182_4, hi182_4, hl182_5, hi182_5⟩ := at_T64 HR0_2.out x6_1 p182 q182
  cases e182
  replace hx182_0 := hx_ HB.out hx182_0
  replace hx182_1 := hx_ HB.out hx182_1
  replace hx182_2 := hx_ HB.out hx182_2
  replace hx182_3 := hx_ HB.out hx182_3
  replace hx182_4 := hx_ HB.out hx182_4
  replace hx182_5 := hx_ HB.out hx182_5
  have HR182_4 := Aside0.mk hi182_4
  have HC182_4 := Aside0.mk hl182_4
  clear hi182_4 hl182_4
  have HR182_5 := Aside0.mk hi182_5
  have HC182_5 := Aside0.mk hl182_5
  clear hi182_5 hl182_5
  replace p182 := eq_true p182
  replace q182 := eq_true q182
  have p183 : 0 ≤ (x6_1 : Int) := of_decide_eq_true tq_3
  have q183 : x6_1 < (l0_2.length : Int) := of_decide_eq_true tq_3
  obtain ⟨ad183, A183_4, c183_4, A183_5, c183_5, e183, hx183_0, hx183_1, hx183_2, hx183_3, hx183_4, hx183_5, hl183_4, hi183_4, hl183_5, hi183_5⟩ := at_T64 HR0_2.out x6_1 p183 q183
  obtain rfl : ad182 = ad183 := (by injection e183)
  replace hx183_0 := hx_ HB.out hx183_0
  replace hx183_1 := hx_ HB.out hx183_1
  replace hx183_2 := hx_ HB.out hx183_2
  replace hx183_3 := hx_ HB.out hx183_3
  replace hx183_4 := hx_ HB.out hx183_4
  replace hx183_5 := hx_ HB.out hx183_5
  have HR183_4 := Aside0.mk hi183_4
  have HC183_4 := Aside0.mk hl183_4
  clear hi183_4 hl183_4
  have HR183_5 := Aside0.mk hi183_5
  have HC183_5 := Aside0.mk hl183_5
  clear hi183_5 hl183_5
  replace p183 := eq_true p183
  replace q183 := eq_true q183
  have ea_ := Option.some.inj (hx182_4.symm.trans hx183_4)
  injection ea_ with ea_ en_ ec_
  subst ea_
  subst ec_
  clear en_
  have ea_ := Option.some.inj (hx182_5.symm.trans hx183_5)
  injection ea_ with ea_ en_ ec_
  subst ea_
  subst ec_
  clear en_
  go_wp2
  go_meet
  case rel => exact ⟨_, ((((rd_T64 l0_2 x6_1).f0) == 1)), tq_4, H', ⟨tq_128⟩, ⟨tq_86⟩, ⟨tq_60⟩⟩
 case rest =>
 clear HC6
 try clear c1; try clear p1; try clear q1; try clear hx1; try clear p2; try clear c3; try clear c4; try clear c4b0; try clear c7; try clear c7b0; try clear c8; try clear c8b0; try clear c9; try clear c9b0; try clear hcz10_0 hcz10_1 hcz10_2; try clear hcz11_0 hcz11_1 hcz11_2; try clear hcz5_0 hcz5_1 hcz5_2; try clear hfz10_0 hfz10_1 hfz10_2; try clear hfz11_0 hfz11_1 hfz11_2; try clear hfz5_0 hfz5_1 hfz5_2; try clear hx182_0; try clear hx182_1; try clear hx182_2; try clear hx182_3; try clear hx182_4; try clear hx182_5; try clear hx183_0; try clear hx183_1; try clear hx183_2; try clear hx183_3; try clear hx183_4; try clear hx183_5; try clear p182; try clear p183; try clear p2; try clear q182; try clear q183
 obtain ⟨kq, x32_5, rfl, HA, HJ5, BK181, HB⟩ := hcut
 cases kq with
 | zero => exact absurd HA.out (by simp [spec_UsersOf.j2])
 | succ kj5 =>
 have H := HA.out
 clear HA
 simp only [spec_UsersOf.j2] at H
 by_cases c12 : x32_5 = true
 rotate_left
 ·replace c12 := Bool.eq_false_iff.mpr c12
  subst c12
  have H1 : (spec_UsersOf.l0 kj5 a1 x5_2 (wrap64 (x6_1 + 1)) a0_0 l0_1 l0_2) = some r := by rw [if_neg (show ¬ (false = true) by decide)] at H; exact H
  clear H
  have H := H1
  clear H1
  have H' := Aside0.mk H
  clear H
  go_wp2
  go_roundg kj5
  case measure => have := HK1.out; have := HK2.out; have := HJ5.out; omega
  case rel => exact ⟨(x5_2), (wrap64 (x6_1 + 1)), tq_4, tq_4, H', ⟨tq_123⟩, ⟨tq_86⟩, ⟨tq_60⟩⟩
 subst c12
 have H1 : (if 0 ≤ x6_1 then (if x6_1 < (l0_2.length : Int) then (if 0 ≤ x7_2 then (if x7_2 < (((rd_T64 l0_2 x6_1).f4).length : Int) then (if (wrap64 (((rd_T96 ((rd_T64 l0_2 x6_1).f4) x7_2).f0) - 1)) = a1 then (spec_UsersOf.l1 kj5 a1 (wrap64 (x5_2 + 1)) x6_1 (wrap64 (x7_2 + 1)) a0_0 l0_1 l0_2) else (spec_UsersOf.l1 kj5 a1 x5_2 x6_1 (wrap64 (x7_2 + 1)) a0_0 l0_1 l0_2)) else (none)) else (none)) else (none)) else (none)) = some r := by rw [if_pos rfl] at H; exact H
 clear H
 have H := H1
 clear H1
 by_cases c13 : 0 ≤ x6_1
 rotate_left
 ·rw [if_neg c13] at H
  exact absurd H (by simp)
 rw [if_pos c13] at H
 have c13b0 := decide_eq_true c13
 clear c13
 by_cases c14 : x6_1 < (l0_2.length : Int)
 rotate_left
 ·rw [if_neg c14] at H
  exact absurd H (by simp)
 rw [if_pos c14] at H
 have c14b0 := decide_eq_true c14
 clear c14
 by_cases c15 : 0 ≤ x7_2
 rotate_left
 ·rw [if_neg c15] at H
  exact absurd H (by simp)
 rw [if_pos c15] at H
 have c15b0 := decide_eq_true c15
 clear c15
 by_cases c16 : x7_2 < (((rd_T64 l0_2 x6_1).f4).length : Int)
 rotate_left
 ·rw [if_neg c16] at H
  exact absurd H (by simp)
 rw [if_pos c16] at H
 have c16b0 := decide_eq_true c16
 clear c16
 by_cases c17 : (wrap64 (((rd_T96 ((rd_T64 l0_2 x6_1).f4) x7_2).f0) - 1)) = a1
 rotate_left
 ·rw [if_neg c17] at H
  have c17b0 := beq_eq_false_iff_ne.mpr c17
  have c17b1 := bne_iff_ne.mpr c17
  have H' := Aside0.mk H
  clear H
  obtain ⟨hcz19_0, hcz19_1, hcz19_2⟩ := bk3_ BK181.out
  obtain ⟨hfz19_0, hfz19_1, hfz19_2⟩ := bf3_ BK181.out
  have p184 : 0 ≤ (x6_1 : Int) := of_decide_eq_true tq_3
  have q184 : x6_1 < (l0_2.length : Int) := of_decide_eq_true tq_3
  obtain ⟨ad184, A184_4, c184_4, A184_5, c184_5, e184, hx184_0, hx184_1, hx184_2, hx184_3, hx184_4, hx184_5, hl184_4, hi184_4, hl184_5, hi184_5⟩ := at_T64 HR0_2.out x6_1 p184 q184
  cases e184
  replace hx184_0 := hx_ HB.out hx184_0
  replace hx184_1 := hx_ HB.out hx184_1
  replace hx184_2 := hx_ HB.out hx184_2
  replace hx184_3 := hx_ HB.out hx184_3
  replace hx184_4 := hx_ HB.out hx184_4
  replace hx184_5 := hx_ HB.out hx184_5
  have HR184_4 := Aside0.mk hi184_4
  have HC184_4 := Aside0.mk hl184_4
  clear hi184_4 hl184_4
  have HR184_5 := Aside0.mk hi184_5
  have HC184_5 := Aside0.mk hl184_5
  clear hi184_5 hl184_5
  replace p184 := eq_true p184
  replace q184 := eq_true q184
  have p185 : 0 ≤ (x7_2 : Int) := of_decide_eq_true tq_3
  have q185 : x7_2 < (((rd_T64 l0_2 x6_1).f4).length : Int) := of_decide_eq_true tq_3
  obtain ⟨ad185, e185, hx185_0, hx185_1, hx185_2⟩ := at_T96 HR184_4.out x7_2 p185 q185
  cases e185
  replace hx185_0 := hx_ HB.out hx185_0
  replace hx185_1 := hx_ HB.out hx185_1
  replace hx185_2 := hx_ HB.out hx185_2
  replace p185 := eq_true p185
  replace q185 := eq_true q185
  go_wp2
  go_roundg kj5
  case measure => have := HK1.out; have := HK2.out; have := HJ5.out; omega
  case rel => exact ⟨(x5_2), (wrap64 (x7_2 + 1)), tq_4, tq_4, H', ⟨tq_123⟩, ⟨tq_86⟩, ⟨tq_60⟩⟩
 rw [if_pos c17] at H
 have c17b0 := beq_iff_eq.mpr c17
 have c17b1 := bne_eq_false_iff_eq.mpr c17
 clear c17
 have H' := Aside0.mk H
 clear H
 obtain ⟨hcz18_0, hcz18_1, hcz18_2⟩ := bk3_ BK181.out
 obtain ⟨hfz18_0, hfz18_1, hfz18_2⟩ := bf3_ BK181.out
 have p184 : 0 ≤ (x6_1 : Int) := of_decide_eq_true tq_3
 have q184 : x6_1 < (l0_2.length : Int) := of_decide_eq_true tq_3
 obtain ⟨ad184, A184_4, c184_4, A184_5, c184_5, e184, hx184_0, hx184_1, hx184_2, hx184_3, hx184_4, hx184_5, hl184_4, hi184_4, hl184_5, hi184_5⟩ := at_T64 HR0_2.out x6_1 p184 q184
 cases e184
 replace hx184_0 := hx_ HB.out hx184_0
 replace hx184_1 := hx_ HB.out hx184_1
 replace hx184_2 := hx_ HB.out hx184_2
 replace hx184_3 := hx_ HB.out hx184_3
 replace hx184_4 := hx_ HB.out hx184_4
 replace hx184_5 := hx_ HB.out hx184_5
 have HR184_4 := Aside0.mk hi184_4
 have HC184_4 := Aside0.mk hl184_4
 clear hi184_4 hl184_4
 have HR184_5 := Aside0.mk hi184_5
 have HC184_5 := Aside0.mk hl184_5
 clear hi184_5 hl184_5
 replace p184 := eq_true p184
 replace q184 := eq_true q184
 have p185 : 0 ≤ (x7_2 : Int) := of_decide_eq_true tq_3
 have q185 : x7_2 < (((rd_T64 l0_2 x6_1).f4).length : Int) := of_decide_eq_true tq_3
 obtain ⟨ad185, e185, hx185_0, hx185_1, hx185_2⟩ := at_T96 HR184_4.out x7_2 p185 q185
 cases e185
 replace hx185_0 := hx_ HB.out hx185_0
 replace hx185_1 := hx_ HB.out hx185_1
 replace hx185_2 := hx_ HB.out hx185_2
 replace p185 := eq_true p185
 replace q185 := eq_true q185
 go_wp2
 go_roundg kj5
 case measure => have := HK1.out; have := HK2.out; have := HJ5.out; omega
 case rel => exact ⟨(wrap64 (x5_2 + 1)), (wrap64 (x7_2 + 1)), tq_4, tq_4, H', ⟨tq_123⟩, ⟨tq_86⟩, ⟨tq_60⟩⟩

end Go.Proofs.Ytljnnmpfeningaa.PFnExactPartOk
