/- Contracts of Go functions, written by a program of ours over the print of the kit: each says that the call returns what the Lean function beside it computes. Conditions: as each theorem states them. -/
import Derived.Test.YtljnnmpfeningaaPkFnExactPartOk
import Derived.Test.YtljnnmpfeningaaPFnExactPartOkx0
import Derived.Test.YtljnnmpfeningaaPFnExactPartOkx1
namespace Go.Proofs.Ytljnnmpfeningaa.PFnExactPartOk
open Go.RowKit Go.Proofs.YtljnnmpfeningaaW.PrintWords Go.Proofs.YtljnnmpfeningaaW.PrintLast Go.Proofs.YtljnnmpfeningaaW.PrintMore
attribute [local go_sem] max2_int min2_int max_two min_two max_three min_three max_four min_four   -- for this text's walks alone
set_option linter.unusedVariables false
set_option linter.unusedSimpArgs false

/-! ### spec_LinksTo: function 32 -/
mutual
def spec_LinksTo.l0 : Nat → Int → Int → Int → Int → List Int → List (S64) → Option (Int)
 | 0, _, _, _, _, _, _ => none
 | k + 1, x1, x5, x6, x124000, x124001, x124002 => if x6 < (x124002.length : Int) then (spec_LinksTo.l1 k x1 x5 x6 0 x124000 x124001 x124002) else (some x5)
def spec_LinksTo.l1 : Nat → Int → Int → Int → Int → Int → List Int → List (S64) → Option (Int)
 | 0, _, _, _, _, _, _, _ => none
 | k + 1, x1, x5, x6, x7, x124000, x124001, x124002 => if 0 ≤ x6 then (if x6 < (x124002.length : Int) then (if x7 < (((rd_T64 x124002 x6).f5).length : Int) then (spec_LinksTo.j2 k x1 x5 x6 x7 (((rd_T64 x124002 x6).f0) == 2) x124000 x124001 x124002) else (spec_LinksTo.j2 k x1 x5 x6 x7 false x124000 x124001 x124002)) else (none)) else (none)
def spec_LinksTo.j2 : Nat → Int → Int → Int → Int → Bool → Int → List Int → List (S64) → Option (Int)
 | 0, _, _, _, _, _, _, _, _ => none
 | k + 1, x1, x5, x6, x7, x32, x124000, x124001, x124002 => if x32 = true then (if 0 ≤ x6 then (if x6 < (x124002.length : Int) then (if 0 ≤ x7 then (if x7 < (((rd_T64 x124002 x6).f5).length : Int) then (if ((rd_T67 ((rd_T64 x124002 x6).f5) x7).f0) = x1 then (spec_LinksTo.l1 k x1 (wrap64 (x5 + 1)) x6 (wrap64 (x7 + 1)) x124000 x124001 x124002) else (spec_LinksTo.l1 k x1 x5 x6 (wrap64 (x7 + 1)) x124000 x124001 x124002)) else (none)) else (none)) else (none)) else (none)) else (spec_LinksTo.l0 k x1 x5 (wrap64 (x6 + 1)) x124000 x124001 x124002)
end
def spec_LinksTo.f (k : Nat) (a0_0 : Int) (l0_1 : List Int) (l0_2 : List (S64)) (a1 : Int) : Option (Int) := spec_LinksTo.l0 k a1 0 0 a0_0 l0_1 l0_2
theorem spec_LinksTo.mono_l : ∀ k, (∀ y0 y1 y2 y3 y4 y5, LeO (spec_LinksTo.l0 k y0 y1 y2 y3 y4 y5) (spec_LinksTo.l0 (k + 1) y0 y1 y2 y3 y4 y5)) ∧ (∀ y0 y1 y2 y3 y4 y5 y6, LeO (spec_LinksTo.l1 k y0 y1 y2 y3 y4 y5 y6) (spec_LinksTo.l1 (k + 1) y0 y1 y2 y3 y4 y5 y6)) ∧ (∀ y0 y1 y2 y3 y4 y5 y6 y7, LeO (spec_LinksTo.j2 k y0 y1 y2 y3 y4 y5 y6 y7) (spec_LinksTo.j2 (k + 1) y0 y1 y2 y3 y4 y5 y6 y7))
 | 0 => ⟨fun _ _ _ _ _ _ r h => by simp [spec_LinksTo.l0] at h, fun _ _ _ _ _ _ _ r h => by simp [spec_LinksTo.l1] at h, fun _ _ _ _ _ _ _ _ r h => by simp [spec_LinksTo.j2] at h⟩
 | k + 1 => by
  obtain ⟨ih0, ih1, ih2⟩ := spec_LinksTo.mono_l k
  refine ⟨?_, ?_, ?_⟩
  ·intro y0 y1 y2 y3 y4 y5
   unfold spec_LinksTo.l0
   exact mo_1
  ·intro y0 y1 y2 y3 y4 y5 y6
   unfold spec_LinksTo.l1
   exact mo_1
  ·intro y0 y1 y2 y3 y4 y5 y6 y7
   unfold spec_LinksTo.j2
   exact mo_1
theorem spec_LinksTo.mono : ∀ a0 a1 a2 a3 k, LeO (spec_LinksTo.f k a0 a1 a2 a3) (spec_LinksTo.f (k + 1) a0 a1 a2 a3) := by
 intro a0 a1 a2 a3 k
 obtain ⟨ih0, ih1, ih2⟩ := spec_LinksTo.mono_l k
 unfold spec_LinksTo.f
 repeat' first
   | (with_reducible exact ih0 ..)
   | (with_reducible exact ih1 ..)
   | (with_reducible exact ih2 ..)
   | (with_reducible exact LeO.refl _)
   | (with_reducible exact LeO.none _)
   | (with_reducible refine LeO.ite ?_ ?_)
   | (with_reducible refine LeO.bind ?_ (fun _ => ?_))
   | exact ih0 ..
   | exact ih1 ..
   | exact ih2 ..
   | exact LeO.none _
   | refine LeO.ite ?_ ?_
   | refine LeO.bind ?_ (fun _ => ?_)
set_option maxHeartbeats 8000000 in
set_option maxRecDepth 100000 in
theorem spec_LinksTo.calls (k : Nat) (a0_0 : Int) (A0_1 : Option Addr) (c0_1 : Nat) (l0_1 : List Int) (A0_2 : Option Addr) (c0_2 : Nat) (l0_2 : List (S64)) (a1 : Int) (r : Int) (w : World) (hr0_1 : Kd.C (Kd.int .i64) w A0_1 l0_1.length l0_1) (hc0_1 : l0_1.length ≤ c0_1) (hr0_2 : Kd.C k64 w A0_2 l0_2.length l0_2) (hc0_2 : l0_2.length ≤ c0_2) (h : spec_LinksTo.f k a0_0 l0_1 l0_2 a1 = some r) :
  Calls Try.prog 32 #[.agg #[.int .i64 a0_0, .slice A0_1 l0_1.length c0_1, .slice A0_2 l0_2.length c0_2], .int .i64 a1] w fun e w' => e = .returned (.int .i64 r) ∧ Below w.heap.size w w' := by
 have hu34 := Try.underlying34
 have HR0_1 := Aside0.mk hr0_1
 have HC0_1 := Aside0.mk hc0_1
 clear hr0_1 hc0_1
 have HR0_2 := Aside0.mk hr0_2
 have HC0_2 := Aside0.mk hc0_2
 clear hr0_2 hc0_2
 have HB := Aside0.mk (Below.refl w.heap.size w)
 have H : (spec_LinksTo.l0 k a1 0 0 a0_0 l0_1 l0_2) = some r := h
 clear h
 have H' := Aside0.mk H
 clear H
 go_enter Try.func32, Try.ntmps32
 go_wp2_with (first | ((with_reducible refine gate_dst (N := 2) rfl ?_); refine box_event ?hg (N := 2) ?hd (cs := #[.int .i64 a0_0, .slice A0_1 l0_1.length c0_1, .slice A0_2 l0_2.length c0_2]) (t := 34) ?hr ?_; (case hd => rfl); (case hg => rfl); (case hr => first | (go_simp; done) | (go_simp; rfl)); intro gb123 hg w3 hbox hb; have z_ := p_ (below_step tq_0 hb) <| p_ (hbox) <| p_ (gb_ hg tq_0) <| a_ (gb_ hg tq_0); clear HB; obtain ⟨HB, BK123, GW123, GE123⟩ := z_; clear hb hbox hg))
 go_loopg [5, 6] k (fun kq v5 v6 w' => ∃ (x5_1 : Int) (x6_1 : Int), v5 = .int .i64 x5_1 ∧ v6 = .int .i64 x6_1 ∧ Aside0 (spec_LinksTo.l0 kq a1 x5_1 x6_1 a0_0 l0_1 l0_2 = some r) ∧ Aside0 (kq ≤ k) ∧ Aside0 (w'.heap[gb123]? = some (.cells #[.int .i64 a0_0, (.slice A0_1 l0_1.length c0_1), (.slice A0_2 l0_2.length c0_2)] 34 (0, 0))) ∧ Aside0 (Below w.heap.size w w'))
 case atStart => exact ⟨(0), (0), tq_4, tq_4, H', ⟨Nat.le_refl _⟩, ⟨tq_87⟩, ⟨tq_62⟩⟩
 case round =>
 clear H'
 try clear p2; try clear c3
 obtain ⟨x5_1, x6_1, rfl, rfl, HA, HK1, BK123, HB⟩ := hrel
 cases gk with
 | zero => exact absurd HA.out (by simp [spec_LinksTo.l0])
 | succ k1 =>
 have H := HA.out
 clear HA
 simp only [spec_LinksTo.l0] at H
 by_cases c4 : x6_1 < (l0_2.length : Int)
 rotate_left
 ·rw [if_neg c4] at H
  have c4b0 := decide_eq_false c4
  clear c4
  obtain rfl := Option.some.inj H
  obtain ⟨hcz20_0, hcz20_1, hcz20_2⟩ := bk3_ BK123.out
  obtain ⟨hfz20_0, hfz20_1, hfz20_2⟩ := bf3_ BK123.out
  go_wp2
  go_ret
  exact ⟨tq_2, tq_62⟩
 rw [if_pos c4] at H
 have c4b0 := decide_eq_true c4
 clear c4
 have H' := Aside0.mk H
 clear H
 obtain ⟨hcz5_0, hcz5_1, hcz5_2⟩ := bk3_ BK123.out
 obtain ⟨hfz5_0, hfz5_1, hfz5_2⟩ := bf3_ BK123.out
 go_wp2
 go_loopg [5, 7] k1 (fun kq v5 v7 w' => ∃ (x5_2 : Int) (x7_2 : Int), v5 = .int .i64 x5_2 ∧ v7 = .int .i64 x7_2 ∧ Aside0 (spec_LinksTo.l1 kq a1 x5_2 x6_1 x7_2 a0_0 l0_1 l0_2 = some r) ∧ Aside0 (kq ≤ k1) ∧ Aside0 (w'.heap[gb123]? = some (.cells #[.int .i64 a0_0, (.slice A0_1 l0_1.length c0_1), (.slice A0_2 l0_2.length c0_2)] 34 (0, 0))) ∧ Aside0 (Below w.heap.size w w'))
 case atStart => exact ⟨(x5_1), (0), tq_4, tq_4, H', ⟨Nat.le_refl _⟩, ⟨tq_87⟩, ⟨tq_62⟩⟩
 case round =>
 clear H'
 try clear p2; try clear c3; try clear c4; try clear c4b0; try clear hcz5_0 hcz5_1 hcz5_2 hfz5_0 hfz5_1 hfz5_2; try clear p2
 obtain ⟨x5_2, x7_2, rfl, rfl, HA, HK2, BK123, HB⟩ := hrel
 cases gk with
 | zero => exact absurd HA.out (by simp [spec_LinksTo.l1])
 | succ k2 =>
 have H := HA.out
 clear HA
 simp only [spec_LinksTo.l1] at H
 have HC6 := Aside0.mk H
 clear H
 go_upto_region 6 with (fail)
 go_cut [32] (fun v32 wc => ∃ (kq : Nat) (x32_5 : Bool), v32 = .bool x32_5 ∧ Aside0 (spec_LinksTo.j2 kq a1 x5_2 x6_1 x7_2 x32_5 a0_0 l0_1 l0_2 = some r) ∧ Aside0 (kq ≤ k2) ∧ Aside0 (wc.heap[gb123]? = some (.cells #[.int .i64 a0_0, (.slice A0_1 l0_1.length c0_1), (.slice A0_2 l0_2.length c0_2)] 34 (0, 0))) ∧ Aside0 (Below w.heap.size w wc))
 case first =>
  have H := HC6.out
  clear HC6
  by_cases c7 : 0 ≤ x6_1
  rotate_left
  ·rw [if_neg c7] at H
   exact absurd H (by simp)
  rw [if_pos c7] at H
  have c7b0 := decide_eq_true c7
  clear c7
  (first | rw [c7b0] | (simp only [i64_w, i32_w]; rw [c7b0]) | skip)
  by_cases c8 : x6_1 < (l0_2.length : Int)
  rotate_left
  ·rw [if_neg c8] at H
   exact absurd H (by simp)
  rw [if_pos c8] at H
  have c8b0 := decide_eq_true c8
  clear c8
  by_cases c9 : x7_2 < (((rd_T64 l0_2 x6_1).f5).length : Int)
  rotate_left
  ·rw [if_neg c9] at H
   have c9b0 := decide_eq_false c9
   clear c9
   have H' := Aside0.mk H
   clear H
   obtain ⟨hcz11_0, hcz11_1, hcz11_2⟩ := bk3_ BK123.out
   obtain ⟨hfz11_0, hfz11_1, hfz11_2⟩ := bf3_ BK123.out
   have p124 : 0 ≤ (x6_1 : Int) := of_decide_eq_true tq_3
   have q124 : x6_1 < (l0_2.length : Int) := of_decide_eq_true tq_3
   obtain ⟨ad124, A124_4, c124_4, A124_5, c124_5, e124, hx124_0, hx124_1, hx124_2, hx124_3, hx124_4, hx124_5, hl124_4, hi124_4, hl124_5, hi124_5⟩ := at_T64 HR0_2.out x6_1 p124 q124
   cases e124
   replace hx124_0 := hx_ HB.out hx124_0
   replace hx124_1 := hx_ HB.out hx124_1
   replace hx124_2 := hx_ HB.out hx124_2
   replace hx124_3 := hx_ HB.out hx124_3
   replace hx124_4 := hx_ HB.out hx124_4
   replace hx124_5 := hx_ HB.out hx124_5
   have HR124_4 := Aside0.mk hi124_4
   have HC124_4 := Aside0.mk hl124_4
   clear hi124_4 hl124_4
   have HR124_5 := Aside0.mk hi124_5
   have HC124_5 := Aside0.mk hl124_5
   clear hi124_5 hl124_5
   replace p124 := eq_true p124
   replace q124 := eq_true q124
   go_wp2
   go_meet
   case rel => exact ⟨_, (false), tq_4, H', ⟨tq_128⟩, ⟨tq_87⟩, ⟨tq_62⟩⟩
  rw [if_pos c9] at H
  have c9b0 := decide_eq_true c9
  clear c9
  have H' := Aside0.mk H
  clear H
  obtain ⟨hcz10_0, hcz10_1, hcz10_2⟩ := bk3_ BK123.out
  obtain ⟨hfz10_0, hfz10_1, hfz10_2⟩ := bf3_ BK123.out
  have p124 : 0 ≤ (x6_1 : Int) := of_decide_eq_true tq_3
  have q124 : x6_1 < (l0_2.length : Int) := of_decide_eq_true tq_3
  obtain ⟨ad124, A124_4, c124_4, A124_5, c124_5, e124, hx124_0, hx124_1, hx124_2, hx124_3, hx124_4, hx124_5, hl124_4, hi124_4, hl124_5, hi124_5⟩ := at_T64 HR0_2.out x6_1 p124 q124
  cases e124
  replace hx124_0 := hx_ HB.out hx124_0
  replace hx124_1 := hx_ HB.out hx124_1
  replace hx124_2 := hx_ HB.out hx124_2
  replace hx124_3 := hx_ HB.out hx124_3
  replace hx124_4 := hx_ HB.out hx124_4
  replace hx124_5 := hx_ HB.out hx124_5
  have HR124_4 := Aside0.mk hi124_4
  have HC124_4 := Aside0.mk hl124_4
  clear hi124_4 hl124_4
  have HR124_5 := Aside0.mk hi124_5
  have HC124_5 := Aside0.mk hl124_5
  clear hi124_5 hl124_5
  replace p124 := eq_true p124
  replace q124 := eq_true q124
  have p125 : 0 ≤ (x6_1 : Int) := of_decide_eq_true tq_3
  have q125 : x6_1 < (l0_2.length : Int) := of_decide_eq_true tq_3
  obtain ⟨ad125, A125_4, c125_4, A125_5, c125_5, e125, hx125_0, hx125_1, hx125_2, hx125_3, hx125_4, hx125_5, hl125_4, hi125_4, hl125_5, hi125_5⟩ := at_T64 HR0_2.out x6_1 p125 q125
  obtain rfl : ad124 = ad125 := (by injection e125)
  replace hx125_0 := hx_ HB.out hx125_0
  replace hx125_1 := hx_ HB.out hx125_1
  replace hx125_2 := hx_ HB.out hx125_2
  replace hx125_3 := hx_ HB.out hx125_3
  replace hx125_4 := hx_ HB.out hx125_4
  replace hx125_5 := hx_ HB.out hx125_5
  have HR125_4 := Aside0.mk hi125_4
  have HC125_4 := Aside0.mk hl125_4
  clear hi125_4 hl125_4
  have HR125_5 := Aside0.mk hi125_5
  have HC125_5 := Aside0.mk hl125_5
  clear hi125_5 hl125_5
  replace p125 := eq_true p125
  replace q125 := eq_true q125
  have ea_ := Option.some.inj (hx124_4.symm.trans hx125_4)
  injection ea_ with ea_ en_ ec_
  subst ea_
  subst ec_
  clear en_
  have ea_ := Option.some.inj (hx124_5.symm.trans hx125_5)
  injection ea_ with ea_ en_ ec_
  subst ea_
  subst ec_
  clear en_
  go_wp2
  go_meet
  case rel => exact ⟨_, ((((rd_T64 l0_2 x6_1).f0) == 2)), tq_4, H', ⟨tq_128⟩, ⟨tq_87⟩, ⟨tq_62⟩⟩
 case rest =>
 clear HC6
 try clear c1; try clear p1; try clear q1; try clear hx1; try clear p2; try clear c3; try clear c4; try clear c4b0; try clear c7; try clear c7b0; try clear c8; try clear c8b0; try clear c9; try clear c9b0; try clear hcz10_0 hcz10_1 hcz10_2; try clear hcz11_0 hcz11_1 hcz11_2; try clear hcz5_0 hcz5_1 hcz5_2; try clear hfz10_0 hfz10_1 hfz10_2; try clear hfz11_0 hfz11_1 hfz11_2; try clear hfz5_0 hfz5_1 hfz5_2; try clear hx124_0; try clear hx124_1; try clear hx124_2; try clear hx124_3; try clear hx124_4; try clear hx124_5; try clear hx125_0; try clear hx125_1; try clear hx125_2; try clear hx125_3; try clear hx125_4; try clear hx125_5; try clear p124; try clear p125; try clear p2; try clear q124; try clear q125
 obtain ⟨kq, x32_5, rfl, HA, HJ5, BK123, HB⟩ := hcut
 cases kq with
 | zero => exact absurd HA.out (by simp [spec_LinksTo.j2])
 | succ kj5 =>
 have H := HA.out
 clear HA
 simp only [spec_LinksTo.j2] at H
 by_cases c12 : x32_5 = true
 rotate_left
 ·replace c12 := Bool.eq_false_iff.mpr c12
  subst c12
  have H1 : (spec_LinksTo.l0 kj5 a1 x5_2 (wrap64 (x6_1 + 1)) a0_0 l0_1 l0_2) = some r := by rw [if_neg (show ¬ (false = true) by decide)] at H; exact H
  clear H
  have H := H1
  clear H1
  have H' := Aside0.mk H
  clear H
  go_wp2
  go_roundg kj5
  case measure => have := HK1.out; have := HK2.out; have := HJ5.out; omega
  case rel => exact ⟨(x5_2), (wrap64 (x6_1 + 1)), tq_4, tq_4, H', ⟨tq_123⟩, ⟨tq_87⟩, ⟨tq_62⟩⟩
 subst c12
 have H1 : (if 0 ≤ x6_1 then (if x6_1 < (l0_2.length : Int) then (if 0 ≤ x7_2 then (if x7_2 < (((rd_T64 l0_2 x6_1).f5).length : Int) then (if ((rd_T67 ((rd_T64 l0_2 x6_1).f5) x7_2).f0) = a1 then (spec_LinksTo.l1 kj5 a1 (wrap64 (x5_2 + 1)) x6_1 (wrap64 (x7_2 + 1)) a0_0 l0_1 l0_2) else (spec_LinksTo.l1 kj5 a1 x5_2 x6_1 (wrap64 (x7_2 + 1)) a0_0 l0_1 l0_2)) else (none)) else (none)) else (none)) else (none)) = some r := by rw [if_pos rfl] at H; exact H
 clear H
 have H := H1
 clear H1
 by_cases c13 : 0 ≤ x6_1
 rotate_left
 ·rw [if_neg c13] at H
  exact absurd H (by simp)
 rw [if_pos c13] at H
 have c13b0 := decide_eq_true c13
 clear c13
 by_cases c14 : x6_1 < (l0_2.length : Int)
 rotate_left
 ·rw [if_neg c14] at H
  exact absurd H (by simp)
 rw [if_pos c14] at H
 have c14b0 := decide_eq_true c14
 clear c14
 by_cases c15 : 0 ≤ x7_2
 rotate_left
 ·rw [if_neg c15] at H
  exact absurd H (by simp)
 rw [if_pos c15] at H
 have c15b0 := decide_eq_true c15
 clear c15
 by_cases c16 : x7_2 < (((rd_T64 l0_2 x6_1).f5).length : Int)
 rotate_left
 ·rw [if_neg c16] at H
  exact absurd H (by simp)
 rw [if_pos c16] at H
 have c16b0 := decide_eq_true c16
 clear c16
 by_cases c17 : ((rd_T67 ((rd_T64 l0_2 x6_1).f5) x7_2).f0) = a1
 rotate_left
 ·rw [if_neg c17] at H
  have c17b0 := beq_eq_false_iff_ne.mpr c17
  have c17b1 := bne_iff_ne.mpr c17
  have H' := Aside0.mk H
  clear H
  obtain ⟨hcz19_0, hcz19_1, hcz19_2⟩ := bk3_ BK123.out
  obtain ⟨hfz19_0, hfz19_1, hfz19_2⟩ := bf3_ BK123.out
  have p126 : 0 ≤ (x6_1 : Int) := of_decide_eq_true tq_3
  have q126 : x6_1 < (l0_2.length : Int) := of_decide_eq_true tq_3
  obtain ⟨ad126, A126_4, c126_4, A126_5, c126_5, e126, hx126_0, hx126_1, hx126_2, hx126_3, hx126_4, hx126_5, hl126_4, hi126_4, hl126_5, hi126_5⟩ := at_T64 HR0_2.out x6_1 p126 q126
  cases e126
  replace hx126_0 := hx_ HB.out hx126_0
  replace hx126_1 := hx_ HB.out hx126_1
  replace hx126_2 := hx_ HB.out hx126_2
  replace hx126_3 := hx_ HB.out hx126_3
  replace hx126_4 := hx_ HB.out hx126_4
  replace hx126_5 := hx_ HB.out hx126_5
  have HR126_4 := Aside0.mk hi126_4
  have HC126_4 := Aside0.mk hl126_4
  clear hi126_4 hl126_4
  have HR126_5 := Aside0.mk hi126_5
  have HC126_5 := Aside0.mk hl126_5
  clear hi126_5 hl126_5
  replace p126 := eq_true p126
  replace q126 := eq_true q126
  have p127 : 0 ≤ (x7_2 : Int) := of_decide_eq_true tq_3
  have q127 : x7_2 < (((rd_T64 l0_2 x6_1).f5).length : Int) := of_decide_eq_true tq_3
  obtain ⟨ad127, e127, hx127_0, hx127_1⟩ := at_T67 HR126_5.out x7_2 p127 q127
  cases e127
  replace hx127_0 := hx_ HB.out hx127_0
  replace hx127_1 := hx_ HB.out hx127_1
  replace p127 := eq_true p127
  replace q127 := eq_true q127
  go_wp2
  go_roundg kj5
  case measure => have := HK1.out; have := HK2.out; have := HJ5.out; omega
  case rel => exact ⟨(x5_2), (wrap64 (x7_2 + 1)), tq_4, tq_4, H', ⟨tq_123⟩, ⟨tq_87⟩, ⟨tq_62⟩⟩
 rw [if_pos c17] at H
 have c17b0 := beq_iff_eq.mpr c17
 have c17b1 := bne_eq_false_iff_eq.mpr c17
 clear c17
 have H' := Aside0.mk H
 clear H
 obtain ⟨hcz18_0, hcz18_1, hcz18_2⟩ := bk3_ BK123.out
 obtain ⟨hfz18_0, hfz18_1, hfz18_2⟩ := bf3_ BK123.out
 have p126 : 0 ≤ (x6_1 : Int) := of_decide_eq_true tq_3
 have q126 : x6_1 < (l0_2.length : Int) := of_decide_eq_true tq_3
 obtain ⟨ad126, A126_4, c126_4, A126_5, c126_5, e126, hx126_0, hx126_1, hx126_2, hx126_3, hx126_4, hx126_5, hl126_4, hi126_4, hl126_5, hi126_5⟩ := at_T64 HR0_2.out x6_1 p126 q126
 cases e126
 replace hx126_0 := hx_ HB.out hx126_0
 replace hx126_1 := hx_ HB.out hx126_1
 replace hx126_2 := hx_ HB.out hx126_2
 replace hx126_3 := hx_ HB.out hx126_3
 replace hx126_4 := hx_ HB.out hx126_4
 replace hx126_5 := hx_ HB.out hx126_5
 have HR126_4 := Aside0.mk hi126_4
 have HC126_4 := Aside0.mk hl126_4
 clear hi126_4 hl126_4
 have HR126_5 := Aside0.mk hi126_5
 have HC126_5 := Aside0.mk hl126_5
 clear hi126_5 hl126_5
 replace p126 := eq_true p126
 replace q126 := eq_true q126
 have p127 : 0 ≤ (x7_2 : Int) := of_decide_eq_true tq_3
 have q127 : x7_2 < (((rd_T64 l0_2 x6_1).f5).length : Int) := of_decide_eq_true tq_3
 obtain ⟨ad127, e127, hx127_0, hx127_1⟩ := at_T67 HR126_5.out x7_2 p127 q127
 cases e127
 replace hx127_0 := hx_ HB.out hx127_0
 replace hx127_1 := hx_ HB.out hx127_1
 replace p127 := eq_true p127
 replace q127 := eq_true q127
 go_wp2
 go_roundg kj5
 case measure => have := HK1.out; have := HK2.out; have := HJ5.out; omega
 case rel => exact ⟨(wrap64 (x5_2 + 1)), (wrap64 (x7_2 + 1)), tq_4, tq_4, H', ⟨tq_123⟩, ⟨tq_87⟩, ⟨tq_62⟩⟩

/-! ### spec_PagesFor: function 20 -/
def spec_PagesFor.f (a0 : Int) : Option (Int) := if a0 ≤ 0 then (some 0) else (some (wrap64 ((wrap64 (Int.tdiv (wrap64 (a0 - 1)) 32)) + 1)))
set_option maxHeartbeats 8000000 in
set_option maxRecDepth 100000 in
theorem spec_PagesFor.calls (a0 : Int) (r : Int) (w : World) (h : spec_PagesFor.f a0 = some r) :
  Calls Try.prog 20 #[.int .i64 a0] w fun e w' => e = .returned (.int .i64 r) ∧ Drawn0 w w' := by
 have H : (if a0 ≤ 0 then (some 0) else (some (wrap64 ((wrap64 (Int.tdiv (wrap64 (a0 - 1)) 32)) + 1)))) = some r := h
 clear h
 by_cases c2 : a0 ≤ 0
 ·rw [if_pos c2] at H
  have c2b0 := decide_eq_true c2
  clear c2
  obtain rfl := Option.some.inj H
  go_enter Try.func20, Try.ntmps20
  go_wp2
  go_ret
  exact ⟨tq_4, tq_27⟩
 rw [if_neg c2] at H
 have c2b0 := decide_eq_false c2
 clear c2
 obtain rfl := Option.some.inj H
 go_enter Try.func20, Try.ntmps20
 go_wp2
 go_ret
 exact ⟨tq_4, tq_27⟩

/-! ### spec_NumText: function 95 -/
mutual
def spec_NumText.j0 : Nat → Int → Int → Bool → Option (ByteArray)
 | 0, _, _, _ => none
 | k + 1, x0, x1, x21 => if x21 = true then (some (⟨#[]⟩ : ByteArray)) else (spec_NumText.l0 k x0 (([] : List Int)) (wrap64 (x1 - 1)))
def spec_NumText.l0 : Nat → Int → List Int → Int → Option (ByteArray)
 | 0, _, _, _ => none
 | k + 1, x0, x5, x6 => if x6 ≥ 0 then (if 0 ≤ (IntKind.u64.wrap (8 * (IntKind.u64.wrap (x6)))) then (if x5.length < 140737488355328 then (spec_NumText.l0 k x0 (x5 ++ [(shr .i64 x0 (IntKind.u64.wrap (8 * (IntKind.u64.wrap (x6))))) % 256]) (wrap64 (x6 - 1))) else (none)) else (none)) else (some (strOfNums x5))
end
def spec_NumText.f (k : Nat) (a0 : Int) (a1 : Int) : Option (ByteArray) := if a0 < 0 then (spec_NumText.j0 k a0 a1 true) else ((spec_l01In.f a1 1 7).bind fun t128 => (if t128 = true then (if 0 ≤ (IntKind.u64.wrap (8 * (IntKind.u64.wrap (a1)))) then (spec_NumText.j0 k a0 a1 (decide ((shr .i64 a0 (IntKind.u64.wrap (8 * (IntKind.u64.wrap (a1))))) > 0))) else (none)) else (spec_NumText.j0 k a0 a1 true)))
theorem spec_NumText.mono_l : ∀ k, (∀ y0 y1 y2, LeO (spec_NumText.j0 k y0 y1 y2) (spec_NumText.j0 (k + 1) y0 y1 y2)) ∧ (∀ y0 y1 y2, LeO (spec_NumText.l0 k y0 y1 y2) (spec_NumText.l0 (k + 1) y0 y1 y2))
 | 0 => ⟨fun _ _ _ r h => by simp [spec_NumText.j0] at h, fun _ _ _ r h => by simp [spec_NumText.l0] at h⟩
 | k + 1 => by
  obtain ⟨ih0, ih1⟩ := spec_NumText.mono_l k
  refine ⟨?_, ?_⟩
  ·intro y0 y1 y2
   unfold spec_NumText.j0
   exact mo_2
  ·intro y0 y1 y2
   unfold spec_NumText.l0
   exact mo_2
theorem spec_NumText.mono : ∀ a0 a1 k, LeO (spec_NumText.f k a0 a1) (spec_NumText.f (k + 1) a0 a1) := by
 intro a0 a1 k
 obtain ⟨ih0, ih1⟩ := spec_NumText.mono_l k
 unfold spec_NumText.f
 repeat' first
   | (with_reducible exact ih0 ..)
   | (with_reducible exact ih1 ..)
   | (with_reducible exact LeO.refl _)
   | (with_reducible exact LeO.none _)
   | (with_reducible refine LeO.ite ?_ ?_)
   | (with_reducible refine LeO.bind ?_ (fun _ => ?_))
   | exact ih0 ..
   | exact ih1 ..
   | exact LeO.none _
   | refine LeO.ite ?_ ?_
   | refine LeO.bind ?_ (fun _ => ?_)
set_option maxHeartbeats 8000000 in
set_option maxRecDepth 100000 in
theorem spec_NumText.calls (k : Nat) (a0 : Int) (a1 : Int) (r : ByteArray) (w : World) (h : spec_NumText.f k a0 a1 = some r) :
  Calls Try.prog 95 #[.int .i64 a0, .int .i64 a1] w fun e w' => e = .returned (.string r) ∧ Below w.heap.size w w' := by
 have HB := Aside0.mk (Below.refl w.heap.size w)
 have H : (if a0 < 0 then (spec_NumText.j0 k a0 a1 true) else ((spec_l01In.f a1 1 7).bind fun t128 => (if t128 = true then (if 0 ≤ (IntKind.u64.wrap (8 * (IntKind.u64.wrap (a1)))) then (spec_NumText.j0 k a0 a1 (decide ((shr .i64 a0 (IntKind.u64.wrap (8 * (IntKind.u64.wrap (a1))))) > 0))) else (none)) else (spec_NumText.j0 k a0 a1 true)))) = some r := h
 clear h
 have HC3 := Aside0.mk H
 clear H
 go_enter Try.func95, Try.ntmps95
 go_upto_region 1 with (fail)
 go_cut [21] (fun v21 wc => ∃ (kq : Nat) (x21_2 : Bool), v21 = .bool x21_2 ∧ Aside0 (spec_NumText.j0 kq a0 a1 x21_2 = some r) ∧ Aside0 (kq ≤ k) ∧ Aside0 (Below w.heap.size w wc))
 case first =>
  have H := HC3.out
  clear HC3
  by_cases c4 : a0 < 0
  ·rw [if_pos c4] at H
   have c4b0 := decide_eq_true c4
   clear c4
   (first | rw [c4b0] | (simp only [i64_w, i32_w]; rw [c4b0]) | skip)
   have H' := Aside0.mk H
   clear H
   go_wp2
   go_meet
   case rel => exact ⟨_, (true), tq_4, H', ⟨tq_59⟩, ⟨tq_0⟩⟩
  rw [if_neg c4] at H
  have c4b0 := decide_eq_false c4
  clear c4
  (first | rw [c4b0] | (simp only [i64_w, i32_w]; rw [c4b0]) | skip)
  replace H := Option.bind_eq_some_iff.mp H
  obtain ⟨t128, A50, H⟩ := H
  replace H : (if t128 = true then (if 0 ≤ (IntKind.u64.wrap (8 * (IntKind.u64.wrap (a1)))) then (spec_NumText.j0 k a0 a1 (decide ((shr .i64 a0 (IntKind.u64.wrap (8 * (IntKind.u64.wrap (a1))))) > 0))) else (none)) else (spec_NumText.j0 k a0 a1 true)) = some r := H
  have A5 := Aside0.mk A50
  clear A50
  by_cases c6 : t128 = true
  rotate_left
  ·replace c6 := Bool.eq_false_iff.mpr c6
   subst c6
   have H1 : (spec_NumText.j0 k a0 a1 true) = some r := by rw [if_neg (show ¬ (false = true) by decide)] at H; exact H
   clear H
   have H := H1
   clear H1
   have H' := Aside0.mk H
   clear H
   go_wp2_with (first | (go_at_call 30; (with_reducible refine (spec_l01In.calls a1 1 7 false _ A5.out).mono ?_); rintro e w' ⟨rfl, ⟨nd, rfl⟩⟩))
   go_meet
   case rel => exact ⟨_, (true), tq_4, H', ⟨tq_59⟩, ⟨tq_0⟩⟩
  subst c6
  have H1 : (if 0 ≤ (IntKind.u64.wrap (8 * (IntKind.u64.wrap (a1)))) then (spec_NumText.j0 k a0 a1 (decide ((shr .i64 a0 (IntKind.u64.wrap (8 * (IntKind.u64.wrap (a1))))) > 0))) else (none)) = some r := by rw [if_pos rfl] at H; exact H
  clear H
  have H := H1
  clear H1
  obtain ⟨ji7, hji7⟩ : ∃ j_ : Int, (IntKind.u64.wrap (8 * (IntKind.u64.wrap (a1)))) = j_ := ⟨_, rfl⟩
  replace H : (if 0 ≤ (ji7) then (spec_NumText.j0 k a0 a1 (decide ((shr .i64 a0 (ji7)) > 0))) else (none)) = some r := by first | (rw [hji7] at H; exact H) | (simp only [hji7] at H ⊢; exact H)
  (try rw [hji7] at A5)
  by_cases c8 : 0 ≤ (ji7)
  rotate_left
  ·rw [if_neg c8] at H
   exact absurd H (by simp)
  rw [if_pos c8] at H
  have c8b0 := eq_true c8
  have c8b1 := decide_eq_true c8
  clear c8
  obtain ⟨ji9, hji9⟩ : ∃ j_ : Int, (shr .i64 a0 (ji7)) = j_ := ⟨_, rfl⟩
  replace H : (spec_NumText.j0 k a0 a1 (decide ((ji9) > 0))) = some r := by first | (rw [hji9] at H; exact H) | (simp only [hji9] at H ⊢; exact H)
  (try rw [hji9] at A5)
  have hji9_ : (a0 / 2 ^ min (ji7).toNat 64) = ji9 := hji9
  have hji9z : (ji7) ≤ 64 → (a0 / 2 ^ (ji7).toNat) = ji9 := shr_small hji9
  have H' := Aside0.mk H
  clear H
  go_wp2_with (first | (go_at_call 30; (with_reducible refine (spec_l01In.calls a1 1 7 true _ A5.out).mono ?_); rintro e w' ⟨rfl, ⟨nd, rfl⟩⟩))
  go_meet
  case rel => exact ⟨_, (decide ((ji9) > 0)), (by first | rfl | (simp; done) | (simp only [← hji9] <;> (first | rfl | simp)) | (simp [*]; done)), H', ⟨tq_59⟩, ⟨tq_0⟩⟩
 case rest =>
 clear HC3
 try clear p2; try clear c4; try clear c4b0; try clear c6; try clear c8; try clear c8b0; try clear c8b1; try clear c9
 obtain ⟨kq, x21_2, rfl, HA, HJ2, HB⟩ := hcut
 cases kq with
 | zero => exact absurd HA.out (by simp [spec_NumText.j0])
 | succ kj2 =>
 have H := HA.out
 clear HA
 simp only [spec_NumText.j0] at H
 by_cases c10 : x21_2 = true
 ·subst c10
  have H1 : (some (⟨#[]⟩ : ByteArray)) = some r := by rw [if_pos rfl] at H; exact H
  clear H
  have H := H1
  clear H1
  obtain rfl := Option.some.inj H
  go_wp2
  go_ret
  exact ⟨tq_2, tq_0⟩
 replace c10 := Bool.eq_false_iff.mpr c10
 subst c10
 have H1 : (spec_NumText.l0 kj2 a0 (([] : List Int)) (wrap64 (a1 - 1))) = some r := by rw [if_neg (show ¬ (false = true) by decide)] at H; exact H
 clear H
 have H := H1
 clear H1
 obtain ⟨y129, hy129⟩ : ∃ y_ : List Int, y_ = (([] : List Int)) := ⟨_, rfl⟩
 replace H : (spec_NumText.l0 kj2 a0 y129 (wrap64 (a1 - 1))) = some r := by first | (rw [hy129]; with_reducible exact H) | (have H2_ := (Option.bind_some _ _).symm.trans H; rw [hy129]; with_reducible exact H2_) | (have H2_ := (Option.bind_some _ _).symm.trans H; with_reducible exact H2_) | with_reducible exact H | (rw [hy129]; exact H) | exact H
 have Ny129 := Aside0.mk hy129
 clear hy129
 have H' := Aside0.mk H
 clear H
 go_wp2_with (first | ((with_reducible refine gate_dst (N := 22) rfl ?_); refine Kd.R_lit (Kd.int .u8) _ 5 ?hg (N := 22) ?hd (xs := ([] : List Int)) (inner := []) (ok := fun _ => True) (okp := fun _ => True) ?hr ?hp (fun _ hk => hk) trivial (Below.refl _ _) (Nat.le_refl _) (by simp) ?_; (case hd => rfl); (case hg => rfl); (case hr => first | (go_simp; done) | (go_simp; rfl)); (case hp => exact (Reps.none _ _)); intro v130 w11 ho12 hb hg_ hnew_; clear hg_ hnew_; (first | rw [← Ny129.out] at ho12 | (simp only [Int.reduceToNat] at ho12; rw [← Ny129.out] at ho12)); have z_ := p_ (Kd.R_lower ho12 (below_size tq_0)) <| a_ (below_step tq_0 hb); clear HB; obtain ⟨HO131, HB⟩ := z_; clear hb ho12))
 go_loopg [5, 6] kj2 (fun kq v5 v6 w' => ∃ (x5_2 : List Int) (x6_2 : Int), v6 = .int .i64 x6_2 ∧ Aside0 (spec_NumText.l0 kq a0 x5_2 x6_2 = some r) ∧ Aside0 (kq ≤ kj2) ∧ Aside0 (Kd.R (Kd.int .u8) 5 w' w.heap.size (fun _ => True) v5 x5_2) ∧ Aside0 (Below w.heap.size w w'))
 case atStart => exact ⟨(y129), (wrap64 (a1 - 1)), tq_4, H', ⟨Nat.le_refl _⟩, ⟨(by (with_reducible repeat (first | apply Kd.R_alloc | apply Kd.R_drewN | apply Kd.R_drew)); exact HO131.out)⟩, ⟨tq_0⟩⟩
 case round =>
 clear H'
 try clear c1; try clear p2; try clear c4; try clear c4b0; try clear c6; try clear p6; try clear c8; try clear c8b0; try clear c8b1; try clear c9; try clear c10; try clear p2
 obtain ⟨x5_2, x6_2, rfl, HA, HK2, HO_5, HB⟩ := hrel
 cases gk with
 | zero => exact absurd HA.out (by simp [spec_NumText.l0])
 | succ k2 =>
 have H := HA.out
 clear HA
 simp only [spec_NumText.l0] at H
 by_cases c13 : x6_2 ≥ 0
 rotate_left
 ·rw [if_neg c13] at H
  have c13b0 := decide_eq_false c13
  clear c13
  obtain rfl := Option.some.inj H
  have hcv19 := own_string (P := Try.prog) Try.underlying38 Try.underlying5 Try.underlying9 (Kd.own_of_R HO_5.out)
  go_wp2
  go_ret
  exact ⟨tq_2, tq_0⟩
 rw [if_pos c13] at H
 have c13b0 := decide_eq_true c13
 clear c13
 obtain ⟨ji14, hji14⟩ : ∃ j_ : Int, (IntKind.u64.wrap (8 * (IntKind.u64.wrap (x6_2)))) = j_ := ⟨_, rfl⟩
 replace H : (if 0 ≤ (ji14) then (if x5_2.length < 140737488355328 then (spec_NumText.l0 k2 a0 (x5_2 ++ [(shr .i64 a0 (ji14)) % 256]) (wrap64 (x6_2 - 1))) else (none)) else (none)) = some r := by first | (rw [hji14] at H; exact H) | (simp only [hji14] at H ⊢; exact H)
 by_cases c15 : 0 ≤ (ji14)
 rotate_left
 ·rw [if_neg c15] at H
  exact absurd H (by simp)
 rw [if_pos c15] at H
 have c15b0 := eq_true c15
 have c15b1 := decide_eq_true c15
 clear c15
 obtain ⟨ji16, hji16⟩ : ∃ j_ : Int, (shr .i64 a0 (ji14)) = j_ := ⟨_, rfl⟩
 replace H : (if x5_2.length < 140737488355328 then (spec_NumText.l0 k2 a0 (x5_2 ++ [(ji16) % 256]) (wrap64 (x6_2 - 1))) else (none)) = some r := by first | (rw [hji16] at H; exact H) | (simp only [hji16] at H ⊢; exact H)
 have hji16_ : (a0 / 2 ^ min (ji14).toNat 64) = ji16 := hji16
 have hji16z : (ji14) ≤ 64 → (a0 / 2 ^ (ji14).toNat) = ji16 := shr_small hji16
 by_cases c17 : x5_2.length < 140737488355328
 rotate_left
 ·rw [if_neg c17] at H
  exact absurd H (by simp)
 rw [if_pos c17] at H
 have LMc17 := Aside0.mk c17
 clear c17
 obtain ⟨y132, hy132⟩ : ∃ y_ : List Int, y_ = (x5_2 ++ [(ji16) % 256]) := ⟨_, rfl⟩
 replace H : (spec_NumText.l0 k2 a0 y132 (wrap64 (x6_2 - 1))) = some r := by first | (rw [hy132]; with_reducible exact H) | (have H2_ := (Option.bind_some _ _).symm.trans H; rw [hy132]; with_reducible exact H2_) | (have H2_ := (Option.bind_some _ _).symm.trans H; with_reducible exact H2_) | with_reducible exact H | (rw [hy132]; exact H) | exact H
 have Ny132 := Aside0.mk hy132
 clear hy132
 have H' := Aside0.mk H
 clear H
 go_wp2_with (first | ((with_reducible refine gate_builtin (b := .append) (xs := #[.tmp 29, .tmp 36]) rfl ?_); at_builtin; refine Kd.R_append (Kd.int .u8) (w0 := w) w.heap.size rfl (.tmp 29) (.tmp 36) 38 5 (.int .u8 0) 1 rfl Try.underlying38 info5 rfl (by decide) (by omega) u5 x5_2 ((ji16) % 256) [.int .u8 ((ji16) % 256)] (fun _ => True) (fun _ => False) rfl rfl ?aP (fun _ hk => hk.elim) ?aF ?aO ?aB ?aS ?aL ?_; (case aP => exact rfl); (case aB => exact tq_0); (case aF => exact (fun _ _ => trivial)); (case aO => exact tq_84); (case aS => exact (below_size tq_0)); (case aL => have := LMc17.out; omega); intro v133 w18 ho hb hg hat; rw [← Ny132.out] at ho; have z_ := p_ (hb) <| a_ (ho); clear HB HO_5; obtain ⟨HB, HO134⟩ := z_; clear ho hb hg hat))
 go_roundg k2
 case measure => have := HJ2.out; have := HK2.out; omega
 case rel => exact ⟨(y132), (wrap64 (x6_2 - 1)), tq_4, H', ⟨(by have := HJ2.out; have := HK2.out; omega)⟩, ⟨(by (with_reducible repeat (first | apply Kd.R_alloc | apply Kd.R_drewN | apply Kd.R_drew)); exact HO134.out)⟩, ⟨tq_0⟩⟩

end Go.Proofs.Ytljnnmpfeningaa.PFnExactPartOk
