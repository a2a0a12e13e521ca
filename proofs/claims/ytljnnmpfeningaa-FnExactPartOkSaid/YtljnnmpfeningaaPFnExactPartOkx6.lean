/- Contracts of Go functions, written by a program of ours over the print of the kit: each says that the call returns what the Lean function beside it computes. Conditions: as each theorem states them. -/
import Derived.Test.YtljnnmpfeningaaPkFnExactPartOk
import Derived.Test.YtljnnmpfeningaaPFnExactPartOkx0
namespace Go.Proofs.Ytljnnmpfeningaa.PFnExactPartOk
open Go.RowKit Go.Proofs.YtljnnmpfeningaaW.PrintWords Go.Proofs.YtljnnmpfeningaaW.PrintLast Go.Proofs.YtljnnmpfeningaaW.PrintMore
attribute [local go_sem] max2_int min2_int max_two min_two max_three min_three max_four min_four   -- for this text's walks alone
set_option linter.unusedVariables false
set_option linter.unusedSimpArgs false

/-! ### spec_l14Above: function 70 -/
mutual
def spec_l14Above.l0 : Nat → Int → Int → Int → List Int → List (S64) → Option (Int)
 | 0, _, _, _, _, _ => none
 | k + 1, x1, x5, x168000, x168001, x168002 => if x5 < (x168002.length : Int) then (spec_l14Above.l1 k x1 x5 0 x168000 x168001 x168002) else (some (-1))
def spec_l14Above.l1 : Nat → Int → Int → Int → Int → List Int → List (S64) → Option (Int)
 | 0, _, _, _, _, _, _ => none
 | k + 1, x1, x5, x6, x168000, x168001, x168002 => if 0 ≤ x5 then (if x5 < (x168002.length : Int) then (if x6 < (((rd_T64 x168002 x5).f5).length : Int) then (spec_l14Above.j2 k x1 x5 x6 (((rd_T64 x168002 x5).f0) == 2) x168000 x168001 x168002) else (spec_l14Above.j2 k x1 x5 x6 false x168000 x168001 x168002)) else (none)) else (none)
def spec_l14Above.j2 : Nat → Int → Int → Int → Bool → Int → List Int → List (S64) → Option (Int)
 | 0, _, _, _, _, _, _, _ => none
 | k + 1, x1, x5, x6, x31, x168000, x168001, x168002 => if x31 = true then (if 0 ≤ x5 then (if x5 < (x168002.length : Int) then (if 0 ≤ x6 then (if x6 < (((rd_T64 x168002 x5).f5).length : Int) then (if ((rd_T67 ((rd_T64 x168002 x5).f5) x6).f0) = x1 then (some x5) else (spec_l14Above.l1 k x1 x5 (wrap64 (x6 + 1)) x168000 x168001 x168002)) else (none)) else (none)) else (none)) else (none)) else (spec_l14Above.l0 k x1 (wrap64 (x5 + 1)) x168000 x168001 x168002)
end
def spec_l14Above.f (k : Nat) (a0_0 : Int) (l0_1 : List Int) (l0_2 : List (S64)) (a1 : Int) : Option (Int) := spec_l14Above.l0 k a1 0 a0_0 l0_1 l0_2
theorem spec_l14Above.mono_l : ∀ k, (∀ y0 y1 y2 y3 y4, LeO (spec_l14Above.l0 k y0 y1 y2 y3 y4) (spec_l14Above.l0 (k + 1) y0 y1 y2 y3 y4)) ∧ (∀ y0 y1 y2 y3 y4 y5, LeO (spec_l14Above.l1 k y0 y1 y2 y3 y4 y5) (spec_l14Above.l1 (k + 1) y0 y1 y2 y3 y4 y5)) ∧ (∀ y0 y1 y2 y3 y4 y5 y6, LeO (spec_l14Above.j2 k y0 y1 y2 y3 y4 y5 y6) (spec_l14Above.j2 (k + 1) y0 y1 y2 y3 y4 y5 y6))
 | 0 => ⟨fun _ _ _ _ _ r h => by simp [spec_l14Above.l0] at h, fun _ _ _ _ _ _ r h => by simp [spec_l14Above.l1] at h, fun _ _ _ _ _ _ _ r h => by simp [spec_l14Above.j2] at h⟩
 | k + 1 => by
  obtain ⟨ih0, ih1, ih2⟩ := spec_l14Above.mono_l k
  refine ⟨?_, ?_, ?_⟩
  ·intro y0 y1 y2 y3 y4
   unfold spec_l14Above.l0
   exact mo_1
  ·intro y0 y1 y2 y3 y4 y5
   unfold spec_l14Above.l1
   exact mo_1
  ·intro y0 y1 y2 y3 y4 y5 y6
   unfold spec_l14Above.j2
   exact mo_1
theorem spec_l14Above.mono : ∀ a0 a1 a2 a3 k, LeO (spec_l14Above.f k a0 a1 a2 a3) (spec_l14Above.f (k + 1) a0 a1 a2 a3) := by
 intro a0 a1 a2 a3 k
 obtain ⟨ih0, ih1, ih2⟩ := spec_l14Above.mono_l k
 unfold spec_l14Above.f
 repeat' first
   | (with_reducible exact ih0 ..)
   | (with_reducible exact ih1 ..)
   | (with_reducible exact ih2 ..)
   | (with_reducible exact LeO.refl _)
   | (with_reducible exact LeO.none _)
   | (with_reducible refine LeO.ite ?_ ?_)
   | (with_reducible refine LeO.bind ?_ (fun _ => ?_))
   | exact ih0 ..
   | exact ih1 ..
   | exact ih2 ..
   | exact LeO.none _
   | refine LeO.ite ?_ ?_
   | refine LeO.bind ?_ (fun _ => ?_)
set_option maxHeartbeats 8000000 in
set_option maxRecDepth 100000 in
theorem spec_l14Above.calls (k : Nat) (a0_0 : Int) (A0_1 : Option Addr) (c0_1 : Nat) (l0_1 : List Int) (A0_2 : Option Addr) (c0_2 : Nat) (l0_2 : List (S64)) (a1 : Int) (r : Int) (w : World) (hr0_1 : Kd.C (Kd.int .i64) w A0_1 l0_1.length l0_1) (hc0_1 : l0_1.length ≤ c0_1) (hr0_2 : Kd.C k64 w A0_2 l0_2.length l0_2) (hc0_2 : l0_2.length ≤ c0_2) (h : spec_l14Above.f k a0_0 l0_1 l0_2 a1 = some r) :
  Calls Try.prog 70 #[.agg #[.int .i64 a0_0, .slice A0_1 l0_1.length c0_1, .slice A0_2 l0_2.length c0_2], .int .i64 a1] w fun e w' => e = .returned (.int .i64 r) ∧ Below w.heap.size w w' := by
 have hu34 := Try.underlying34
 have HR0_1 := Aside0.mk hr0_1
 have HC0_1 := Aside0.mk hc0_1
 clear hr0_1 hc0_1
 have HR0_2 := Aside0.mk hr0_2
 have HC0_2 := Aside0.mk hc0_2
 clear hr0_2 hc0_2
 have HB := Aside0.mk (Below.refl w.heap.size w)
 have H : (spec_l14Above.l0 k a1 0 a0_0 l0_1 l0_2) = some r := h
 clear h
 have H' := Aside0.mk H
 clear H
 go_enter Try.func70, Try.ntmps70
 go_wp2_with (first | ((with_reducible refine gate_dst (N := 2) rfl ?_); refine box_event ?hg (N := 2) ?hd (cs := #[.int .i64 a0_0, .slice A0_1 l0_1.length c0_1, .slice A0_2 l0_2.length c0_2]) (t := 34) ?hr ?_; (case hd => rfl); (case hg => rfl); (case hr => first | (go_simp; done) | (go_simp; rfl)); intro gb167 hg w3 hbox hb; have z_ := p_ (below_step tq_0 hb) <| p_ (hbox) <| p_ (gb_ hg tq_0) <| a_ (gb_ hg tq_0); clear HB; obtain ⟨HB, BK167, GW167, GE167⟩ := z_; clear hb hbox hg))
 go_loopg [5] k (fun kq v5 w' => ∃ (x5_1 : Int), v5 = .int .i64 x5_1 ∧ Aside0 (spec_l14Above.l0 kq a1 x5_1 a0_0 l0_1 l0_2 = some r) ∧ Aside0 (kq ≤ k) ∧ Aside0 (w'.heap[gb167]? = some (.cells #[.int .i64 a0_0, (.slice A0_1 l0_1.length c0_1), (.slice A0_2 l0_2.length c0_2)] 34 (0, 0))) ∧ Aside0 (Below w.heap.size w w'))
 case atStart => exact ⟨(0), tq_4, H', ⟨Nat.le_refl _⟩, ⟨tq_101⟩, ⟨tq_61⟩⟩
 case round =>
 clear H'
 try clear p2
 obtain ⟨x5_1, rfl, HA, HK1, BK167, HB⟩ := hrel
 cases gk with
 | zero => exact absurd HA.out (by simp [spec_l14Above.l0])
 | succ k1 =>
 have H := HA.out
 clear HA
 simp only [spec_l14Above.l0] at H
 by_cases c4 : x5_1 < (l0_2.length : Int)
 rotate_left
 ·rw [if_neg c4] at H
  have c4b0 := decide_eq_false c4
  clear c4
  obtain rfl := Option.some.inj H
  obtain ⟨hcz20_0, hcz20_1, hcz20_2⟩ := bk3_ BK167.out
  obtain ⟨hfz20_0, hfz20_1, hfz20_2⟩ := bf3_ BK167.out
  go_wp2
  go_ret
  exact ⟨tq_2, tq_61⟩
 rw [if_pos c4] at H
 have c4b0 := decide_eq_true c4
 clear c4
 have H' := Aside0.mk H
 clear H
 obtain ⟨hcz5_0, hcz5_1, hcz5_2⟩ := bk3_ BK167.out
 obtain ⟨hfz5_0, hfz5_1, hfz5_2⟩ := bf3_ BK167.out
 go_wp2
 go_loopg [6] k1 (fun kq v6 w' => ∃ (x6_2 : Int), v6 = .int .i64 x6_2 ∧ Aside0 (spec_l14Above.l1 kq a1 x5_1 x6_2 a0_0 l0_1 l0_2 = some r) ∧ Aside0 (kq ≤ k1) ∧ Aside0 (w'.heap[gb167]? = some (.cells #[.int .i64 a0_0, (.slice A0_1 l0_1.length c0_1), (.slice A0_2 l0_2.length c0_2)] 34 (0, 0))) ∧ Aside0 (Below w.heap.size w w'))
 case atStart => exact ⟨(0), tq_4, H', ⟨Nat.le_refl _⟩, ⟨tq_101⟩, ⟨tq_61⟩⟩
 case round =>
 clear H'
 try clear p2; try clear c4; try clear c4b0; try clear hcz5_0 hcz5_1 hcz5_2 hfz5_0 hfz5_1 hfz5_2; try clear p2
 obtain ⟨x6_2, rfl, HA, HK2, BK167, HB⟩ := hrel
 cases gk with
 | zero => exact absurd HA.out (by simp [spec_l14Above.l1])
 | succ k2 =>
 have H := HA.out
 clear HA
 simp only [spec_l14Above.l1] at H
 have HC6 := Aside0.mk H
 clear H
 go_upto_region 5 with (fail)
 go_cut [31] (fun v31 wc => ∃ (kq : Nat) (x31_5 : Bool), v31 = .bool x31_5 ∧ Aside0 (spec_l14Above.j2 kq a1 x5_1 x6_2 x31_5 a0_0 l0_1 l0_2 = some r) ∧ Aside0 (kq ≤ k2) ∧ Aside0 (wc.heap[gb167]? = some (.cells #[.int .i64 a0_0, (.slice A0_1 l0_1.length c0_1), (.slice A0_2 l0_2.length c0_2)] 34 (0, 0))) ∧ Aside0 (Below w.heap.size w wc))
 case first =>
  have H := HC6.out
  clear HC6
  by_cases c7 : 0 ≤ x5_1
  rotate_left
  ·rw [if_neg c7] at H
   exact absurd H (by simp)
  rw [if_pos c7] at H
  have c7b0 := decide_eq_true c7
  clear c7
  (first | rw [c7b0] | (simp only [i64_w, i32_w]; rw [c7b0]) | skip)
  by_cases c8 : x5_1 < (l0_2.length : Int)
  rotate_left
  ·rw [if_neg c8] at H
   exact absurd H (by simp)
  rw [if_pos c8] at H
  have c8b0 := decide_eq_true c8
  clear c8
  by_cases c9 : x6_2 < (((rd_T64 l0_2 x5_1).f5).length : Int)
  rotate_left
  ·rw [if_neg c9] at H
   have c9b0 := decide_eq_false c9
   clear c9
   have H' := Aside0.mk H
   clear H
   obtain ⟨hcz11_0, hcz11_1, hcz11_2⟩ := bk3_ BK167.out
   obtain ⟨hfz11_0, hfz11_1, hfz11_2⟩ := bf3_ BK167.out
   have p168 : 0 ≤ (x5_1 : Int) := of_decide_eq_true tq_3
   have q168 : x5_1 < (l0_2.length : Int) := of_decide_eq_true tq_3
   obtain ⟨ad168, A168_4, c168_4, A168_5, c168_5, e168, hx168_0, hx168_1, hx168_2, hx168_3, hx168_4, hx168_5, hl168_4, hi168_4, hl168_5, hi168_5⟩ := at_T64 HR0_2.out x5_1 p168 q168
   cases e168
   replace hx168_0 := hx_ HB.out hx168_0
   replace hx168_1 := hx_ HB.out hx168_1
   replace hx168_2 := hx_ HB.out hx168_2
   replace hx168_3 := hx_ HB.out hx168_3
   replace hx168_4 := hx_ HB.out hx168_4
   replace hx168_5 := hx_ HB.out hx168_5
   have HR168_4 := Aside0.mk hi168_4
   have HC168_4 := Aside0.mk hl168_4
   clear hi168_4 hl168_4
   have HR168_5 := Aside0.mk hi168_5
   have HC168_5 := Aside0.mk hl168_5
   clear hi168_5 hl168_5
   replace p168 := eq_true p168
   replace q168 := eq_true q168
   go_wp2
   go_meet
   case rel => exact ⟨_, (false), tq_4, H', ⟨tq_128⟩, ⟨tq_101⟩, ⟨tq_61⟩⟩
  rw [if_pos c9] at H
  have c9b0 := decide_eq_true c9
  clear c9
  have H' := Aside0.mk H
  clear H
  obtain ⟨hcz10_0, hcz10_1, hcz10_2⟩ := bk3_ BK167.out
  obtain ⟨hfz10_0, hfz10_1, hfz10_2⟩ := bf3_ BK167.out
  have p168 : 0 ≤ (x5_1 : Int) := of_decide_eq_true tq_3
  have q168 : x5_1 < (l0_2.length : Int) := of_decide_eq_true tq_3
  obtain ⟨ad168, A168_4, c168_4, A168_5, c168_5, e168, hx168_0, hx168_1, hx168_2, hx168_3, hx168_4, hx168_5, hl168_4, hi168_4, hl168_5, hi168_5⟩ := at_T64 HR0_2.out x5_1 p168 q168
  cases e168
  replace hx168_0 := hx_ HB.out hx168_0
  replace hx168_1 := hx_ HB.out hx168_1
  replace hx168_2 := hx_ HB.out hx168_2
  replace hx168_3 := hx_ HB.out hx168_3
  replace hx168_4 := hx_ HB.out hx168_4
  replace hx168_5 := hx_ HB.out hx168_5
  have HR168_4 := Aside0.mk hi168_4
  have HC168_4 := Aside0.mk hl168_4
  clear hi168_4 hl168_4
  have HR168_5 := Aside0.mk hi168_5
  have HC168_5 := Aside0.mk hl168_5
  clear hi168_5 hl168_5
  replace p168 := eq_true p168
  replace q168 := eq_true q168
  have p169 : 0 ≤ (x5_1 : Int) := of_decide_eq_true tq_3
  have q169 : x5_1 < (l0_2.length : Int) := of_decide_eq_true tq_3
  obtain ⟨ad169, A169_4, c169_4, A169_5, c169_5, e169, hx169_0, hx169_1, hx169_2, hx169_3, hx169_4, hx169_5, hl169_4, hi169_4, hl169_5, hi169_5⟩ := at_T64 HR0_2.out x5_1 p169 q169
  obtain rfl : ad168 = ad169 := (by injection e169)
  replace hx169_0 := hx_ HB.out hx169_0
  replace hx169_1 := hx_ HB.out hx169_1
  replace hx169_2 := hx_ HB.out hx169_2
  replace hx169_3 := hx_ HB.out hx169_3
  replace hx169_4 := hx_ HB.out hx169_4
  replace hx169_5 := hx_ HB.out hx169_5
  have HR169_4 := Aside0.mk hi169_4
  have HC169_4 := Aside0.mk hl169_4
  clear hi169_4 hl169_4
  have HR169_5 := Aside0.mk hi169_5
  have HC169_5 := Aside0.mk hl169_5
  clear hi169_5 hl169_5
  replace p169 := eq_true p169
  replace q169 := eq_true q169
  have ea_ := Option.some.inj (hx168_4.symm.trans hx169_4)
  injection ea_ with ea_ en_ ec_
  subst ea_
  subst ec_
  clear en_
  have ea_ := Option.some.inj (hx168_5.symm.trans hx169_5)
  injection ea_ with ea_ en_ ec_
  subst ea_
  subst ec_
  clear en_
  go_wp2
  go_meet
  case rel => exact ⟨_, ((((rd_T64 l0_2 x5_1).f0) == 2)), tq_4, H', ⟨tq_128⟩, ⟨tq_101⟩, ⟨tq_61⟩⟩
 case rest =>
 clear HC6
 try clear c1; try clear p1; try clear q1; try clear hx1; try clear p2; try clear c4; try clear c4b0; try clear c7; try clear c7b0; try clear c8; try clear c8b0; try clear c9; try clear c9b0; try clear hcz10_0 hcz10_1 hcz10_2; try clear hcz11_0 hcz11_1 hcz11_2; try clear hcz5_0 hcz5_1 hcz5_2; try clear hfz10_0 hfz10_1 hfz10_2; try clear hfz11_0 hfz11_1 hfz11_2; try clear hfz5_0 hfz5_1 hfz5_2; try clear hx168_0; try clear hx168_1; try clear hx168_2; try clear hx168_3; try clear hx168_4; try clear hx168_5; try clear hx169_0; try clear hx169_1; try clear hx169_2; try clear hx169_3; try clear hx169_4; try clear hx169_5; try clear p168; try clear p169; try clear p2; try clear q168; try clear q169
 obtain ⟨kq, x31_5, rfl, HA, HJ5, BK167, HB⟩ := hcut
 cases kq with
 | zero => exact absurd HA.out (by simp [spec_l14Above.j2])
 | succ kj5 =>
 have H := HA.out
 clear HA
 simp only [spec_l14Above.j2] at H
 by_cases c12 : x31_5 = true
 rotate_left
 ·replace c12 := Bool.eq_false_iff.mpr c12
  subst c12
  have H1 : (spec_l14Above.l0 kj5 a1 (wrap64 (x5_1 + 1)) a0_0 l0_1 l0_2) = some r := by rw [if_neg (show ¬ (false = true) by decide)] at H; exact H
  clear H
  have H := H1
  clear H1
  have H' := Aside0.mk H
  clear H
  go_wp2
  go_roundg kj5
  case measure => have := HK1.out; have := HK2.out; have := HJ5.out; omega
  case rel => exact ⟨(wrap64 (x5_1 + 1)), tq_4, H', ⟨tq_123⟩, ⟨tq_101⟩, ⟨tq_61⟩⟩
 subst c12
 have H1 : (if 0 ≤ x5_1 then (if x5_1 < (l0_2.length : Int) then (if 0 ≤ x6_2 then (if x6_2 < (((rd_T64 l0_2 x5_1).f5).length : Int) then (if ((rd_T67 ((rd_T64 l0_2 x5_1).f5) x6_2).f0) = a1 then (some x5_1) else (spec_l14Above.l1 kj5 a1 x5_1 (wrap64 (x6_2 + 1)) a0_0 l0_1 l0_2)) else (none)) else (none)) else (none)) else (none)) = some r := by rw [if_pos rfl] at H; exact H
 clear H
 have H := H1
 clear H1
 by_cases c13 : 0 ≤ x5_1
 rotate_left
 ·rw [if_neg c13] at H
  exact absurd H (by simp)
 rw [if_pos c13] at H
 have c13b0 := decide_eq_true c13
 clear c13
 by_cases c14 : x5_1 < (l0_2.length : Int)
 rotate_left
 ·rw [if_neg c14] at H
  exact absurd H (by simp)
 rw [if_pos c14] at H
 have c14b0 := decide_eq_true c14
 clear c14
 by_cases c15 : 0 ≤ x6_2
 rotate_left
 ·rw [if_neg c15] at H
  exact absurd H (by simp)
 rw [if_pos c15] at H
 have c15b0 := decide_eq_true c15
 clear c15
 by_cases c16 : x6_2 < (((rd_T64 l0_2 x5_1).f5).length : Int)
 rotate_left
 ·rw [if_neg c16] at H
  exact absurd H (by simp)
 rw [if_pos c16] at H
 have c16b0 := decide_eq_true c16
 clear c16
 by_cases c17 : ((rd_T67 ((rd_T64 l0_2 x5_1).f5) x6_2).f0) = a1
 ·rw [if_pos c17] at H
  have c17b0 := beq_iff_eq.mpr c17
  have c17b1 := bne_eq_false_iff_eq.mpr c17
  clear c17
  obtain rfl := Option.some.inj H
  obtain ⟨hcz18_0, hcz18_1, hcz18_2⟩ := bk3_ BK167.out
  obtain ⟨hfz18_0, hfz18_1, hfz18_2⟩ := bf3_ BK167.out
  have p170 : 0 ≤ (x5_1 : Int) := of_decide_eq_true tq_3
  have q170 : x5_1 < (l0_2.length : Int) := of_decide_eq_true tq_3
  obtain ⟨ad170, A170_4, c170_4, A170_5, c170_5, e170, hx170_0, hx170_1, hx170_2, hx170_3, hx170_4, hx170_5, hl170_4, hi170_4, hl170_5, hi170_5⟩ := at_T64 HR0_2.out x5_1 p170 q170
  cases e170
  replace hx170_0 := hx_ HB.out hx170_0
  replace hx170_1 := hx_ HB.out hx170_1
  replace hx170_2 := hx_ HB.out hx170_2
  replace hx170_3 := hx_ HB.out hx170_3
  replace hx170_4 := hx_ HB.out hx170_4
  replace hx170_5 := hx_ HB.out hx170_5
  have HR170_4 := Aside0.mk hi170_4
  have HC170_4 := Aside0.mk hl170_4
  clear hi170_4 hl170_4
  have HR170_5 := Aside0.mk hi170_5
  have HC170_5 := Aside0.mk hl170_5
  clear hi170_5 hl170_5
  replace p170 := eq_true p170
  replace q170 := eq_true q170
  have p171 : 0 ≤ (x6_2 : Int) := of_decide_eq_true tq_3
  have q171 : x6_2 < (((rd_T64 l0_2 x5_1).f5).length : Int) := of_decide_eq_true tq_3
  obtain ⟨ad171, e171, hx171_0, hx171_1⟩ := at_T67 HR170_5.out x6_2 p171 q171
  cases e171
  replace hx171_0 := hx_ HB.out hx171_0
  replace hx171_1 := hx_ HB.out hx171_1
  replace p171 := eq_true p171
  replace q171 := eq_true q171
  go_wp2
  go_ret
  exact ⟨tq_2, tq_61⟩
 rw [if_neg c17] at H
 have c17b0 := beq_eq_false_iff_ne.mpr c17
 have c17b1 := bne_iff_ne.mpr c17
 have H' := Aside0.mk H
 clear H
 obtain ⟨hcz19_0, hcz19_1, hcz19_2⟩ := bk3_ BK167.out
 obtain ⟨hfz19_0, hfz19_1, hfz19_2⟩ := bf3_ BK167.out
 have p170 : 0 ≤ (x5_1 : Int) := of_decide_eq_true tq_3
 have q170 : x5_1 < (l0_2.length : Int) := of_decide_eq_true tq_3
 obtain ⟨ad170, A170_4, c170_4, A170_5, c170_5, e170, hx170_0, hx170_1, hx170_2, hx170_3, hx170_4, hx170_5, hl170_4, hi170_4, hl170_5, hi170_5⟩ := at_T64 HR0_2.out x5_1 p170 q170
 cases e170
 replace hx170_0 := hx_ HB.out hx170_0
 replace hx170_1 := hx_ HB.out hx170_1
 replace hx170_2 := hx_ HB.out hx170_2
 replace hx170_3 := hx_ HB.out hx170_3
 replace hx170_4 := hx_ HB.out hx170_4
 replace hx170_5 := hx_ HB.out hx170_5
 have HR170_4 := Aside0.mk hi170_4
 have HC170_4 := Aside0.mk hl170_4
 clear hi170_4 hl170_4
 have HR170_5 := Aside0.mk hi170_5
 have HC170_5 := Aside0.mk hl170_5
 clear hi170_5 hl170_5
 replace p170 := eq_true p170
 replace q170 := eq_true q170
 have p171 : 0 ≤ (x6_2 : Int) := of_decide_eq_true tq_3
 have q171 : x6_2 < (((rd_T64 l0_2 x5_1).f5).length : Int) := of_decide_eq_true tq_3
 obtain ⟨ad171, e171, hx171_0, hx171_1⟩ := at_T67 HR170_5.out x6_2 p171 q171
 cases e171
 replace hx171_0 := hx_ HB.out hx171_0
 replace hx171_1 := hx_ HB.out hx171_1
 replace p171 := eq_true p171
 replace q171 := eq_true q171
 go_wp2
 go_roundg kj5
 case measure => have := HK1.out; have := HK2.out; have := HJ5.out; omega
 case rel => exact ⟨(wrap64 (x6_2 + 1)), tq_4, H', ⟨tq_123⟩, ⟨tq_101⟩, ⟨tq_61⟩⟩

/-! ### spec_DepthOf: function 34 -/
def spec_DepthOf.l0 : Nat → Int → Int → Int → List Int → List (S64) → Option (Int)
 | 0, _, _, _, _, _ => none
 | k + 1, x1, x5, x173000, x173001, x173002 => if x5 ≤ (x173002.length : Int) then (if x1 = 0 then (some x5) else ((spec_l14Above.f k x173000 x173001 x173002 x1).bind fun t173 => (if t173 < 0 then (some (-1)) else (spec_DepthOf.l0 k t173 (wrap64 (x5 + 1)) x173000 x173001 x173002)))) else (some (-1))
def spec_DepthOf.f (k : Nat) (a0_0 : Int) (l0_1 : List Int) (l0_2 : List (S64)) (a1 : Int) : Option (Int) := spec_DepthOf.l0 k a1 0 a0_0 l0_1 l0_2
theorem spec_DepthOf.mono_l : ∀ k, (∀ y0 y1 y2 y3 y4, LeO (spec_DepthOf.l0 k y0 y1 y2 y3 y4) (spec_DepthOf.l0 (k + 1) y0 y1 y2 y3 y4))
 | 0 => fun _ _ _ _ _ r h => by simp [spec_DepthOf.l0] at h
 | k + 1 => by
  have ih0 := spec_DepthOf.mono_l k
  ·intro y0 y1 y2 y3 y4
   unfold spec_DepthOf.l0
   repeat' first
   | (with_reducible exact ih0 ..)
   | (with_reducible exact spec_l14Above.mono ..)
   | (with_reducible exact LeO.refl _)
   | (with_reducible exact LeO.none _)
   | (with_reducible refine LeO.ite ?_ ?_)
   | (with_reducible refine LeO.bind ?_ (fun _ => ?_))
   | exact ih0 ..
   | exact spec_l14Above.mono ..
   | exact LeO.none _
   | refine LeO.ite ?_ ?_
   | refine LeO.bind ?_ (fun _ => ?_)
theorem spec_DepthOf.mono : ∀ a0 a1 a2 a3 k, LeO (spec_DepthOf.f k a0 a1 a2 a3) (spec_DepthOf.f (k + 1) a0 a1 a2 a3) := by
 intro a0 a1 a2 a3 k
 have ih0 := spec_DepthOf.mono_l k
 unfold spec_DepthOf.f
 repeat' first
   | (with_reducible exact ih0 ..)
   | (with_reducible exact spec_l14Above.mono ..)
   | (with_reducible exact LeO.refl _)
   | (with_reducible exact LeO.none _)
   | (with_reducible refine LeO.ite ?_ ?_)
   | (with_reducible refine LeO.bind ?_ (fun _ => ?_))
   | exact ih0 ..
   | exact spec_l14Above.mono ..
   | exact LeO.none _
   | refine LeO.ite ?_ ?_
   | refine LeO.bind ?_ (fun _ => ?_)
set_option maxHeartbeats 8000000 in
set_option maxRecDepth 100000 in
theorem spec_DepthOf.calls (k : Nat) (a0_0 : Int) (A0_1 : Option Addr) (c0_1 : Nat) (l0_1 : List Int) (A0_2 : Option Addr) (c0_2 : Nat) (l0_2 : List (S64)) (a1 : Int) (r : Int) (w : World) (hr0_1 : Kd.C (Kd.int .i64) w A0_1 l0_1.length l0_1) (hc0_1 : l0_1.length ≤ c0_1) (hr0_2 : Kd.C k64 w A0_2 l0_2.length l0_2) (hc0_2 : l0_2.length ≤ c0_2) (h : spec_DepthOf.f k a0_0 l0_1 l0_2 a1 = some r) :
  Calls Try.prog 34 #[.agg #[.int .i64 a0_0, .slice A0_1 l0_1.length c0_1, .slice A0_2 l0_2.length c0_2], .int .i64 a1] w fun e w' => e = .returned (.int .i64 r) ∧ Below w.heap.size w w' := by
 have hu34 := Try.underlying34
 have HR0_1 := Aside0.mk hr0_1
 have HC0_1 := Aside0.mk hc0_1
 clear hr0_1 hc0_1
 have HR0_2 := Aside0.mk hr0_2
 have HC0_2 := Aside0.mk hc0_2
 clear hr0_2 hc0_2
 have HB := Aside0.mk (Below.refl w.heap.size w)
 have H : (spec_DepthOf.l0 k a1 0 a0_0 l0_1 l0_2) = some r := h
 clear h
 have H' := Aside0.mk H
 clear H
 go_enter Try.func34, Try.ntmps34
 go_wp2_with (first | ((with_reducible refine gate_dst (N := 2) rfl ?_); refine box_event ?hg (N := 2) ?hd (cs := #[.int .i64 a0_0, .slice A0_1 l0_1.length c0_1, .slice A0_2 l0_2.length c0_2]) (t := 34) ?hr ?_; (case hd => rfl); (case hg => rfl); (case hr => first | (go_simp; done) | (go_simp; rfl)); intro gb172 hg w3 hbox hb; have z_ := p_ (below_step tq_0 hb) <| p_ (hbox) <| p_ (gb_ hg tq_0) <| a_ (gb_ hg tq_0); clear HB; obtain ⟨HB, BK172, GW172, GE172⟩ := z_; clear hb hbox hg))
 go_loopg [1, 5] k (fun kq v1 v5 w' => ∃ (x1_1 : Int) (x5_1 : Int), v1 = .int .i64 x1_1 ∧ v5 = .int .i64 x5_1 ∧ Aside0 (spec_DepthOf.l0 kq x1_1 x5_1 a0_0 l0_1 l0_2 = some r) ∧ Aside0 (kq ≤ k) ∧ Aside0 (w'.heap[gb172]? = some (.cells #[.int .i64 a0_0, (.slice A0_1 l0_1.length c0_1), (.slice A0_2 l0_2.length c0_2)] 34 (0, 0))) ∧ Aside0 (Below w.heap.size w w'))
 case atStart => exact ⟨(a1), (0), tq_4, tq_4, H', ⟨Nat.le_refl _⟩, ⟨tq_126⟩, ⟨tq_66⟩⟩
 case round =>
 clear H'
 try clear p2; try clear c3
 obtain ⟨x1_1, x5_1, rfl, rfl, HA, HK1, BK172, HB⟩ := hrel
 cases gk with
 | zero => exact absurd HA.out (by simp [spec_DepthOf.l0])
 | succ k1 =>
 have H := HA.out
 clear HA
 simp only [spec_DepthOf.l0] at H
 by_cases c4 : x5_1 ≤ (l0_2.length : Int)
 rotate_left
 ·rw [if_neg c4] at H
  have c4b0 := decide_eq_false c4
  clear c4
  obtain rfl := Option.some.inj H
  obtain ⟨hcz13_0, hcz13_1, hcz13_2⟩ := bk3_ BK172.out
  obtain ⟨hfz13_0, hfz13_1, hfz13_2⟩ := bf3_ BK172.out
  go_wp2
  go_ret
  exact ⟨tq_2, tq_66⟩
 rw [if_pos c4] at H
 have c4b0 := decide_eq_true c4
 clear c4
 by_cases c5 : x1_1 = 0
 ·rw [if_pos c5] at H
  have c5b0 := beq_iff_eq.mpr c5
  have c5b1 := bne_eq_false_iff_eq.mpr c5
  clear c5
  obtain rfl := Option.some.inj H
  obtain ⟨hcz6_0, hcz6_1, hcz6_2⟩ := bk3_ BK172.out
  obtain ⟨hfz6_0, hfz6_1, hfz6_2⟩ := bf3_ BK172.out
  go_wp2
  go_ret
  exact ⟨tq_2, tq_66⟩
 rw [if_neg c5] at H
 have c5b0 := beq_eq_false_iff_ne.mpr c5
 have c5b1 := bne_iff_ne.mpr c5
 replace H := Option.bind_eq_some_iff.mp H
 obtain ⟨t173, A70, H⟩ := H
 replace H : (if t173 < 0 then (some (-1)) else (spec_DepthOf.l0 k1 t173 (wrap64 (x5_1 + 1)) a0_0 l0_1 l0_2)) = some r := H
 have A7 := Aside0.mk A70
 clear A70
 by_cases c8 : t173 < 0
 ·rw [if_pos c8] at H
  have c8b0 := decide_eq_true c8
  clear c8
  obtain rfl := Option.some.inj H
  obtain ⟨hcz9_0, hcz9_1, hcz9_2⟩ := bk3_ BK172.out
  obtain ⟨hfz9_0, hfz9_1, hfz9_2⟩ := bf3_ BK172.out
  go_wp2_with (first | ((with_reducible refine gate_callee (f := 70) rfl ?_); refine goesL_ (some 18) rfl rfl Try.func70 (by kernel_rfl) rfl #[.agg #[.int .i64 a0_0, .slice A0_1 l0_1.length c0_1, .slice A0_2 l0_2.length c0_2], .int .i64 x1_1] rfl tq_1 ?_; (with_reducible refine (spec_l14Above.calls k1 a0_0 _ _ l0_1 _ _ l0_2 x1_1 t173 _ ?side1 ?side2 ?side3 ?side4 A7.out).mono ?_); (case side1 => exact tq_31); (case side2 => exact HC0_1.out); (case side3 => exact tq_54); (case side4 => exact HC0_2.out); rintro e w10 ⟨rfl, hb⟩; refine ⟨_, rfl, ?_⟩; have z_ := p_ (blk_below tq_126 hb) <| a_ (below_step tq_66 hb); clear BK172 HB; obtain ⟨BK172, HB⟩ := z_; (try clear hb); (try clear hb2); (try clear hk); (try clear hi)))
  go_ret
  exact ⟨tq_2, tq_66⟩
 rw [if_neg c8] at H
 have c8b0 := decide_eq_false c8
 clear c8
 have H' := Aside0.mk H
 clear H
 obtain ⟨hcz11_0, hcz11_1, hcz11_2⟩ := bk3_ BK172.out
 obtain ⟨hfz11_0, hfz11_1, hfz11_2⟩ := bf3_ BK172.out
 go_wp2_with (first | ((with_reducible refine gate_callee (f := 70) rfl ?_); refine goesL_ (some 18) rfl rfl Try.func70 (by kernel_rfl) rfl #[.agg #[.int .i64 a0_0, .slice A0_1 l0_1.length c0_1, .slice A0_2 l0_2.length c0_2], .int .i64 x1_1] rfl tq_1 ?_; (with_reducible refine (spec_l14Above.calls k1 a0_0 _ _ l0_1 _ _ l0_2 x1_1 t173 _ ?side1 ?side2 ?side3 ?side4 A7.out).mono ?_); (case side1 => exact tq_31); (case side2 => exact HC0_1.out); (case side3 => exact tq_54); (case side4 => exact HC0_2.out); rintro e w12 ⟨rfl, hb⟩; refine ⟨_, rfl, ?_⟩; have z_ := p_ (blk_below tq_126 hb) <| a_ (below_step tq_66 hb); clear BK172 HB; obtain ⟨BK172, HB⟩ := z_; (try clear hb); (try clear hb2); (try clear hk); (try clear hi)))
 go_roundg k1
 case measure => have := HK1.out; omega
 case rel => exact ⟨(t173), (wrap64 (x5_1 + 1)), tq_4, tq_4, H', ⟨tq_93⟩, ⟨tq_126⟩, ⟨tq_66⟩⟩

/-! ### spec_PagesWith: function 35 -/
def spec_PagesWith.l0 : Nat → List Int → Int → List Int → Int → Option (List Int)
 | 0, _, _, _, _ => none
 | k + 1, x0, x1, x5, x6 => if x6 < (x0.length : Int) then (if 0 ≤ x6 then (if (rd x0 x6) = x1 then (if x5.length < 17592186044416 then (spec_PagesWith.l0 k x0 x1 (x5 ++ [x6]) (wrap64 (x6 + 1))) else (none)) else (spec_PagesWith.l0 k x0 x1 x5 (wrap64 (x6 + 1)))) else (none)) else (some x5)
def spec_PagesWith.f (k : Nat) (l0 : List Int) (a1 : Int) : Option (List Int) := spec_PagesWith.l0 k l0 a1 (([] : List Int)) 0
theorem spec_PagesWith.mono_l : ∀ k, (∀ y0 y1 y2 y3, LeO (spec_PagesWith.l0 k y0 y1 y2 y3) (spec_PagesWith.l0 (k + 1) y0 y1 y2 y3))
 | 0 => fun _ _ _ _ r h => by simp [spec_PagesWith.l0] at h
 | k + 1 => by
  have ih0 := spec_PagesWith.mono_l k
  ·intro y0 y1 y2 y3
   unfold spec_PagesWith.l0
   exact mo_0
theorem spec_PagesWith.mono : ∀ a0 a1 k, LeO (spec_PagesWith.f k a0 a1) (spec_PagesWith.f (k + 1) a0 a1) := by
 intro a0 a1 k
 have ih0 := spec_PagesWith.mono_l k
 unfold spec_PagesWith.f
 repeat' first
   | (with_reducible exact ih0 ..)
   | (with_reducible exact LeO.refl _)
   | (with_reducible exact LeO.none _)
   | (with_reducible refine LeO.ite ?_ ?_)
   | (with_reducible refine LeO.bind ?_ (fun _ => ?_))
   | exact ih0 ..
   | exact LeO.none _
   | refine LeO.ite ?_ ?_
   | refine LeO.bind ?_ (fun _ => ?_)
set_option maxHeartbeats 8000000 in
set_option maxRecDepth 100000 in
theorem spec_PagesWith.calls (k : Nat) (A0 : Option Addr) (c0 : Nat) (l0 : List Int) (a1 : Int) (r : List Int) (w : World) (hr0 : Kd.C (Kd.int .i64) w A0 l0.length l0) (hc0 : l0.length ≤ c0) (h : spec_PagesWith.f k l0 a1 = some r) :
  Calls Try.prog 35 #[.slice A0 l0.length c0, .int .i64 a1] w fun e w' => ∃ v0_ : Value, e = .returned (v0_) ∧ Kd.R (Kd.int .i64) 3 w' w.heap.size (fun _ => True) v0_ r ∧ Below w.heap.size w w' := by
 have HR0 := Aside0.mk hr0
 have HC0 := Aside0.mk hc0
 clear hr0 hc0
 have HB := Aside0.mk (Below.refl w.heap.size w)
 have H : (spec_PagesWith.l0 k l0 a1 (([] : List Int)) 0) = some r := h
 clear h
 obtain ⟨y174, hy174⟩ : ∃ y_ : List Int, y_ = (([] : List Int)) := ⟨_, rfl⟩
 replace H : (spec_PagesWith.l0 k l0 a1 y174 0) = some r := by first | (rw [hy174]; with_reducible exact H) | (have H2_ := (Option.bind_some _ _).symm.trans H; rw [hy174]; with_reducible exact H2_) | (have H2_ := (Option.bind_some _ _).symm.trans H; with_reducible exact H2_) | with_reducible exact H | (rw [hy174]; exact H) | exact H
 have Ny174 := Aside0.mk hy174
 clear hy174
 have H' := Aside0.mk H
 clear H
 go_enter Try.func35, Try.ntmps35
 go_wp2_with (first | ((with_reducible refine gate_dst (N := 7) rfl ?_); refine Kd.R_lit (Kd.int .i64) _ 3 ?hg (N := 7) ?hd (xs := ([] : List Int)) (inner := []) (ok := fun _ => True) (okp := fun _ => True) ?hr ?hp (fun _ hk => hk) trivial (Below.refl _ _) (Nat.le_refl _) (by simp) ?_; (case hd => rfl); (case hg => rfl); (case hr => first | (go_simp; done) | (go_simp; rfl)); (case hp => exact (Reps.none _ _)); intro v175 w3 ho4 hb hg_ hnew_; clear hg_ hnew_; (first | rw [← Ny174.out] at ho4 | (simp only [Int.reduceToNat] at ho4; rw [← Ny174.out] at ho4)); have z_ := p_ (Kd.R_lower ho4 (below_size tq_0)) <| a_ (below_step tq_0 hb); clear HB; obtain ⟨HO176, HB⟩ := z_; clear hb ho4))
 go_loopg [5, 6] k (fun kq v5 v6 w' => ∃ (x5_1 : List Int) (x6_1 : Int), v6 = .int .i64 x6_1 ∧ Aside0 (spec_PagesWith.l0 kq l0 a1 x5_1 x6_1 = some r) ∧ Aside0 (kq ≤ k) ∧ Aside0 (Kd.R (Kd.int .i64) 3 w' w.heap.size (fun _ => True) v5 x5_1) ∧ Aside0 (Below w.heap.size w w'))
 case atStart => exact ⟨(y174), (0), tq_4, H', ⟨Nat.le_refl _⟩, ⟨(by (with_reducible repeat (first | apply Kd.R_alloc | apply Kd.R_drewN | apply Kd.R_drew)); exact HO176.out)⟩, ⟨tq_0⟩⟩
 case round =>
 clear H'
 try clear p2; try clear c3
 obtain ⟨x5_1, x6_1, rfl, HA, HK1, HO_5, HB⟩ := hrel
 cases gk with
 | zero => exact absurd HA.out (by simp [spec_PagesWith.l0])
 | succ k1 =>
 have H := HA.out
 clear HA
 simp only [spec_PagesWith.l0] at H
 by_cases c5 : x6_1 < (l0.length : Int)
 rotate_left
 ·rw [if_neg c5] at H
  have c5b0 := decide_eq_false c5
  clear c5
  obtain rfl := Option.some.inj H
  go_wp2
  go_ret
  exact ⟨_, tq_2, tq_84, tq_0⟩
 rw [if_pos c5] at H
 have c5b0 := decide_eq_true c5
 clear c5
 by_cases c6 : 0 ≤ x6_1
 rotate_left
 ·rw [if_neg c6] at H
  exact absurd H (by simp)
 rw [if_pos c6] at H
 have c6b0 := decide_eq_true c6
 clear c6
 by_cases c7 : (rd l0 x6_1) = a1
 rotate_left
 ·rw [if_neg c7] at H
  have c7b0 := beq_eq_false_iff_ne.mpr c7
  have c7b1 := bne_iff_ne.mpr c7
  have H' := Aside0.mk H
  clear H
  have p177 : 0 ≤ (x6_1 : Int) := of_decide_eq_true tq_3
  have q177 : x6_1 < (l0.length : Int) := of_decide_eq_true tq_3
  obtain ⟨ad177, e177, hx177_0⟩ := Kd.at_int HR0.out x6_1 p177 q177
  cases e177
  replace hx177_0 := hx_ HB.out hx177_0
  replace p177 := eq_true p177
  replace q177 := eq_true q177
  go_wp2
  go_roundg k1
  case measure => have := HK1.out; omega
  case rel => exact ⟨(x5_1), (wrap64 (x6_1 + 1)), tq_4, H', ⟨tq_93⟩, ⟨tq_84⟩, ⟨tq_0⟩⟩
 rw [if_pos c7] at H
 have c7b0 := beq_iff_eq.mpr c7
 have c7b1 := bne_eq_false_iff_eq.mpr c7
 clear c7
 by_cases c8 : x5_1.length < 17592186044416
 rotate_left
 ·rw [if_neg c8] at H
  exact absurd H (by simp)
 rw [if_pos c8] at H
 have LMc8 := Aside0.mk c8
 clear c8
 obtain ⟨y178, hy178⟩ : ∃ y_ : List Int, y_ = (x5_1 ++ [x6_1]) := ⟨_, rfl⟩
 replace H : (spec_PagesWith.l0 k1 l0 a1 y178 (wrap64 (x6_1 + 1))) = some r := by first | (rw [hy178]; with_reducible exact H) | (have H2_ := (Option.bind_some _ _).symm.trans H; rw [hy178]; with_reducible exact H2_) | (have H2_ := (Option.bind_some _ _).symm.trans H; with_reducible exact H2_) | with_reducible exact H | (rw [hy178]; exact H) | exact H
 have Ny178 := Aside0.mk hy178
 clear hy178
 have H' := Aside0.mk H
 clear H
 have p177 : 0 ≤ (x6_1 : Int) := of_decide_eq_true tq_3
 have q177 : x6_1 < (l0.length : Int) := of_decide_eq_true tq_3
 obtain ⟨ad177, e177, hx177_0⟩ := Kd.at_int HR0.out x6_1 p177 q177
 cases e177
 replace hx177_0 := hx_ HB.out hx177_0
 replace p177 := eq_true p177
 replace q177 := eq_true q177
 go_wp2_with (first | ((with_reducible refine gate_builtin (b := .append) (xs := #[.tmp 20, .tmp 22]) rfl ?_); at_builtin; refine Kd.R_append (Kd.int .i64) (w0 := w) w.heap.size rfl (.tmp 20) (.tmp 22) 24 3 (.int .i64 0) 8 rfl Try.underlying24 info3 rfl (by decide) (by omega) u5 x5_1 x6_1 [.int .i64 x6_1] (fun _ => True) (fun _ => False) rfl rfl ?aP (fun _ hk => hk.elim) ?aF ?aO ?aB ?aS ?aL ?_; (case aP => exact rfl); (case aB => exact tq_0); (case aF => exact (fun _ _ => trivial)); (case aO => exact tq_84); (case aS => exact (below_size tq_0)); (case aL => have := LMc8.out; omega); intro v179 w9 ho hb hg hat; rw [← Ny178.out] at ho; have z_ := p_ (hb) <| a_ (ho); clear HB HO_5; obtain ⟨HB, HO180⟩ := z_; clear ho hb hg hat))
 go_roundg k1
 case measure => have := HK1.out; omega
 case rel => exact ⟨(y178), (wrap64 (x6_1 + 1)), tq_4, H', ⟨tq_93⟩, ⟨(by (with_reducible repeat (first | apply Kd.R_alloc | apply Kd.R_drewN | apply Kd.R_drew)); exact HO180.out)⟩, ⟨tq_0⟩⟩

end Go.Proofs.Ytljnnmpfeningaa.PFnExactPartOk
