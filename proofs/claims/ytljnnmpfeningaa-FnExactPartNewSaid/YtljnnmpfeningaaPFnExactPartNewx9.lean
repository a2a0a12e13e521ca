/- Contracts of Go functions, written by a program of ours over the print of the kit: each says that the call returns what the Lean function beside it computes. Conditions: as each theorem states them. -/
import Derived.Test.YtljnnmpfeningaaPkFnExactPartNew
import Derived.Test.YtljnnmpfeningaaPFnExactPartNewx0
import Derived.Test.YtljnnmpfeningaaPFnExactPartNewx7
import Derived.Test.YtljnnmpfeningaaPFnExactPartNewx8
namespace Go.Proofs.Ytljnnmpfeningaa.PFnExactPartNew
open Go.RowKit Go.Proofs.YtljnnmpfeningaaW.PrintWords Go.Proofs.YtljnnmpfeningaaW.PrintLast Go.Proofs.YtljnnmpfeningaaW.PrintMore
attribute [local go_sem] max2_int min2_int max_two min_two max_three min_three max_four min_four   -- for this text's walks alone
set_option linter.unusedVariables false
set_option linter.unusedSimpArgs false

/-! ### laws_heldInodeS: function 66 -/
def laws_heldInodeS.l0 : Nat → List (S64) → Int → Int → Option (Int)
 | 0, _, _, _ => none
 | k + 1, x0, x1, x5 => if x5 < (x0.length : Int) then (if 0 ≤ x5 then (if ((rd_T64 x0 x5).f0) = x1 then (if ((rd_T64 x0 x5).f1) = (wrap64 (x1 + 1)) then (if ((rd_T64 x0 x5).f2) = (wrap64 ((wrap64 (x1 + 1)) + 1)) then ((laws_markText.f k (wrap64 ((wrap64 ((wrap64 (x1 + 1)) + 1)) + 1))).bind fun t192 => (if ((rd_T64 x0 x5).f3).toList = t192.toList then ((laws_heldRecS.f k ((rd_T64 x0 x5).f4) (wrap64 ((wrap64 ((wrap64 ((wrap64 (x1 + 1)) + 1)) + 1)) + 1))).bind fun t194 => (if t194 < 0 then (some (-1)) else ((laws_heldEntryS.f k ((rd_T64 x0 x5).f5) t194).bind fun t196 => (if t196 < 0 then (some (-1)) else (laws_heldInodeS.l0 k x0 t196 (wrap64 (x5 + 1))))))) else (some (-1)))) else (some (-1))) else (some (-1))) else (some (-1))) else (none)) else (some x1)
def laws_heldInodeS.f (k : Nat) (l0 : List (S64)) (a1 : Int) : Option (Int) := laws_heldInodeS.l0 k l0 a1 0
theorem laws_heldInodeS.mono_l : ∀ k, (∀ y0 y1 y2, LeO (laws_heldInodeS.l0 k y0 y1 y2) (laws_heldInodeS.l0 (k + 1) y0 y1 y2))
 | 0 => fun _ _ _ r h => by simp [laws_heldInodeS.l0] at h
 | k + 1 => by
  have ih0 := laws_heldInodeS.mono_l k
  ·intro y0 y1 y2
   unfold laws_heldInodeS.l0
   repeat' first
   | (with_reducible exact ih0 ..)
   | (with_reducible exact laws_heldEntryS.mono ..)
   | (with_reducible exact laws_heldRecS.mono ..)
   | (with_reducible exact laws_markText.mono ..)
   | (with_reducible exact LeO.refl _)
   | (with_reducible exact LeO.none _)
   | (with_reducible refine LeO.ite ?_ ?_)
   | (with_reducible refine LeO.bind ?_ (fun _ => ?_))
   | exact ih0 ..
   | exact laws_heldEntryS.mono ..
   | exact laws_heldRecS.mono ..
   | exact laws_markText.mono ..
   | exact LeO.none _
   | refine LeO.ite ?_ ?_
   | refine LeO.bind ?_ (fun _ => ?_)
theorem laws_heldInodeS.mono : ∀ a0 a1 k, LeO (laws_heldInodeS.f k a0 a1) (laws_heldInodeS.f (k + 1) a0 a1) := by
 intro a0 a1 k
 have ih0 := laws_heldInodeS.mono_l k
 unfold laws_heldInodeS.f
 repeat' first
   | (with_reducible exact ih0 ..)
   | (with_reducible exact laws_heldEntryS.mono ..)
   | (with_reducible exact laws_heldRecS.mono ..)
   | (with_reducible exact laws_markText.mono ..)
   | (with_reducible exact LeO.refl _)
   | (with_reducible exact LeO.none _)
   | (with_reducible refine LeO.ite ?_ ?_)
   | (with_reducible refine LeO.bind ?_ (fun _ => ?_))
   | exact ih0 ..
   | exact laws_heldEntryS.mono ..
   | exact laws_heldRecS.mono ..
   | exact laws_markText.mono ..
   | exact LeO.none _
   | refine LeO.ite ?_ ?_
   | refine LeO.bind ?_ (fun _ => ?_)
def laws_heldInodeS.T13 : Bool × List (List Nat × List Nat) := (true, [([], []), ([], []), ([0, 1], [0, 1]), ([2], [2]), ([3], [3]), ([], []), ([5], [5]), ([4, 6], [4, 6])])
def laws_heldInodeS.B13 : List Nat := [0, 0, 3, 7, 15, 0, 32, 127]
theorem laws_heldInodeS.tab13 : rtab .any (opsOf Try.f66 13) = laws_heldInodeS.T13 := by kernel_rfl
theorem laws_heldInodeS.bits13 : waitsOk laws_heldInodeS.T13.2 laws_heldInodeS.B13 = true := by kernel_rfl
set_option maxHeartbeats 8000000 in
set_option maxRecDepth 100000 in
theorem laws_heldInodeS.calls (k : Nat) (A0 : Option Addr) (c0 : Nat) (l0 : List (S64)) (a1 : Int) (r : Int) (w : World) (hr0 : Kd.C k64 w A0 l0.length l0) (hc0 : l0.length ≤ c0) (h : laws_heldInodeS.f k l0 a1 = some r) :
  Calls Try.prog 66 #[.slice A0 l0.length c0, .int .i64 a1] w fun e w' => e = .returned (.int .i64 r) ∧ Below w.heap.size w w' := by
 have HR0 := Aside0.mk hr0
 have HC0 := Aside0.mk hc0
 clear hr0 hc0
 have HB := Aside0.mk (Below.refl w.heap.size w)
 unfold laws_heldInodeS.f at h
 have H := h
 clear h
 have H' := Aside0.mk H
 clear H
 go_enter Try.func66, Try.ntmps66
 go_wp2
 go_loopg [1, 5] k (fun kq v1 v5 w' => ∃ (x1_1 : Int) (x5_1 : Int), v1 = .int .i64 x1_1 ∧ v5 = .int .i64 x5_1 ∧ Aside0 (laws_heldInodeS.l0 kq l0 x1_1 x5_1 = some r) ∧ Aside0 (kq ≤ k) ∧ Aside0 (Below w.heap.size w w'))
 case atStart => exact ⟨(a1), (0), tq_13, tq_13, H', ⟨Nat.le_refl _⟩, ⟨th_⟩⟩
 case round =>
 clear H'
 try clear p2
 obtain ⟨x1_1, x5_1, rfl, rfl, HA, HK1, HB⟩ := hrel
 cases gk with
 | zero => exact absurd HA.out (by simp [laws_heldInodeS.l0])
 | succ k1 =>
 have H := HA.out
 clear HA
 simp only [laws_heldInodeS.l0] at H
 by_cases c3 : x5_1 < (l0.length : Int)
 rotate_left
 ·rw [if_neg c3] at H
  have c3b0 := decide_eq_false c3
  clear c3
  obtain rfl := Option.some.inj H
  go_wp2
  go_ret
  exact ⟨tq_2, th_⟩
 rw [if_pos c3] at H
 have c3b0 := decide_eq_true c3
 clear c3
 obtain ⟨c4, H⟩ := fc_ H
 have c4b0 := decide_eq_true c4
 clear c4
 by_cases c5 : ((rd_T64 l0 x5_1).f0) = x1_1
 rotate_left
 ·rw [if_neg c5] at H
  have c5b0 := beq_eq_false_iff_ne.mpr c5
  have c5b1 := bne_iff_ne.mpr c5
  obtain rfl := Option.some.inj H
  have p188 : 0 ≤ (x5_1 : Int) := of_decide_eq_true tq_1
  have q188 : x5_1 < (l0.length : Int) := of_decide_eq_true tq_1
  obtain ⟨ad188, A188_4, c188_4, A188_5, c188_5, e188, hx188_0, hx188_1, hx188_2, hx188_3, hx188_4, hx188_5, hl188_4, hi188_4, hl188_5, hi188_5⟩ := at_T64 HR0.out x5_1 p188 q188
  cases e188
  replace hx188_0 := hx_ HB.out hx188_0
  replace hx188_1 := hx_ HB.out hx188_1
  replace hx188_2 := hx_ HB.out hx188_2
  replace hx188_3 := hx_ HB.out hx188_3
  replace hx188_4 := hx_ HB.out hx188_4
  replace hx188_5 := hx_ HB.out hx188_5
  have HR188_4 := Aside0.mk hi188_4
  have HC188_4 := Aside0.mk hl188_4
  clear hi188_4 hl188_4
  have HR188_5 := Aside0.mk hi188_5
  have HC188_5 := Aside0.mk hl188_5
  clear hi188_5 hl188_5
  replace p188 := eq_true p188
  replace q188 := eq_true q188
  go_wp2
  go_ret
  exact ⟨tq_2, th_⟩
 rw [if_pos c5] at H
 have c5b0 := beq_iff_eq.mpr c5
 have c5b1 := bne_eq_false_iff_eq.mpr c5
 clear c5
 by_cases c6 : ((rd_T64 l0 x5_1).f1) = (wrap64 (x1_1 + 1))
 rotate_left
 ·rw [if_neg c6] at H
  have c6b0 := beq_eq_false_iff_ne.mpr c6
  have c6b1 := bne_iff_ne.mpr c6
  obtain rfl := Option.some.inj H
  have p188 : 0 ≤ (x5_1 : Int) := of_decide_eq_true tq_1
  have q188 : x5_1 < (l0.length : Int) := of_decide_eq_true tq_1
  obtain ⟨ad188, A188_4, c188_4, A188_5, c188_5, e188, hx188_0, hx188_1, hx188_2, hx188_3, hx188_4, hx188_5, hl188_4, hi188_4, hl188_5, hi188_5⟩ := at_T64 HR0.out x5_1 p188 q188
  cases e188
  replace hx188_0 := hx_ HB.out hx188_0
  replace hx188_1 := hx_ HB.out hx188_1
  replace hx188_2 := hx_ HB.out hx188_2
  replace hx188_3 := hx_ HB.out hx188_3
  replace hx188_4 := hx_ HB.out hx188_4
  replace hx188_5 := hx_ HB.out hx188_5
  have HR188_4 := Aside0.mk hi188_4
  have HC188_4 := Aside0.mk hl188_4
  clear hi188_4 hl188_4
  have HR188_5 := Aside0.mk hi188_5
  have HC188_5 := Aside0.mk hl188_5
  clear hi188_5 hl188_5
  replace p188 := eq_true p188
  replace q188 := eq_true q188
  have p189 : 0 ≤ (x5_1 : Int) := of_decide_eq_true tq_1
  have q189 : x5_1 < (l0.length : Int) := of_decide_eq_true tq_1
  obtain ⟨ad189, A189_4, c189_4, A189_5, c189_5, e189, hx189_0, hx189_1, hx189_2, hx189_3, hx189_4, hx189_5, hl189_4, hi189_4, hl189_5, hi189_5⟩ := at_T64 HR0.out x5_1 p189 q189
  obtain rfl : ad188 = ad189 := (by injection e189)
  replace hx189_0 := hx_ HB.out hx189_0
  replace hx189_1 := hx_ HB.out hx189_1
  replace hx189_2 := hx_ HB.out hx189_2
  replace hx189_3 := hx_ HB.out hx189_3
  replace hx189_4 := hx_ HB.out hx189_4
  replace hx189_5 := hx_ HB.out hx189_5
  have HR189_4 := Aside0.mk hi189_4
  have HC189_4 := Aside0.mk hl189_4
  clear hi189_4 hl189_4
  have HR189_5 := Aside0.mk hi189_5
  have HC189_5 := Aside0.mk hl189_5
  clear hi189_5 hl189_5
  replace p189 := eq_true p189
  replace q189 := eq_true q189
  have ea_ := Option.some.inj (hx188_4.symm.trans hx189_4)
  injection ea_ with ea_ en_ ec_
  subst ea_
  subst ec_
  clear en_
  have ea_ := Option.some.inj (hx188_5.symm.trans hx189_5)
  injection ea_ with ea_ en_ ec_
  subst ea_
  subst ec_
  clear en_
  go_wp2
  go_ret
  exact ⟨tq_2, th_⟩
 rw [if_pos c6] at H
 have c6b0 := beq_iff_eq.mpr c6
 have c6b1 := bne_eq_false_iff_eq.mpr c6
 clear c6
 by_cases c7 : ((rd_T64 l0 x5_1).f2) = (wrap64 ((wrap64 (x1_1 + 1)) + 1))
 rotate_left
 ·rw [if_neg c7] at H
  have c7b0 := beq_eq_false_iff_ne.mpr c7
  have c7b1 := bne_iff_ne.mpr c7
  obtain rfl := Option.some.inj H
  have p188 : 0 ≤ (x5_1 : Int) := of_decide_eq_true tq_1
  have q188 : x5_1 < (l0.length : Int) := of_decide_eq_true tq_1
  obtain ⟨ad188, A188_4, c188_4, A188_5, c188_5, e188, hx188_0, hx188_1, hx188_2, hx188_3, hx188_4, hx188_5, hl188_4, hi188_4, hl188_5, hi188_5⟩ := at_T64 HR0.out x5_1 p188 q188
  cases e188
  replace hx188_0 := hx_ HB.out hx188_0
  replace hx188_1 := hx_ HB.out hx188_1
  replace hx188_2 := hx_ HB.out hx188_2
  replace hx188_3 := hx_ HB.out hx188_3
  replace hx188_4 := hx_ HB.out hx188_4
  replace hx188_5 := hx_ HB.out hx188_5
  have HR188_4 := Aside0.mk hi188_4
  have HC188_4 := Aside0.mk hl188_4
  clear hi188_4 hl188_4
  have HR188_5 := Aside0.mk hi188_5
  have HC188_5 := Aside0.mk hl188_5
  clear hi188_5 hl188_5
  replace p188 := eq_true p188
  replace q188 := eq_true q188
  have p189 : 0 ≤ (x5_1 : Int) := of_decide_eq_true tq_1
  have q189 : x5_1 < (l0.length : Int) := of_decide_eq_true tq_1
  obtain ⟨ad189, A189_4, c189_4, A189_5, c189_5, e189, hx189_0, hx189_1, hx189_2, hx189_3, hx189_4, hx189_5, hl189_4, hi189_4, hl189_5, hi189_5⟩ := at_T64 HR0.out x5_1 p189 q189
  obtain rfl : ad188 = ad189 := (by injection e189)
  replace hx189_0 := hx_ HB.out hx189_0
  replace hx189_1 := hx_ HB.out hx189_1
  replace hx189_2 := hx_ HB.out hx189_2
  replace hx189_3 := hx_ HB.out hx189_3
  replace hx189_4 := hx_ HB.out hx189_4
  replace hx189_5 := hx_ HB.out hx189_5
  have HR189_4 := Aside0.mk hi189_4
  have HC189_4 := Aside0.mk hl189_4
  clear hi189_4 hl189_4
  have HR189_5 := Aside0.mk hi189_5
  have HC189_5 := Aside0.mk hl189_5
  clear hi189_5 hl189_5
  replace p189 := eq_true p189
  replace q189 := eq_true q189
  have ea_ := Option.some.inj (hx188_4.symm.trans hx189_4)
  injection ea_ with ea_ en_ ec_
  subst ea_
  subst ec_
  clear en_
  have ea_ := Option.some.inj (hx188_5.symm.trans hx189_5)
  injection ea_ with ea_ en_ ec_
  subst ea_
  subst ec_
  clear en_
  have p190 : 0 ≤ (x5_1 : Int) := of_decide_eq_true tq_1
  have q190 : x5_1 < (l0.length : Int) := of_decide_eq_true tq_1
  obtain ⟨ad190, A190_4, c190_4, A190_5, c190_5, e190, hx190_0, hx190_1, hx190_2, hx190_3, hx190_4, hx190_5, hl190_4, hi190_4, hl190_5, hi190_5⟩ := at_T64 HR0.out x5_1 p190 q190
  obtain rfl : ad188 = ad190 := (by injection e190)
  replace hx190_0 := hx_ HB.out hx190_0
  replace hx190_1 := hx_ HB.out hx190_1
  replace hx190_2 := hx_ HB.out hx190_2
  replace hx190_3 := hx_ HB.out hx190_3
  replace hx190_4 := hx_ HB.out hx190_4
  replace hx190_5 := hx_ HB.out hx190_5
  have HR190_4 := Aside0.mk hi190_4
  have HC190_4 := Aside0.mk hl190_4
  clear hi190_4 hl190_4
  have HR190_5 := Aside0.mk hi190_5
  have HC190_5 := Aside0.mk hl190_5
  clear hi190_5 hl190_5
  replace p190 := eq_true p190
  replace q190 := eq_true q190
  have ea_ := Option.some.inj (hx188_4.symm.trans hx190_4)
  injection ea_ with ea_ en_ ec_
  subst ea_
  subst ec_
  clear en_
  have ea_ := Option.some.inj (hx188_5.symm.trans hx190_5)
  injection ea_ with ea_ en_ ec_
  subst ea_
  subst ec_
  clear en_
  go_wp2
  go_ret
  exact ⟨tq_2, th_⟩
 rw [if_pos c7] at H
 have c7b0 := beq_iff_eq.mpr c7
 have c7b1 := bne_eq_false_iff_eq.mpr c7
 clear c7
 obtain ⟨t192, A8, H⟩ := bd_ H
 by_cases c9 : ((rd_T64 l0 x5_1).f3).toList = t192.toList
 rotate_left
 ·rw [if_neg c9] at H
  have c9b0 := beq_eq_false_iff_ne.mpr c9
  have c9b1 := bne_iff_ne.mpr c9
  obtain rfl := Option.some.inj H
  have p188 : 0 ≤ (x5_1 : Int) := of_decide_eq_true tq_1
  have q188 : x5_1 < (l0.length : Int) := of_decide_eq_true tq_1
  obtain ⟨ad188, A188_4, c188_4, A188_5, c188_5, e188, hx188_0, hx188_1, hx188_2, hx188_3, hx188_4, hx188_5, hl188_4, hi188_4, hl188_5, hi188_5⟩ := at_T64 HR0.out x5_1 p188 q188
  cases e188
  replace hx188_0 := hx_ HB.out hx188_0
  replace hx188_1 := hx_ HB.out hx188_1
  replace hx188_2 := hx_ HB.out hx188_2
  replace hx188_3 := hx_ HB.out hx188_3
  replace hx188_4 := hx_ HB.out hx188_4
  replace hx188_5 := hx_ HB.out hx188_5
  have HR188_4 := Aside0.mk hi188_4
  have HC188_4 := Aside0.mk hl188_4
  clear hi188_4 hl188_4
  have HR188_5 := Aside0.mk hi188_5
  have HC188_5 := Aside0.mk hl188_5
  clear hi188_5 hl188_5
  replace p188 := eq_true p188
  replace q188 := eq_true q188
  have p189 : 0 ≤ (x5_1 : Int) := of_decide_eq_true tq_1
  have q189 : x5_1 < (l0.length : Int) := of_decide_eq_true tq_1
  obtain ⟨ad189, A189_4, c189_4, A189_5, c189_5, e189, hx189_0, hx189_1, hx189_2, hx189_3, hx189_4, hx189_5, hl189_4, hi189_4, hl189_5, hi189_5⟩ := at_T64 HR0.out x5_1 p189 q189
  obtain rfl : ad188 = ad189 := (by injection e189)
  replace hx189_0 := hx_ HB.out hx189_0
  replace hx189_1 := hx_ HB.out hx189_1
  replace hx189_2 := hx_ HB.out hx189_2
  replace hx189_3 := hx_ HB.out hx189_3
  replace hx189_4 := hx_ HB.out hx189_4
  replace hx189_5 := hx_ HB.out hx189_5
  have HR189_4 := Aside0.mk hi189_4
  have HC189_4 := Aside0.mk hl189_4
  clear hi189_4 hl189_4
  have HR189_5 := Aside0.mk hi189_5
  have HC189_5 := Aside0.mk hl189_5
  clear hi189_5 hl189_5
  replace p189 := eq_true p189
  replace q189 := eq_true q189
  have ea_ := Option.some.inj (hx188_4.symm.trans hx189_4)
  injection ea_ with ea_ en_ ec_
  subst ea_
  subst ec_
  clear en_
  have ea_ := Option.some.inj (hx188_5.symm.trans hx189_5)
  injection ea_ with ea_ en_ ec_
  subst ea_
  subst ec_
  clear en_
  have p190 : 0 ≤ (x5_1 : Int) := of_decide_eq_true tq_1
  have q190 : x5_1 < (l0.length : Int) := of_decide_eq_true tq_1
  obtain ⟨ad190, A190_4, c190_4, A190_5, c190_5, e190, hx190_0, hx190_1, hx190_2, hx190_3, hx190_4, hx190_5, hl190_4, hi190_4, hl190_5, hi190_5⟩ := at_T64 HR0.out x5_1 p190 q190
  obtain rfl : ad188 = ad190 := (by injection e190)
  replace hx190_0 := hx_ HB.out hx190_0
  replace hx190_1 := hx_ HB.out hx190_1
  replace hx190_2 := hx_ HB.out hx190_2
  replace hx190_3 := hx_ HB.out hx190_3
  replace hx190_4 := hx_ HB.out hx190_4
  replace hx190_5 := hx_ HB.out hx190_5
  have HR190_4 := Aside0.mk hi190_4
  have HC190_4 := Aside0.mk hl190_4
  clear hi190_4 hl190_4
  have HR190_5 := Aside0.mk hi190_5
  have HC190_5 := Aside0.mk hl190_5
  clear hi190_5 hl190_5
  replace p190 := eq_true p190
  replace q190 := eq_true q190
  have ea_ := Option.some.inj (hx188_4.symm.trans hx190_4)
  injection ea_ with ea_ en_ ec_
  subst ea_
  subst ec_
  clear en_
  have ea_ := Option.some.inj (hx188_5.symm.trans hx190_5)
  injection ea_ with ea_ en_ ec_
  subst ea_
  subst ec_
  clear en_
  try go_wp2
  have n0_ := Aside0.mk (below_drew1 HB.out)
  clear HB
  have HB := n0_
  clear n0_
  have p191 : 0 ≤ (x5_1 : Int) := of_decide_eq_true tq_1
  have q191 : x5_1 < (l0.length : Int) := of_decide_eq_true tq_1
  obtain ⟨ad191, A191_4, c191_4, A191_5, c191_5, e191, hx191_0, hx191_1, hx191_2, hx191_3, hx191_4, hx191_5, hl191_4, hi191_4, hl191_5, hi191_5⟩ := at_T64 HR0.out x5_1 p191 q191
  have hw191_5 := hx191_5
  have hw191_4 := hx191_4
  have hw191_3 := hx191_3
  have hw191_2 := hx191_2
  have hw191_1 := hx191_1
  have hw191_0 := hx191_0
  obtain rfl : ad188 = ad191 := (by injection e191)
  replace hx191_0 := hx_ HB.out hx191_0
  replace hx191_1 := hx_ HB.out hx191_1
  replace hx191_2 := hx_ HB.out hx191_2
  replace hx191_3 := hx_ HB.out hx191_3
  replace hx191_4 := hx_ HB.out hx191_4
  replace hx191_5 := hx_ HB.out hx191_5
  have HR191_4 := Aside0.mk hi191_4
  have HC191_4 := Aside0.mk hl191_4
  clear hi191_4 hl191_4
  have HR191_5 := Aside0.mk hi191_5
  have HC191_5 := Aside0.mk hl191_5
  clear hi191_5 hl191_5
  replace p191 := eq_true p191
  replace q191 := eq_true q191
  refine start_ (n := 8) (S := fun w' => w'.cell? (ad188.add ((x5_1).toNat * 6)) = some (.int .i64 ((rd_T64 l0 x5_1).f0)) ∧ w'.cell? ⟨(ad188.add ((x5_1).toNat * 6)).block, (ad188.add ((x5_1).toNat * 6)).off + 1, none⟩ = some (.int .i64 ((rd_T64 l0 x5_1).f1)) ∧ w'.cell? ⟨(ad188.add ((x5_1).toNat * 6)).block, (ad188.add ((x5_1).toNat * 6)).off + 2, none⟩ = some (.int .i64 ((rd_T64 l0 x5_1).f2)) ∧ w'.cell? ⟨(ad188.add ((x5_1).toNat * 6)).block, (ad188.add ((x5_1).toNat * 6)).off + 3, none⟩ = some (.string ((rd_T64 l0 x5_1).f3)) ∧ w'.cell? ⟨(ad188.add ((x5_1).toNat * 6)).block, (ad188.add ((x5_1).toNat * 6)).off + 4, none⟩ = some (.slice A191_4 ((rd_T64 l0 x5_1).f4).length c191_4) ∧ w'.cell? ⟨(ad188.add ((x5_1).toNat * 6)).block, (ad188.add ((x5_1).toNat * 6)).off + 5, none⟩ = some (.slice A191_5 ((rd_T64 l0 x5_1).f5).length c191_5)) (ds := []) bq_1 (by kernel_rfl) rfl rfl ⟨((HB.out.cell (World.block_lt_of_cell? w _ hw191_0)).trans hw191_0), ((HB.out.cell (World.block_lt_of_cell? w _ hw191_1)).trans hw191_1), ((HB.out.cell (World.block_lt_of_cell? w _ hw191_2)).trans hw191_2), ((HB.out.cell (World.block_lt_of_cell? w _ hw191_3)).trans hw191_3), ((HB.out.cell (World.block_lt_of_cell? w _ hw191_4)).trans hw191_4), ((HB.out.cell (World.block_lt_of_cell? w _ hw191_5)).trans hw191_5)⟩ (fun hHeld => ?_); refine with_tabW laws_heldInodeS.tab13 laws_heldInodeS.bits13 (fun HT_ HW_ => ?_)
  generalize wr.drew = w25 at HB HR191_4 HR191_5 hx191_0 hx191_1 hx191_2 hx191_3 hx191_4 hx191_5 hHeld ⊢
  refine yr_ 0 39 bq_2 HT_ ?_
  refine yr_ 1 40 bq_3 HT_ ?_
  refine yr_ 2 41 bq_4 HT_ ?_
  refine yr_ 3 42 bq_5 HT_ ?_
  refine yr_ 5 44 bq_6 HT_ ?_
  refine tr_ 4 43 bq_7 HT_ HW_ hHeld ?_
  refine one_ (i := 6) (N := some 45) bq_8 rfl rfl (one_of HT_.out (by kernel_rfl)) (by decide) (fun K hK => ?_)
  refine goes_ Try.func88 (by kernel_rfl) rfl #[.int .i64 (wrap64 ((wrap64 ((wrap64 (x1_1 + 1)) + 1)) + 1))] (by rfl) rfl rfl tq_0 ?_
  with_reducible refine (laws_markText.calls k1 (wrap64 ((wrap64 ((wrap64 (x1_1 + 1)) + 1)) + 1)) t192 _ A8.out).mono ?_
  rintro e w26 ⟨rfl, hb⟩
  refine ⟨_, rfl, ?_⟩
  have n0_ := Aside0.mk (below_step th_ hb)
  clear HB
  have HB := n0_
  clear n0_
  (try clear hb)
  refine hK.out _ _ ⟨((HB.out.cell (World.block_lt_of_cell? w _ hw191_0)).trans hw191_0), ((HB.out.cell (World.block_lt_of_cell? w _ hw191_1)).trans hw191_1), ((HB.out.cell (World.block_lt_of_cell? w _ hw191_2)).trans hw191_2), ((HB.out.cell (World.block_lt_of_cell? w _ hw191_3)).trans hw191_3), ((HB.out.cell (World.block_lt_of_cell? w _ hw191_4)).trans hw191_4), ((HB.out.cell (World.block_lt_of_cell? w _ hw191_5)).trans hw191_5)⟩ (fun hHeld => ?_)
  clear hK K
  refine nm_ (some 45) ?_
  refine yr_ 7 46 bq_9 HT_ ?_
  refine done_ (done_of HT_.out (by kernel_rfl)) ?_
  try go_wp2
  go_ret
  exact ⟨tq_2, th_⟩
 rw [if_pos c9] at H
 have c9b0 := beq_iff_eq.mpr c9
 have c9b1 := bne_eq_false_iff_eq.mpr c9
 clear c9
 obtain ⟨t194, A10, H⟩ := bd_ H
 by_cases c11 : t194 < 0
 ·rw [if_pos c11] at H
  have c11b0 := decide_eq_true c11
  clear c11
  obtain rfl := Option.some.inj H
  have p188 : 0 ≤ (x5_1 : Int) := of_decide_eq_true tq_1
  have q188 : x5_1 < (l0.length : Int) := of_decide_eq_true tq_1
  obtain ⟨ad188, A188_4, c188_4, A188_5, c188_5, e188, hx188_0, hx188_1, hx188_2, hx188_3, hx188_4, hx188_5, hl188_4, hi188_4, hl188_5, hi188_5⟩ := at_T64 HR0.out x5_1 p188 q188
  cases e188
  replace hx188_0 := hx_ HB.out hx188_0
  replace hx188_1 := hx_ HB.out hx188_1
  replace hx188_2 := hx_ HB.out hx188_2
  replace hx188_3 := hx_ HB.out hx188_3
  replace hx188_4 := hx_ HB.out hx188_4
  replace hx188_5 := hx_ HB.out hx188_5
  have HR188_4 := Aside0.mk hi188_4
  have HC188_4 := Aside0.mk hl188_4
  clear hi188_4 hl188_4
  have HR188_5 := Aside0.mk hi188_5
  have HC188_5 := Aside0.mk hl188_5
  clear hi188_5 hl188_5
  replace p188 := eq_true p188
  replace q188 := eq_true q188
  have p189 : 0 ≤ (x5_1 : Int) := of_decide_eq_true tq_1
  have q189 : x5_1 < (l0.length : Int) := of_decide_eq_true tq_1
  obtain ⟨ad189, A189_4, c189_4, A189_5, c189_5, e189, hx189_0, hx189_1, hx189_2, hx189_3, hx189_4, hx189_5, hl189_4, hi189_4, hl189_5, hi189_5⟩ := at_T64 HR0.out x5_1 p189 q189
  obtain rfl : ad188 = ad189 := (by injection e189)
  replace hx189_0 := hx_ HB.out hx189_0
  replace hx189_1 := hx_ HB.out hx189_1
  replace hx189_2 := hx_ HB.out hx189_2
  replace hx189_3 := hx_ HB.out hx189_3
  replace hx189_4 := hx_ HB.out hx189_4
  replace hx189_5 := hx_ HB.out hx189_5
  have HR189_4 := Aside0.mk hi189_4
  have HC189_4 := Aside0.mk hl189_4
  clear hi189_4 hl189_4
  have HR189_5 := Aside0.mk hi189_5
  have HC189_5 := Aside0.mk hl189_5
  clear hi189_5 hl189_5
  replace p189 := eq_true p189
  replace q189 := eq_true q189
  have ea_ := Option.some.inj (hx188_4.symm.trans hx189_4)
  injection ea_ with ea_ en_ ec_
  subst ea_
  subst ec_
  clear en_
  have ea_ := Option.some.inj (hx188_5.symm.trans hx189_5)
  injection ea_ with ea_ en_ ec_
  subst ea_
  subst ec_
  clear en_
  have p190 : 0 ≤ (x5_1 : Int) := of_decide_eq_true tq_1
  have q190 : x5_1 < (l0.length : Int) := of_decide_eq_true tq_1
  obtain ⟨ad190, A190_4, c190_4, A190_5, c190_5, e190, hx190_0, hx190_1, hx190_2, hx190_3, hx190_4, hx190_5, hl190_4, hi190_4, hl190_5, hi190_5⟩ := at_T64 HR0.out x5_1 p190 q190
  obtain rfl : ad188 = ad190 := (by injection e190)
  replace hx190_0 := hx_ HB.out hx190_0
  replace hx190_1 := hx_ HB.out hx190_1
  replace hx190_2 := hx_ HB.out hx190_2
  replace hx190_3 := hx_ HB.out hx190_3
  replace hx190_4 := hx_ HB.out hx190_4
  replace hx190_5 := hx_ HB.out hx190_5
  have HR190_4 := Aside0.mk hi190_4
  have HC190_4 := Aside0.mk hl190_4
  clear hi190_4 hl190_4
  have HR190_5 := Aside0.mk hi190_5
  have HC190_5 := Aside0.mk hl190_5
  clear hi190_5 hl190_5
  replace p190 := eq_true p190
  replace q190 := eq_true q190
  have ea_ := Option.some.inj (hx188_4.symm.trans hx190_4)
  injection ea_ with ea_ en_ ec_
  subst ea_
  subst ec_
  clear en_
  have ea_ := Option.some.inj (hx188_5.symm.trans hx190_5)
  injection ea_ with ea_ en_ ec_
  subst ea_
  subst ec_
  clear en_
  try go_wp2
  have n0_ := Aside0.mk (below_drew1 HB.out)
  clear HB
  have HB := n0_
  clear n0_
  have p191 : 0 ≤ (x5_1 : Int) := of_decide_eq_true tq_1
  have q191 : x5_1 < (l0.length : Int) := of_decide_eq_true tq_1
  obtain ⟨ad191, A191_4, c191_4, A191_5, c191_5, e191, hx191_0, hx191_1, hx191_2, hx191_3, hx191_4, hx191_5, hl191_4, hi191_4, hl191_5, hi191_5⟩ := at_T64 HR0.out x5_1 p191 q191
  have hw191_5 := hx191_5
  have hw191_4 := hx191_4
  have hw191_3 := hx191_3
  have hw191_2 := hx191_2
  have hw191_1 := hx191_1
  have hw191_0 := hx191_0
  obtain rfl : ad188 = ad191 := (by injection e191)
  replace hx191_0 := hx_ HB.out hx191_0
  replace hx191_1 := hx_ HB.out hx191_1
  replace hx191_2 := hx_ HB.out hx191_2
  replace hx191_3 := hx_ HB.out hx191_3
  replace hx191_4 := hx_ HB.out hx191_4
  replace hx191_5 := hx_ HB.out hx191_5
  have HR191_4 := Aside0.mk hi191_4
  have HC191_4 := Aside0.mk hl191_4
  clear hi191_4 hl191_4
  have HR191_5 := Aside0.mk hi191_5
  have HC191_5 := Aside0.mk hl191_5
  clear hi191_5 hl191_5
  replace p191 := eq_true p191
  replace q191 := eq_true q191
  refine start_ (n := 8) (S := fun w' => w'.cell? (ad188.add ((x5_1).toNat * 6)) = some (.int .i64 ((rd_T64 l0 x5_1).f0)) ∧ w'.cell? ⟨(ad188.add ((x5_1).toNat * 6)).block, (ad188.add ((x5_1).toNat * 6)).off + 1, none⟩ = some (.int .i64 ((rd_T64 l0 x5_1).f1)) ∧ w'.cell? ⟨(ad188.add ((x5_1).toNat * 6)).block, (ad188.add ((x5_1).toNat * 6)).off + 2, none⟩ = some (.int .i64 ((rd_T64 l0 x5_1).f2)) ∧ w'.cell? ⟨(ad188.add ((x5_1).toNat * 6)).block, (ad188.add ((x5_1).toNat * 6)).off + 3, none⟩ = some (.string ((rd_T64 l0 x5_1).f3)) ∧ w'.cell? ⟨(ad188.add ((x5_1).toNat * 6)).block, (ad188.add ((x5_1).toNat * 6)).off + 4, none⟩ = some (.slice A191_4 ((rd_T64 l0 x5_1).f4).length c191_4) ∧ w'.cell? ⟨(ad188.add ((x5_1).toNat * 6)).block, (ad188.add ((x5_1).toNat * 6)).off + 5, none⟩ = some (.slice A191_5 ((rd_T64 l0 x5_1).f5).length c191_5)) (ds := []) bq_1 (by kernel_rfl) rfl rfl ⟨((HB.out.cell (World.block_lt_of_cell? w _ hw191_0)).trans hw191_0), ((HB.out.cell (World.block_lt_of_cell? w _ hw191_1)).trans hw191_1), ((HB.out.cell (World.block_lt_of_cell? w _ hw191_2)).trans hw191_2), ((HB.out.cell (World.block_lt_of_cell? w _ hw191_3)).trans hw191_3), ((HB.out.cell (World.block_lt_of_cell? w _ hw191_4)).trans hw191_4), ((HB.out.cell (World.block_lt_of_cell? w _ hw191_5)).trans hw191_5)⟩ (fun hHeld => ?_); refine with_tabW laws_heldInodeS.tab13 laws_heldInodeS.bits13 (fun HT_ HW_ => ?_)
  generalize wr.drew = w12 at HB HR191_4 HR191_5 hx191_0 hx191_1 hx191_2 hx191_3 hx191_4 hx191_5 hHeld ⊢
  refine yr_ 0 39 bq_2 HT_ ?_
  refine yr_ 1 40 bq_3 HT_ ?_
  refine yr_ 2 41 bq_4 HT_ ?_
  refine yr_ 3 42 bq_5 HT_ ?_
  refine yr_ 5 44 bq_6 HT_ ?_
  refine tr_ 4 43 bq_7 HT_ HW_ hHeld ?_
  refine one_ (i := 6) (N := some 45) bq_8 rfl rfl (one_of HT_.out (by kernel_rfl)) (by decide) (fun K hK => ?_)
  refine goes_ Try.func88 (by kernel_rfl) rfl #[.int .i64 (wrap64 ((wrap64 ((wrap64 (x1_1 + 1)) + 1)) + 1))] (by rfl) rfl rfl tq_0 ?_
  with_reducible refine (laws_markText.calls k1 (wrap64 ((wrap64 ((wrap64 (x1_1 + 1)) + 1)) + 1)) t192 _ A8.out).mono ?_
  rintro e w13 ⟨rfl, hb⟩
  refine ⟨_, rfl, ?_⟩
  have n0_ := Aside0.mk (below_step th_ hb)
  clear HB
  have HB := n0_
  clear n0_
  (try clear hb)
  refine hK.out _ _ ⟨((HB.out.cell (World.block_lt_of_cell? w _ hw191_0)).trans hw191_0), ((HB.out.cell (World.block_lt_of_cell? w _ hw191_1)).trans hw191_1), ((HB.out.cell (World.block_lt_of_cell? w _ hw191_2)).trans hw191_2), ((HB.out.cell (World.block_lt_of_cell? w _ hw191_3)).trans hw191_3), ((HB.out.cell (World.block_lt_of_cell? w _ hw191_4)).trans hw191_4), ((HB.out.cell (World.block_lt_of_cell? w _ hw191_5)).trans hw191_5)⟩ (fun hHeld => ?_)
  clear hK K
  refine nm_ (some 45) ?_
  refine yr_ 7 46 bq_9 HT_ ?_
  refine done_ (done_of HT_.out (by kernel_rfl)) ?_
  have p193 : 0 ≤ (x5_1 : Int) := of_decide_eq_true tq_1
  have q193 : x5_1 < (l0.length : Int) := of_decide_eq_true tq_1
  obtain ⟨ad193, A193_4, c193_4, A193_5, c193_5, e193, hx193_0, hx193_1, hx193_2, hx193_3, hx193_4, hx193_5, hl193_4, hi193_4, hl193_5, hi193_5⟩ := at_T64 HR0.out x5_1 p193 q193
  obtain rfl : ad188 = ad193 := (by injection e193)
  replace hx193_0 := hx_ HB.out hx193_0
  replace hx193_1 := hx_ HB.out hx193_1
  replace hx193_2 := hx_ HB.out hx193_2
  replace hx193_3 := hx_ HB.out hx193_3
  try clear hHeld; try clear hx188_4; try clear hx189_4; try clear hx190_4; try clear hx191_4
  replace hx193_4 := hx_ HB.out hx193_4
  try clear hHeld; try clear hx188_5; try clear hx189_5; try clear hx190_5; try clear hx191_5
  replace hx193_5 := hx_ HB.out hx193_5
  have HR193_4 := Aside0.mk hi193_4
  have HC193_4 := Aside0.mk hl193_4
  clear hi193_4 hl193_4
  have HR193_5 := Aside0.mk hi193_5
  have HC193_5 := Aside0.mk hl193_5
  clear hi193_5 hl193_5
  replace p193 := eq_true p193
  replace q193 := eq_true q193
  try go_wp2_with (first | ((with_reducible refine gate_callee (f := 91) rfl ?_); refine goesL_ (some 55) rfl rfl Try.func91 (by kernel_rfl) rfl #[.slice A193_4 ((rd_T64 l0 x5_1).f4).length c193_4, .int .i64 (wrap64 ((wrap64 ((wrap64 ((wrap64 (x1_1 + 1)) + 1)) + 1)) + 1))] rfl tq_0 ?_; (with_reducible refine (laws_heldRecS.calls k1 _ _ ((rd_T64 l0 x5_1).f4) (wrap64 ((wrap64 ((wrap64 ((wrap64 (x1_1 + 1)) + 1)) + 1)) + 1)) t194 _ ?side1 ?side2 A10.out).mono ?_); (case side1 => exact tq_36); (case side2 => exact HC193_4.out); rintro e w14 ⟨rfl, hb⟩; refine ⟨_, rfl, ?_⟩; have n0_ := Aside0.mk (below_step th_ hb); clear HB; have HB := n0_; clear n0_; (try clear hb)))
  go_ret
  exact ⟨tq_2, th_⟩
 rw [if_neg c11] at H
 have c11b0 := decide_eq_false c11
 clear c11
 obtain ⟨t196, A15, H⟩ := bd_ H
 by_cases c16 : t196 < 0
 ·rw [if_pos c16] at H
  have c16b0 := decide_eq_true c16
  clear c16
  obtain rfl := Option.some.inj H
  have p188 : 0 ≤ (x5_1 : Int) := of_decide_eq_true tq_1
  have q188 : x5_1 < (l0.length : Int) := of_decide_eq_true tq_1
  obtain ⟨ad188, A188_4, c188_4, A188_5, c188_5, e188, hx188_0, hx188_1, hx188_2, hx188_3, hx188_4, hx188_5, hl188_4, hi188_4, hl188_5, hi188_5⟩ := at_T64 HR0.out x5_1 p188 q188
  cases e188
  replace hx188_0 := hx_ HB.out hx188_0
  replace hx188_1 := hx_ HB.out hx188_1
  replace hx188_2 := hx_ HB.out hx188_2
  replace hx188_3 := hx_ HB.out hx188_3
  replace hx188_4 := hx_ HB.out hx188_4
  replace hx188_5 := hx_ HB.out hx188_5
  have HR188_4 := Aside0.mk hi188_4
  have HC188_4 := Aside0.mk hl188_4
  clear hi188_4 hl188_4
  have HR188_5 := Aside0.mk hi188_5
  have HC188_5 := Aside0.mk hl188_5
  clear hi188_5 hl188_5
  replace p188 := eq_true p188
  replace q188 := eq_true q188
  have p189 : 0 ≤ (x5_1 : Int) := of_decide_eq_true tq_1
  have q189 : x5_1 < (l0.length : Int) := of_decide_eq_true tq_1
  obtain ⟨ad189, A189_4, c189_4, A189_5, c189_5, e189, hx189_0, hx189_1, hx189_2, hx189_3, hx189_4, hx189_5, hl189_4, hi189_4, hl189_5, hi189_5⟩ := at_T64 HR0.out x5_1 p189 q189
  obtain rfl : ad188 = ad189 := (by injection e189)
  replace hx189_0 := hx_ HB.out hx189_0
  replace hx189_1 := hx_ HB.out hx189_1
  replace hx189_2 := hx_ HB.out hx189_2
  replace hx189_3 := hx_ HB.out hx189_3
  replace hx189_4 := hx_ HB.out hx189_4
  replace hx189_5 := hx_ HB.out hx189_5
  have HR189_4 := Aside0.mk hi189_4
  have HC189_4 := Aside0.mk hl189_4
  clear hi189_4 hl189_4
  have HR189_5 := Aside0.mk hi189_5
  have HC189_5 := Aside0.mk hl189_5
  clear hi189_5 hl189_5
  replace p189 := eq_true p189
  replace q189 := eq_true q189
  have ea_ := Option.some.inj (hx188_4.symm.trans hx189_4)
  injection ea_ with ea_ en_ ec_
  subst ea_
  subst ec_
  clear en_
  have ea_ := Option.some.inj (hx188_5.symm.trans hx189_5)
  injection ea_ with ea_ en_ ec_
  subst ea_
  subst ec_
  clear en_
  have p190 : 0 ≤ (x5_1 : Int) := of_decide_eq_true tq_1
  have q190 : x5_1 < (l0.length : Int) := of_decide_eq_true tq_1
  obtain ⟨ad190, A190_4, c190_4, A190_5, c190_5, e190, hx190_0, hx190_1, hx190_2, hx190_3, hx190_4, hx190_5, hl190_4, hi190_4, hl190_5, hi190_5⟩ := at_T64 HR0.out x5_1 p190 q190
  obtain rfl : ad188 = ad190 := (by injection e190)
  replace hx190_0 := hx_ HB.out hx190_0
  replace hx190_1 := hx_ HB.out hx190_1
  replace hx190_2 := hx_ HB.out hx190_2
  replace hx190_3 := hx_ HB.out hx190_3
  replace hx190_4 := hx_ HB.out hx190_4
  replace hx190_5 := hx_ HB.out hx190_5
  have HR190_4 := Aside0.mk hi190_4
  have HC190_4 := Aside0.mk hl190_4
  clear hi190_4 hl190_4
  have HR190_5 := Aside0.mk hi190_5
  have HC190_5 := Aside0.mk hl190_5
  clear hi190_5 hl190_5
  replace p190 := eq_true p190
  replace q190 := eq_true q190
  have ea_ := Option.some.inj (hx188_4.symm.trans hx190_4)
  injection ea_ with ea_ en_ ec_
  subst ea_
  subst ec_
  clear en_
  have ea_ := Option.some.inj (hx188_5.symm.trans hx190_5)
  injection ea_ with ea_ en_ ec_
  subst ea_
  subst ec_
  clear en_
  try go_wp2
  have n0_ := Aside0.mk (below_drew1 HB.out)
  clear HB
  have HB := n0_
  clear n0_
  have p191 : 0 ≤ (x5_1 : Int) := of_decide_eq_true tq_1
  have q191 : x5_1 < (l0.length : Int) := of_decide_eq_true tq_1
  obtain ⟨ad191, A191_4, c191_4, A191_5, c191_5, e191, hx191_0, hx191_1, hx191_2, hx191_3, hx191_4, hx191_5, hl191_4, hi191_4, hl191_5, hi191_5⟩ := at_T64 HR0.out x5_1 p191 q191
  have hw191_5 := hx191_5
  have hw191_4 := hx191_4
  have hw191_3 := hx191_3
  have hw191_2 := hx191_2
  have hw191_1 := hx191_1
  have hw191_0 := hx191_0
  obtain rfl : ad188 = ad191 := (by injection e191)
  replace hx191_0 := hx_ HB.out hx191_0
  replace hx191_1 := hx_ HB.out hx191_1
  replace hx191_2 := hx_ HB.out hx191_2
  replace hx191_3 := hx_ HB.out hx191_3
  replace hx191_4 := hx_ HB.out hx191_4
  replace hx191_5 := hx_ HB.out hx191_5
  have HR191_4 := Aside0.mk hi191_4
  have HC191_4 := Aside0.mk hl191_4
  clear hi191_4 hl191_4
  have HR191_5 := Aside0.mk hi191_5
  have HC191_5 := Aside0.mk hl191_5
  clear hi191_5 hl191_5
  replace p191 := eq_true p191
  replace q191 := eq_true q191
  refine start_ (n := 8) (S := fun w' => w'.cell? (ad188.add ((x5_1).toNat * 6)) = some (.int .i64 ((rd_T64 l0 x5_1).f0)) ∧ w'.cell? ⟨(ad188.add ((x5_1).toNat * 6)).block, (ad188.add ((x5_1).toNat * 6)).off + 1, none⟩ = some (.int .i64 ((rd_T64 l0 x5_1).f1)) ∧ w'.cell? ⟨(ad188.add ((x5_1).toNat * 6)).block, (ad188.add ((x5_1).toNat * 6)).off + 2, none⟩ = some (.int .i64 ((rd_T64 l0 x5_1).f2)) ∧ w'.cell? ⟨(ad188.add ((x5_1).toNat * 6)).block, (ad188.add ((x5_1).toNat * 6)).off + 3, none⟩ = some (.string ((rd_T64 l0 x5_1).f3)) ∧ w'.cell? ⟨(ad188.add ((x5_1).toNat * 6)).block, (ad188.add ((x5_1).toNat * 6)).off + 4, none⟩ = some (.slice A191_4 ((rd_T64 l0 x5_1).f4).length c191_4) ∧ w'.cell? ⟨(ad188.add ((x5_1).toNat * 6)).block, (ad188.add ((x5_1).toNat * 6)).off + 5, none⟩ = some (.slice A191_5 ((rd_T64 l0 x5_1).f5).length c191_5)) (ds := []) bq_1 (by kernel_rfl) rfl rfl ⟨((HB.out.cell (World.block_lt_of_cell? w _ hw191_0)).trans hw191_0), ((HB.out.cell (World.block_lt_of_cell? w _ hw191_1)).trans hw191_1), ((HB.out.cell (World.block_lt_of_cell? w _ hw191_2)).trans hw191_2), ((HB.out.cell (World.block_lt_of_cell? w _ hw191_3)).trans hw191_3), ((HB.out.cell (World.block_lt_of_cell? w _ hw191_4)).trans hw191_4), ((HB.out.cell (World.block_lt_of_cell? w _ hw191_5)).trans hw191_5)⟩ (fun hHeld => ?_); refine with_tabW laws_heldInodeS.tab13 laws_heldInodeS.bits13 (fun HT_ HW_ => ?_)
  generalize wr.drew = w17 at HB HR191_4 HR191_5 hx191_0 hx191_1 hx191_2 hx191_3 hx191_4 hx191_5 hHeld ⊢
  refine yr_ 0 39 bq_2 HT_ ?_
  refine yr_ 1 40 bq_3 HT_ ?_
  refine yr_ 2 41 bq_4 HT_ ?_
  refine yr_ 3 42 bq_5 HT_ ?_
  refine yr_ 5 44 bq_6 HT_ ?_
  refine tr_ 4 43 bq_7 HT_ HW_ hHeld ?_
  refine one_ (i := 6) (N := some 45) bq_8 rfl rfl (one_of HT_.out (by kernel_rfl)) (by decide) (fun K hK => ?_)
  refine goes_ Try.func88 (by kernel_rfl) rfl #[.int .i64 (wrap64 ((wrap64 ((wrap64 (x1_1 + 1)) + 1)) + 1))] (by rfl) rfl rfl tq_0 ?_
  with_reducible refine (laws_markText.calls k1 (wrap64 ((wrap64 ((wrap64 (x1_1 + 1)) + 1)) + 1)) t192 _ A8.out).mono ?_
  rintro e w18 ⟨rfl, hb⟩
  refine ⟨_, rfl, ?_⟩
  have n0_ := Aside0.mk (below_step th_ hb)
  clear HB
  have HB := n0_
  clear n0_
  (try clear hb)
  refine hK.out _ _ ⟨((HB.out.cell (World.block_lt_of_cell? w _ hw191_0)).trans hw191_0), ((HB.out.cell (World.block_lt_of_cell? w _ hw191_1)).trans hw191_1), ((HB.out.cell (World.block_lt_of_cell? w _ hw191_2)).trans hw191_2), ((HB.out.cell (World.block_lt_of_cell? w _ hw191_3)).trans hw191_3), ((HB.out.cell (World.block_lt_of_cell? w _ hw191_4)).trans hw191_4), ((HB.out.cell (World.block_lt_of_cell? w _ hw191_5)).trans hw191_5)⟩ (fun hHeld => ?_)
  clear hK K
  refine nm_ (some 45) ?_
  refine yr_ 7 46 bq_9 HT_ ?_
  refine done_ (done_of HT_.out (by kernel_rfl)) ?_
  have p193 : 0 ≤ (x5_1 : Int) := of_decide_eq_true tq_1
  have q193 : x5_1 < (l0.length : Int) := of_decide_eq_true tq_1
  obtain ⟨ad193, A193_4, c193_4, A193_5, c193_5, e193, hx193_0, hx193_1, hx193_2, hx193_3, hx193_4, hx193_5, hl193_4, hi193_4, hl193_5, hi193_5⟩ := at_T64 HR0.out x5_1 p193 q193
  obtain rfl : ad188 = ad193 := (by injection e193)
  replace hx193_0 := hx_ HB.out hx193_0
  replace hx193_1 := hx_ HB.out hx193_1
  replace hx193_2 := hx_ HB.out hx193_2
  replace hx193_3 := hx_ HB.out hx193_3
  try clear hHeld; try clear hx188_4; try clear hx189_4; try clear hx190_4; try clear hx191_4
  replace hx193_4 := hx_ HB.out hx193_4
  try clear hHeld; try clear hx188_5; try clear hx189_5; try clear hx190_5; try clear hx191_5
  replace hx193_5 := hx_ HB.out hx193_5
  have HR193_4 := Aside0.mk hi193_4
  have HC193_4 := Aside0.mk hl193_4
  clear hi193_4 hl193_4
  have HR193_5 := Aside0.mk hi193_5
  have HC193_5 := Aside0.mk hl193_5
  clear hi193_5 hl193_5
  replace p193 := eq_true p193
  replace q193 := eq_true q193
  try go_wp2_with (first | ((with_reducible refine gate_callee (f := 91) rfl ?_); refine goesL_ (some 55) rfl rfl Try.func91 (by kernel_rfl) rfl #[.slice A193_4 ((rd_T64 l0 x5_1).f4).length c193_4, .int .i64 (wrap64 ((wrap64 ((wrap64 ((wrap64 (x1_1 + 1)) + 1)) + 1)) + 1))] rfl tq_0 ?_; (with_reducible refine (laws_heldRecS.calls k1 _ _ ((rd_T64 l0 x5_1).f4) (wrap64 ((wrap64 ((wrap64 ((wrap64 (x1_1 + 1)) + 1)) + 1)) + 1)) t194 _ ?side1 ?side2 A10.out).mono ?_); (case side1 => exact tq_36); (case side2 => exact HC193_4.out); rintro e w19 ⟨rfl, hb⟩; refine ⟨_, rfl, ?_⟩; have n0_ := Aside0.mk (below_step th_ hb); clear HB; have HB := n0_; clear n0_; (try clear hb); have p195 : 0 ≤ (x5_1 : Int) := of_decide_eq_true tq_1; have q195 : x5_1 < (l0.length : Int) := of_decide_eq_true tq_1; obtain ⟨ad195, A195_4, c195_4, A195_5, c195_5, e195, hx195_0, hx195_1, hx195_2, hx195_3, hx195_4, hx195_5, hl195_4, hi195_4, hl195_5, hi195_5⟩ := at_T64 HR0.out x5_1 p195 q195; obtain rfl : ad188 = ad195 := (by injection e195); replace hx195_0 := hx_ HB.out hx195_0; replace hx195_1 := hx_ HB.out hx195_1; replace hx195_2 := hx_ HB.out hx195_2; replace hx195_3 := hx_ HB.out hx195_3; replace hx195_4 := hx_ HB.out hx195_4; replace hx195_5 := hx_ HB.out hx195_5; have HR195_4 := Aside0.mk hi195_4; have HC195_4 := Aside0.mk hl195_4; clear hi195_4 hl195_4; have HR195_5 := Aside0.mk hi195_5; have HC195_5 := Aside0.mk hl195_5; clear hi195_5 hl195_5; replace p195 := eq_true p195; replace q195 := eq_true q195) | ((with_reducible refine gate_callee (f := 92) rfl ?_); refine goesL_ (some 64) rfl rfl Try.func92 (by kernel_rfl) rfl #[.slice A195_5 ((rd_T64 l0 x5_1).f5).length c195_5, .int .i64 t194] rfl tq_0 ?_; (with_reducible refine (laws_heldEntryS.calls k1 _ _ ((rd_T64 l0 x5_1).f5) t194 t196 _ ?side1 ?side2 A15.out).mono ?_); (case side1 => exact tq_41); (case side2 => exact HC195_5.out); rintro e w20 ⟨rfl, hb⟩; refine ⟨_, rfl, ?_⟩; have n0_ := Aside0.mk (below_step th_ hb); clear HB; have HB := n0_; clear n0_; (try clear hb)))
  go_ret
  exact ⟨tq_2, th_⟩
 rw [if_neg c16] at H
 have c16b0 := decide_eq_false c16
 clear c16
 have H' := Aside0.mk H
 clear H
 have p188 : 0 ≤ (x5_1 : Int) := of_decide_eq_true tq_1
 have q188 : x5_1 < (l0.length : Int) := of_decide_eq_true tq_1
 obtain ⟨ad188, A188_4, c188_4, A188_5, c188_5, e188, hx188_0, hx188_1, hx188_2, hx188_3, hx188_4, hx188_5, hl188_4, hi188_4, hl188_5, hi188_5⟩ := at_T64 HR0.out x5_1 p188 q188
 cases e188
 replace hx188_0 := hx_ HB.out hx188_0
 replace hx188_1 := hx_ HB.out hx188_1
 replace hx188_2 := hx_ HB.out hx188_2
 replace hx188_3 := hx_ HB.out hx188_3
 replace hx188_4 := hx_ HB.out hx188_4
 replace hx188_5 := hx_ HB.out hx188_5
 have HR188_4 := Aside0.mk hi188_4
 have HC188_4 := Aside0.mk hl188_4
 clear hi188_4 hl188_4
 have HR188_5 := Aside0.mk hi188_5
 have HC188_5 := Aside0.mk hl188_5
 clear hi188_5 hl188_5
 replace p188 := eq_true p188
 replace q188 := eq_true q188
 have p189 : 0 ≤ (x5_1 : Int) := of_decide_eq_true tq_1
 have q189 : x5_1 < (l0.length : Int) := of_decide_eq_true tq_1
 obtain ⟨ad189, A189_4, c189_4, A189_5, c189_5, e189, hx189_0, hx189_1, hx189_2, hx189_3, hx189_4, hx189_5, hl189_4, hi189_4, hl189_5, hi189_5⟩ := at_T64 HR0.out x5_1 p189 q189
 obtain rfl : ad188 = ad189 := (by injection e189)
 replace hx189_0 := hx_ HB.out hx189_0
 replace hx189_1 := hx_ HB.out hx189_1
 replace hx189_2 := hx_ HB.out hx189_2
 replace hx189_3 := hx_ HB.out hx189_3
 replace hx189_4 := hx_ HB.out hx189_4
 replace hx189_5 := hx_ HB.out hx189_5
 have HR189_4 := Aside0.mk hi189_4
 have HC189_4 := Aside0.mk hl189_4
 clear hi189_4 hl189_4
 have HR189_5 := Aside0.mk hi189_5
 have HC189_5 := Aside0.mk hl189_5
 clear hi189_5 hl189_5
 replace p189 := eq_true p189
 replace q189 := eq_true q189
 have ea_ := Option.some.inj (hx188_4.symm.trans hx189_4)
 injection ea_ with ea_ en_ ec_
 subst ea_
 subst ec_
 clear en_
 have ea_ := Option.some.inj (hx188_5.symm.trans hx189_5)
 injection ea_ with ea_ en_ ec_
 subst ea_
 subst ec_
 clear en_
 have p190 : 0 ≤ (x5_1 : Int) := of_decide_eq_true tq_1
 have q190 : x5_1 < (l0.length : Int) := of_decide_eq_true tq_1
 obtain ⟨ad190, A190_4, c190_4, A190_5, c190_5, e190, hx190_0, hx190_1, hx190_2, hx190_3, hx190_4, hx190_5, hl190_4, hi190_4, hl190_5, hi190_5⟩ := at_T64 HR0.out x5_1 p190 q190
 obtain rfl : ad188 = ad190 := (by injection e190)
 replace hx190_0 := hx_ HB.out hx190_0
 replace hx190_1 := hx_ HB.out hx190_1
 replace hx190_2 := hx_ HB.out hx190_2
 replace hx190_3 := hx_ HB.out hx190_3
 replace hx190_4 := hx_ HB.out hx190_4
 replace hx190_5 := hx_ HB.out hx190_5
 have HR190_4 := Aside0.mk hi190_4
 have HC190_4 := Aside0.mk hl190_4
 clear hi190_4 hl190_4
 have HR190_5 := Aside0.mk hi190_5
 have HC190_5 := Aside0.mk hl190_5
 clear hi190_5 hl190_5
 replace p190 := eq_true p190
 replace q190 := eq_true q190
 have ea_ := Option.some.inj (hx188_4.symm.trans hx190_4)
 injection ea_ with ea_ en_ ec_
 subst ea_
 subst ec_
 clear en_
 have ea_ := Option.some.inj (hx188_5.symm.trans hx190_5)
 injection ea_ with ea_ en_ ec_
 subst ea_
 subst ec_
 clear en_
 try go_wp2
 have n0_ := Aside0.mk (below_drew1 HB.out)
 clear HB
 have HB := n0_
 clear n0_
 have p191 : 0 ≤ (x5_1 : Int) := of_decide_eq_true tq_1
 have q191 : x5_1 < (l0.length : Int) := of_decide_eq_true tq_1
 obtain ⟨ad191, A191_4, c191_4, A191_5, c191_5, e191, hx191_0, hx191_1, hx191_2, hx191_3, hx191_4, hx191_5, hl191_4, hi191_4, hl191_5, hi191_5⟩ := at_T64 HR0.out x5_1 p191 q191
 have hw191_5 := hx191_5
 have hw191_4 := hx191_4
 have hw191_3 := hx191_3
 have hw191_2 := hx191_2
 have hw191_1 := hx191_1
 have hw191_0 := hx191_0
 obtain rfl : ad188 = ad191 := (by injection e191)
 replace hx191_0 := hx_ HB.out hx191_0
 replace hx191_1 := hx_ HB.out hx191_1
 replace hx191_2 := hx_ HB.out hx191_2
 replace hx191_3 := hx_ HB.out hx191_3
 replace hx191_4 := hx_ HB.out hx191_4
 replace hx191_5 := hx_ HB.out hx191_5
 have HR191_4 := Aside0.mk hi191_4
 have HC191_4 := Aside0.mk hl191_4
 clear hi191_4 hl191_4
 have HR191_5 := Aside0.mk hi191_5
 have HC191_5 := Aside0.mk hl191_5
 clear hi191_5 hl191_5
 replace p191 := eq_true p191
 replace q191 := eq_true q191
 refine start_ (n := 8) (S := fun w' => w'.cell? (ad188.add ((x5_1).toNat * 6)) = some (.int .i64 ((rd_T64 l0 x5_1).f0)) ∧ w'.cell? ⟨(ad188.add ((x5_1).toNat * 6)).block, (ad188.add ((x5_1).toNat * 6)).off + 1, none⟩ = some (.int .i64 ((rd_T64 l0 x5_1).f1)) ∧ w'.cell? ⟨(ad188.add ((x5_1).toNat * 6)).block, (ad188.add ((x5_1).toNat * 6)).off + 2, none⟩ = some (.int .i64 ((rd_T64 l0 x5_1).f2)) ∧ w'.cell? ⟨(ad188.add ((x5_1).toNat * 6)).block, (ad188.add ((x5_1).toNat * 6)).off + 3, none⟩ = some (.string ((rd_T64 l0 x5_1).f3)) ∧ w'.cell? ⟨(ad188.add ((x5_1).toNat * 6)).block, (ad188.add ((x5_1).toNat * 6)).off + 4, none⟩ = some (.slice A191_4 ((rd_T64 l0 x5_1).f4).length c191_4) ∧ w'.cell? ⟨(ad188.add ((x5_1).toNat * 6)).block, (ad188.add ((x5_1).toNat * 6)).off + 5, none⟩ = some (.slice A191_5 ((rd_T64 l0 x5_1).f5).length c191_5)) (ds := []) bq_1 (by kernel_rfl) rfl rfl ⟨((HB.out.cell (World.block_lt_of_cell? w _ hw191_0)).trans hw191_0), ((HB.out.cell (World.block_lt_of_cell? w _ hw191_1)).trans hw191_1), ((HB.out.cell (World.block_lt_of_cell? w _ hw191_2)).trans hw191_2), ((HB.out.cell (World.block_lt_of_cell? w _ hw191_3)).trans hw191_3), ((HB.out.cell (World.block_lt_of_cell? w _ hw191_4)).trans hw191_4), ((HB.out.cell (World.block_lt_of_cell? w _ hw191_5)).trans hw191_5)⟩ (fun hHeld => ?_); refine with_tabW laws_heldInodeS.tab13 laws_heldInodeS.bits13 (fun HT_ HW_ => ?_)
 generalize wr.drew = w21 at HB HR191_4 HR191_5 hx191_0 hx191_1 hx191_2 hx191_3 hx191_4 hx191_5 hHeld ⊢
 refine yr_ 0 39 bq_2 HT_ ?_
 refine yr_ 1 40 bq_3 HT_ ?_
 refine yr_ 2 41 bq_4 HT_ ?_
 refine yr_ 3 42 bq_5 HT_ ?_
 refine yr_ 5 44 bq_6 HT_ ?_
 refine tr_ 4 43 bq_7 HT_ HW_ hHeld ?_
 refine one_ (i := 6) (N := some 45) bq_8 rfl rfl (one_of HT_.out (by kernel_rfl)) (by decide) (fun K hK => ?_)
 refine goes_ Try.func88 (by kernel_rfl) rfl #[.int .i64 (wrap64 ((wrap64 ((wrap64 (x1_1 + 1)) + 1)) + 1))] (by rfl) rfl rfl tq_0 ?_
 with_reducible refine (laws_markText.calls k1 (wrap64 ((wrap64 ((wrap64 (x1_1 + 1)) + 1)) + 1)) t192 _ A8.out).mono ?_
 rintro e w22 ⟨rfl, hb⟩
 refine ⟨_, rfl, ?_⟩
 have n0_ := Aside0.mk (below_step th_ hb)
 clear HB
 have HB := n0_
 clear n0_
 (try clear hb)
 refine hK.out _ _ ⟨((HB.out.cell (World.block_lt_of_cell? w _ hw191_0)).trans hw191_0), ((HB.out.cell (World.block_lt_of_cell? w _ hw191_1)).trans hw191_1), ((HB.out.cell (World.block_lt_of_cell? w _ hw191_2)).trans hw191_2), ((HB.out.cell (World.block_lt_of_cell? w _ hw191_3)).trans hw191_3), ((HB.out.cell (World.block_lt_of_cell? w _ hw191_4)).trans hw191_4), ((HB.out.cell (World.block_lt_of_cell? w _ hw191_5)).trans hw191_5)⟩ (fun hHeld => ?_)
 clear hK K
 refine nm_ (some 45) ?_
 refine yr_ 7 46 bq_9 HT_ ?_
 refine done_ (done_of HT_.out (by kernel_rfl)) ?_
 have p193 : 0 ≤ (x5_1 : Int) := of_decide_eq_true tq_1
 have q193 : x5_1 < (l0.length : Int) := of_decide_eq_true tq_1
 obtain ⟨ad193, A193_4, c193_4, A193_5, c193_5, e193, hx193_0, hx193_1, hx193_2, hx193_3, hx193_4, hx193_5, hl193_4, hi193_4, hl193_5, hi193_5⟩ := at_T64 HR0.out x5_1 p193 q193
 obtain rfl : ad188 = ad193 := (by injection e193)
 replace hx193_0 := hx_ HB.out hx193_0
 replace hx193_1 := hx_ HB.out hx193_1
 replace hx193_2 := hx_ HB.out hx193_2
 replace hx193_3 := hx_ HB.out hx193_3
 try clear hHeld; try clear hx188_4; try clear hx189_4; try clear hx190_4; try clear hx191_4
 replace hx193_4 := hx_ HB.out hx193_4
 try clear hHeld; try clear hx188_5; try clear hx189_5; try clear hx190_5; try clear hx191_5
 replace hx193_5 := hx_ HB.out hx193_5
 have HR193_4 := Aside0.mk hi193_4
 have HC193_4 := Aside0.mk hl193_4
 clear hi193_4 hl193_4
 have HR193_5 := Aside0.mk hi193_5
 have HC193_5 := Aside0.mk hl193_5
 clear hi193_5 hl193_5
 replace p193 := eq_true p193
 replace q193 := eq_true q193
 try go_wp2_with (first | ((with_reducible refine gate_callee (f := 91) rfl ?_); refine goesL_ (some 55) rfl rfl Try.func91 (by kernel_rfl) rfl #[.slice A193_4 ((rd_T64 l0 x5_1).f4).length c193_4, .int .i64 (wrap64 ((wrap64 ((wrap64 ((wrap64 (x1_1 + 1)) + 1)) + 1)) + 1))] rfl tq_0 ?_; (with_reducible refine (laws_heldRecS.calls k1 _ _ ((rd_T64 l0 x5_1).f4) (wrap64 ((wrap64 ((wrap64 ((wrap64 (x1_1 + 1)) + 1)) + 1)) + 1)) t194 _ ?side1 ?side2 A10.out).mono ?_); (case side1 => exact tq_36); (case side2 => exact HC193_4.out); rintro e w23 ⟨rfl, hb⟩; refine ⟨_, rfl, ?_⟩; have n0_ := Aside0.mk (below_step th_ hb); clear HB; have HB := n0_; clear n0_; (try clear hb); have p195 : 0 ≤ (x5_1 : Int) := of_decide_eq_true tq_1; have q195 : x5_1 < (l0.length : Int) := of_decide_eq_true tq_1; obtain ⟨ad195, A195_4, c195_4, A195_5, c195_5, e195, hx195_0, hx195_1, hx195_2, hx195_3, hx195_4, hx195_5, hl195_4, hi195_4, hl195_5, hi195_5⟩ := at_T64 HR0.out x5_1 p195 q195; obtain rfl : ad188 = ad195 := (by injection e195); replace hx195_0 := hx_ HB.out hx195_0; replace hx195_1 := hx_ HB.out hx195_1; replace hx195_2 := hx_ HB.out hx195_2; replace hx195_3 := hx_ HB.out hx195_3; replace hx195_4 := hx_ HB.out hx195_4; replace hx195_5 := hx_ HB.out hx195_5; have HR195_4 := Aside0.mk hi195_4; have HC195_4 := Aside0.mk hl195_4; clear hi195_4 hl195_4; have HR195_5 := Aside0.mk hi195_5; have HC195_5 := Aside0.mk hl195_5; clear hi195_5 hl195_5; replace p195 := eq_true p195; replace q195 := eq_true q195) | ((with_reducible refine gate_callee (f := 92) rfl ?_); refine goesL_ (some 64) rfl rfl Try.func92 (by kernel_rfl) rfl #[.slice A195_5 ((rd_T64 l0 x5_1).f5).length c195_5, .int .i64 t194] rfl tq_0 ?_; (with_reducible refine (laws_heldEntryS.calls k1 _ _ ((rd_T64 l0 x5_1).f5) t194 t196 _ ?side1 ?side2 A15.out).mono ?_); (case side1 => exact tq_41); (case side2 => exact HC195_5.out); rintro e w24 ⟨rfl, hb⟩; refine ⟨_, rfl, ?_⟩; have n0_ := Aside0.mk (below_step th_ hb); clear HB; have HB := n0_; clear n0_; (try clear hb)))
 go_roundg k1
 case measure => have := HK1.out; omega
 case rel => exact ⟨(t196), (wrap64 (x5_1 + 1)), tq_13, tq_13, H', ⟨tq_40⟩, ⟨th_⟩⟩

end Go.Proofs.Ytljnnmpfeningaa.PFnExactPartNew
