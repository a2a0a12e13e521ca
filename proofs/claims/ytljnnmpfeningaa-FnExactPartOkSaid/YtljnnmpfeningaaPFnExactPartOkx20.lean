/- Contracts of Go functions, written by a program of ours over the print of the kit: each says that the call returns what the Lean function beside it computes. Conditions: as each theorem states them. -/
import Derived.Test.YtljnnmpfeningaaPkFnExactPartOk
import Derived.Test.YtljnnmpfeningaaPFnExactPartOkx0
import Derived.Test.YtljnnmpfeningaaPFnExactPartOkx18
import Derived.Test.YtljnnmpfeningaaPFnExactPartOkx19
namespace Go.Proofs.Ytljnnmpfeningaa.PFnExactPartOk
open Go.RowKit Go.Proofs.YtljnnmpfeningaaW.PrintWords Go.Proofs.YtljnnmpfeningaaW.PrintLast Go.Proofs.YtljnnmpfeningaaW.PrintMore
attribute [local go_sem] max2_int min2_int max_two min_two max_three min_three max_four min_four   -- for this text's walks alone
set_option linter.unusedVariables false
set_option linter.unusedSimpArgs false

/-! ### laws_eqInodeS: function 46 -/
def laws_eqInodeS.l0 : Nat → List (S64) → List (S64) → Int → Option (Bool)
 | 0, _, _, _ => none
 | k + 1, x0, x1, x5 => if x5 < (x0.length : Int) then (if 0 ≤ x5 then (if x5 < (x1.length : Int) then ((laws_eqInode.f k ((rd_T64 x0 x5).f0) ((rd_T64 x0 x5).f1) ((rd_T64 x0 x5).f2) ((rd_T64 x0 x5).f3) ((rd_T64 x0 x5).f4) ((rd_T64 x0 x5).f5) ((rd_T64 x1 x5).f0) ((rd_T64 x1 x5).f1) ((rd_T64 x1 x5).f2) ((rd_T64 x1 x5).f3) ((rd_T64 x1 x5).f4) ((rd_T64 x1 x5).f5)).bind fun t394 => (if t394 = true then (laws_eqInodeS.l0 k x0 x1 (wrap64 (x5 + 1))) else (some false))) else (none)) else (none)) else (some true)
def laws_eqInodeS.f (k : Nat) (l0 : List (S64)) (l1 : List (S64)) : Option (Bool) := if (l0.length : Int) = (l1.length : Int) then (laws_eqInodeS.l0 k l0 l1 0) else (some false)
theorem laws_eqInodeS.mono_l : ∀ k, (∀ y0 y1 y2, LeO (laws_eqInodeS.l0 k y0 y1 y2) (laws_eqInodeS.l0 (k + 1) y0 y1 y2))
 | 0 => fun _ _ _ r h => by simp [laws_eqInodeS.l0] at h
 | k + 1 => by
  have ih0 := laws_eqInodeS.mono_l k
  ·intro y0 y1 y2
   unfold laws_eqInodeS.l0
   repeat' first
   | (with_reducible exact ih0 ..)
   | (with_reducible exact laws_eqInode.mono ..)
   | (with_reducible exact LeO.refl _)
   | (with_reducible exact LeO.none _)
   | (with_reducible refine LeO.ite ?_ ?_)
   | (with_reducible refine LeO.bind ?_ (fun _ => ?_))
   | exact ih0 ..
   | exact laws_eqInode.mono ..
   | exact LeO.none _
   | refine LeO.ite ?_ ?_
   | refine LeO.bind ?_ (fun _ => ?_)
theorem laws_eqInodeS.mono : ∀ a0 a1 k, LeO (laws_eqInodeS.f k a0 a1) (laws_eqInodeS.f (k + 1) a0 a1) := by
 intro a0 a1 k
 have ih0 := laws_eqInodeS.mono_l k
 unfold laws_eqInodeS.f
 repeat' first
   | (with_reducible exact ih0 ..)
   | (with_reducible exact laws_eqInode.mono ..)
   | (with_reducible exact LeO.refl _)
   | (with_reducible exact LeO.none _)
   | (with_reducible refine LeO.ite ?_ ?_)
   | (with_reducible refine LeO.bind ?_ (fun _ => ?_))
   | exact ih0 ..
   | exact laws_eqInode.mono ..
   | exact LeO.none _
   | refine LeO.ite ?_ ?_
   | refine LeO.bind ?_ (fun _ => ?_)
def laws_eqInodeS.T6 : Bool × List (List Nat × List Nat) := (true, [([], []), ([], []), ([0, 1], [0, 1]), ([2], [2]), ([], []), ([], []), ([4, 5], [4, 5]), ([6], [6]), ([3, 7], [3, 7]), ([8], [8])])
def laws_eqInodeS.B6 : List Nat := [0, 0, 3, 7, 0, 0, 48, 112, 255, 511]
theorem laws_eqInodeS.tab6 : rtab .any (opsOf Try.f46 6) = laws_eqInodeS.T6 := by kernel_rfl
theorem laws_eqInodeS.bits6 : waitsOk laws_eqInodeS.T6.2 laws_eqInodeS.B6 = true := by kernel_rfl
set_option maxHeartbeats 8000000 in
set_option maxRecDepth 100000 in
theorem laws_eqInodeS.calls (k : Nat) (A0 : Option Addr) (c0 : Nat) (l0 : List (S64)) (A1 : Option Addr) (c1 : Nat) (l1 : List (S64)) (r : Bool) (w : World) (hr0 : Kd.C k64 w A0 l0.length l0) (hc0 : l0.length ≤ c0) (hr1 : Kd.C k64 w A1 l1.length l1) (hc1 : l1.length ≤ c1) (h : laws_eqInodeS.f k l0 l1 = some r) :
  Calls Try.prog 46 #[.slice A0 l0.length c0, .slice A1 l1.length c1] w fun e w' => e = .returned (.bool r) ∧ Below w.heap.size w w' := by
 have hu64 := Try.underlying64
 have HR0 := Aside0.mk hr0
 have HC0 := Aside0.mk hc0
 clear hr0 hc0
 have HR1 := Aside0.mk hr1
 have HC1 := Aside0.mk hc1
 clear hr1 hc1
 have HB := Aside0.mk (Below.refl w.heap.size w)
 have H : (if (l0.length : Int) = (l1.length : Int) then (laws_eqInodeS.l0 k l0 l1 0) else (some false)) = some r := h
 clear h
 by_cases c3 : (l0.length : Int) = (l1.length : Int)
 rotate_left
 ·rw [if_neg c3] at H
  have c3b0 := beq_eq_false_iff_ne.mpr c3
  have c3b1 := bne_iff_ne.mpr c3
  have c3b2 : (l0.length == l1.length) = false := by first | simpa using c3 | (simp at c3 ⊢; omega)
  obtain rfl := Option.some.inj H
  go_enter Try.func46, Try.ntmps46
  go_wp2
  go_ret
  exact ⟨tq_2, tq_0⟩
 rw [if_pos c3] at H
 have c3b0 := beq_iff_eq.mpr c3
 have c3b1 := bne_eq_false_iff_eq.mpr c3
 have c3b2 : (l0.length == l1.length) = true := by first | simpa using c3 | (simp at c3 ⊢; omega)
 clear c3
 have H' := Aside0.mk H
 clear H
 go_enter Try.func46, Try.ntmps46
 go_wp2
 go_loopg [5] k (fun kq v5 w' => ∃ (x5_1 : Int), v5 = .int .i64 x5_1 ∧ Aside0 (laws_eqInodeS.l0 kq l0 l1 x5_1 = some r) ∧ Aside0 (kq ≤ k) ∧ Aside0 (Below w.heap.size w w'))
 case atStart => exact ⟨(0), tq_4, H', ⟨Nat.le_refl _⟩, ⟨tq_0⟩⟩
 case round =>
 clear H'
 try clear c1; try clear p2; try clear c3; try clear c3b0; try clear c3b1; try clear c3b2
 obtain ⟨x5_1, rfl, HA, HK1, HB⟩ := hrel
 cases gk with
 | zero => exact absurd HA.out (by simp [laws_eqInodeS.l0])
 | succ k1 =>
 have H := HA.out
 clear HA
 simp only [laws_eqInodeS.l0] at H
 by_cases c4 : x5_1 < (l0.length : Int)
 rotate_left
 ·rw [if_neg c4] at H
  have c4b0 := decide_eq_false c4
  clear c4
  obtain rfl := Option.some.inj H
  go_wp2
  go_ret
  exact ⟨tq_2, tq_0⟩
 rw [if_pos c4] at H
 have c4b0 := decide_eq_true c4
 clear c4
 by_cases c5 : 0 ≤ x5_1
 rotate_left
 ·rw [if_neg c5] at H
  exact absurd H (by simp)
 rw [if_pos c5] at H
 have c5b0 := decide_eq_true c5
 clear c5
 by_cases c6 : x5_1 < (l1.length : Int)
 rotate_left
 ·rw [if_neg c6] at H
  exact absurd H (by simp)
 rw [if_pos c6] at H
 have c6b0 := decide_eq_true c6
 clear c6
 replace H := Option.bind_eq_some_iff.mp H
 obtain ⟨t394, A70, H⟩ := H
 replace H : (if t394 = true then (laws_eqInodeS.l0 k1 l0 l1 (wrap64 (x5_1 + 1))) else (some false)) = some r := H
 have A7 := Aside0.mk A70
 clear A70
 by_cases c8 : t394 = true
 rotate_left
 ·replace c8 := Bool.eq_false_iff.mpr c8
  subst c8
  have H1 : (some false) = some r := by rw [if_neg (show ¬ (false = true) by decide)] at H; exact H
  clear H
  have H := H1
  clear H1
  obtain rfl := Option.some.inj H
  try go_wp2
  have n0_ := Aside0.mk (below_drew1 HB.out)
  clear HB
  have HB := n0_
  clear n0_
  have p392 : 0 ≤ (x5_1 : Int) := of_decide_eq_true tq_3
  have q392 : x5_1 < (l0.length : Int) := of_decide_eq_true tq_3
  obtain ⟨ad392, A392_4, c392_4, A392_5, c392_5, e392, hx392_0, hx392_1, hx392_2, hx392_3, hx392_4, hx392_5, hl392_4, hi392_4, hl392_5, hi392_5⟩ := at_T64 HR0.out x5_1 p392 q392
  have hw392_5 := hx392_5
  have hw392_4 := hx392_4
  have hw392_3 := hx392_3
  have hw392_2 := hx392_2
  have hw392_1 := hx392_1
  have hw392_0 := hx392_0
  cases e392
  replace hx392_0 := hx_ HB.out hx392_0
  replace hx392_1 := hx_ HB.out hx392_1
  replace hx392_2 := hx_ HB.out hx392_2
  replace hx392_3 := hx_ HB.out hx392_3
  replace hx392_4 := hx_ HB.out hx392_4
  replace hx392_5 := hx_ HB.out hx392_5
  have HR392_4 := Aside0.mk hi392_4
  have HC392_4 := Aside0.mk hl392_4
  clear hi392_4 hl392_4
  have HR392_5 := Aside0.mk hi392_5
  have HC392_5 := Aside0.mk hl392_5
  clear hi392_5 hl392_5
  replace p392 := eq_true p392
  replace q392 := eq_true q392
  have p393 : 0 ≤ (x5_1 : Int) := of_decide_eq_true tq_3
  have q393 : x5_1 < (l1.length : Int) := of_decide_eq_true tq_3
  obtain ⟨ad393, A393_4, c393_4, A393_5, c393_5, e393, hx393_0, hx393_1, hx393_2, hx393_3, hx393_4, hx393_5, hl393_4, hi393_4, hl393_5, hi393_5⟩ := at_T64 HR1.out x5_1 p393 q393
  have hw393_5 := hx393_5
  have hw393_4 := hx393_4
  have hw393_3 := hx393_3
  have hw393_2 := hx393_2
  have hw393_1 := hx393_1
  have hw393_0 := hx393_0
  cases e393
  replace hx393_0 := hx_ HB.out hx393_0
  replace hx393_1 := hx_ HB.out hx393_1
  replace hx393_2 := hx_ HB.out hx393_2
  replace hx393_3 := hx_ HB.out hx393_3
  replace hx393_4 := hx_ HB.out hx393_4
  replace hx393_5 := hx_ HB.out hx393_5
  have HR393_4 := Aside0.mk hi393_4
  have HC393_4 := Aside0.mk hl393_4
  clear hi393_4 hl393_4
  have HR393_5 := Aside0.mk hi393_5
  have HC393_5 := Aside0.mk hl393_5
  clear hi393_5 hl393_5
  replace p393 := eq_true p393
  replace q393 := eq_true q393
  refine start_ (n := 10) (S := fun w' => w'.cell? (ad392.add ((x5_1).toNat * 6)) = some (.int .i64 ((rd_T64 l0 x5_1).f0)) ∧ w'.cell? ⟨(ad392.add ((x5_1).toNat * 6)).block, (ad392.add ((x5_1).toNat * 6)).off + 1, none⟩ = some (.int .i64 ((rd_T64 l0 x5_1).f1)) ∧ w'.cell? ⟨(ad392.add ((x5_1).toNat * 6)).block, (ad392.add ((x5_1).toNat * 6)).off + 2, none⟩ = some (.int .i64 ((rd_T64 l0 x5_1).f2)) ∧ w'.cell? ⟨(ad392.add ((x5_1).toNat * 6)).block, (ad392.add ((x5_1).toNat * 6)).off + 3, none⟩ = some (.string ((rd_T64 l0 x5_1).f3)) ∧ w'.cell? ⟨(ad392.add ((x5_1).toNat * 6)).block, (ad392.add ((x5_1).toNat * 6)).off + 4, none⟩ = some (.slice A392_4 ((rd_T64 l0 x5_1).f4).length c392_4) ∧ w'.cell? ⟨(ad392.add ((x5_1).toNat * 6)).block, (ad392.add ((x5_1).toNat * 6)).off + 5, none⟩ = some (.slice A392_5 ((rd_T64 l0 x5_1).f5).length c392_5) ∧ w'.cell? (ad393.add ((x5_1).toNat * 6)) = some (.int .i64 ((rd_T64 l1 x5_1).f0)) ∧ w'.cell? ⟨(ad393.add ((x5_1).toNat * 6)).block, (ad393.add ((x5_1).toNat * 6)).off + 1, none⟩ = some (.int .i64 ((rd_T64 l1 x5_1).f1)) ∧ w'.cell? ⟨(ad393.add ((x5_1).toNat * 6)).block, (ad393.add ((x5_1).toNat * 6)).off + 2, none⟩ = some (.int .i64 ((rd_T64 l1 x5_1).f2)) ∧ w'.cell? ⟨(ad393.add ((x5_1).toNat * 6)).block, (ad393.add ((x5_1).toNat * 6)).off + 3, none⟩ = some (.string ((rd_T64 l1 x5_1).f3)) ∧ w'.cell? ⟨(ad393.add ((x5_1).toNat * 6)).block, (ad393.add ((x5_1).toNat * 6)).off + 4, none⟩ = some (.slice A393_4 ((rd_T64 l1 x5_1).f4).length c393_4) ∧ w'.cell? ⟨(ad393.add ((x5_1).toNat * 6)).block, (ad393.add ((x5_1).toNat * 6)).off + 5, none⟩ = some (.slice A393_5 ((rd_T64 l1 x5_1).f5).length c393_5)) (ds := []) bq_0 (by kernel_rfl) rfl rfl ⟨((HB.out.cell (World.block_lt_of_cell? w _ hw392_0)).trans hw392_0), ((HB.out.cell (World.block_lt_of_cell? w _ hw392_1)).trans hw392_1), ((HB.out.cell (World.block_lt_of_cell? w _ hw392_2)).trans hw392_2), ((HB.out.cell (World.block_lt_of_cell? w _ hw392_3)).trans hw392_3), ((HB.out.cell (World.block_lt_of_cell? w _ hw392_4)).trans hw392_4), ((HB.out.cell (World.block_lt_of_cell? w _ hw392_5)).trans hw392_5), ((HB.out.cell (World.block_lt_of_cell? w _ hw393_0)).trans hw393_0), ((HB.out.cell (World.block_lt_of_cell? w _ hw393_1)).trans hw393_1), ((HB.out.cell (World.block_lt_of_cell? w _ hw393_2)).trans hw393_2), ((HB.out.cell (World.block_lt_of_cell? w _ hw393_3)).trans hw393_3), ((HB.out.cell (World.block_lt_of_cell? w _ hw393_4)).trans hw393_4), ((HB.out.cell (World.block_lt_of_cell? w _ hw393_5)).trans hw393_5)⟩ (fun hHeld => ?_); refine with_tabW laws_eqInodeS.tab6 laws_eqInodeS.bits6 (fun HT_ HW_ => ?_)
  generalize wr.drew = w11 at HB HR392_4 HR392_5 HR393_4 HR393_5 hx392_0 hx392_1 hx392_2 hx392_3 hx392_4 hx392_5 hx393_0 hx393_1 hx393_2 hx393_3 hx393_4 hx393_5 hHeld ⊢
  refine yq_ (i := 0) (N := some 17) bq_1 (any_of HT_.out (by kernel_rfl)) ?_
  refine yq_ (i := 1) (N := some 18) bq_2 (any_of HT_.out (by kernel_rfl)) ?_
  refine yq_ (i := 2) (N := some 19) bq_3 (any_of HT_.out (by kernel_rfl)) ?_
  refine yq_ (i := 4) (N := some 21) bq_4 (any_of HT_.out (by kernel_rfl)) ?_
  refine yq_ (i := 5) (N := some 22) bq_5 (any_of HT_.out (by kernel_rfl)) ?_
  refine yq_ (i := 6) (N := some 23) bq_6 (any_of HT_.out (by kernel_rfl)) ?_
  refine tk_ (i := 3) (N := some 20) bq_7 (take_ofW HT_.out HW_.out (by kernel_rfl)) hHeld ?_
  refine tk_ (i := 7) (N := some 24) bq_8 (take_ofW HT_.out HW_.out (by kernel_rfl)) hHeld ?_
  refine one_ (i := 8) (N := some 25) bq_9 rfl rfl (one_of HT_.out (by kernel_rfl)) (by decide) (fun K hK => ?_)
  refine goes_ Try.func79 (by kernel_rfl) rfl #[.agg #[.int .i64 ((rd_T64 l0 x5_1).f0), .int .i64 ((rd_T64 l0 x5_1).f1), .int .i64 ((rd_T64 l0 x5_1).f2), .string ((rd_T64 l0 x5_1).f3), .slice A392_4 ((rd_T64 l0 x5_1).f4).length c392_4, .slice A392_5 ((rd_T64 l0 x5_1).f5).length c392_5], .agg #[.int .i64 ((rd_T64 l1 x5_1).f0), .int .i64 ((rd_T64 l1 x5_1).f1), .int .i64 ((rd_T64 l1 x5_1).f2), .string ((rd_T64 l1 x5_1).f3), .slice A393_4 ((rd_T64 l1 x5_1).f4).length c393_4, .slice A393_5 ((rd_T64 l1 x5_1).f5).length c393_5]] (by rfl) rfl rfl tq_1 ?_
  with_reducible refine (laws_eqInode.calls k1 ((rd_T64 l0 x5_1).f0) ((rd_T64 l0 x5_1).f1) ((rd_T64 l0 x5_1).f2) ((rd_T64 l0 x5_1).f3) _ _ ((rd_T64 l0 x5_1).f4) _ _ ((rd_T64 l0 x5_1).f5) ((rd_T64 l1 x5_1).f0) ((rd_T64 l1 x5_1).f1) ((rd_T64 l1 x5_1).f2) ((rd_T64 l1 x5_1).f3) _ _ ((rd_T64 l1 x5_1).f4) _ _ ((rd_T64 l1 x5_1).f5) false _ ?side1 ?side2 ?side3 ?side4 ?side5 ?side6 ?side7 ?side8 A7.out).mono ?_
  (case side1 => exact tq_163)
  (case side2 => exact HC392_4.out)
  (case side3 => exact tq_162)
  (case side4 => exact HC392_5.out)
  (case side5 => exact tq_161)
  (case side6 => exact HC393_4.out)
  (case side7 => exact tq_160)
  (case side8 => exact HC393_5.out)
  rintro e w12 ⟨rfl, hb⟩
  refine ⟨_, rfl, ?_⟩
  have n0_ := Aside0.mk (below_step tq_0 hb)
  clear HB
  have HB := n0_
  clear n0_
  (try clear hb)
  (try clear hb2)
  (try clear hk)
  (try clear hi)
  refine hK.out _ _ ⟨((HB.out.cell (World.block_lt_of_cell? w _ hw392_0)).trans hw392_0), ((HB.out.cell (World.block_lt_of_cell? w _ hw392_1)).trans hw392_1), ((HB.out.cell (World.block_lt_of_cell? w _ hw392_2)).trans hw392_2), ((HB.out.cell (World.block_lt_of_cell? w _ hw392_3)).trans hw392_3), ((HB.out.cell (World.block_lt_of_cell? w _ hw392_4)).trans hw392_4), ((HB.out.cell (World.block_lt_of_cell? w _ hw392_5)).trans hw392_5), ((HB.out.cell (World.block_lt_of_cell? w _ hw393_0)).trans hw393_0), ((HB.out.cell (World.block_lt_of_cell? w _ hw393_1)).trans hw393_1), ((HB.out.cell (World.block_lt_of_cell? w _ hw393_2)).trans hw393_2), ((HB.out.cell (World.block_lt_of_cell? w _ hw393_3)).trans hw393_3), ((HB.out.cell (World.block_lt_of_cell? w _ hw393_4)).trans hw393_4), ((HB.out.cell (World.block_lt_of_cell? w _ hw393_5)).trans hw393_5)⟩ (fun hHeld => ?_)
  clear hK K
  refine nm_ (some 25) ?_
  refine yq_ (i := 9) (N := some 26) bq_10 (any_of HT_.out (by kernel_rfl)) ?_
  refine done_ (done_of HT_.out (by kernel_rfl)) ?_
  try go_wp2
  go_ret
  exact ⟨tq_2, tq_0⟩
 subst c8
 have H1 : (laws_eqInodeS.l0 k1 l0 l1 (wrap64 (x5_1 + 1))) = some r := by rw [if_pos rfl] at H; exact H
 clear H
 have H := H1
 clear H1
 have H' := Aside0.mk H
 clear H
 try go_wp2
 have n0_ := Aside0.mk (below_drew1 HB.out)
 clear HB
 have HB := n0_
 clear n0_
 have p392 : 0 ≤ (x5_1 : Int) := of_decide_eq_true tq_3
 have q392 : x5_1 < (l0.length : Int) := of_decide_eq_true tq_3
 obtain ⟨ad392, A392_4, c392_4, A392_5, c392_5, e392, hx392_0, hx392_1, hx392_2, hx392_3, hx392_4, hx392_5, hl392_4, hi392_4, hl392_5, hi392_5⟩ := at_T64 HR0.out x5_1 p392 q392
 have hw392_5 := hx392_5
 have hw392_4 := hx392_4
 have hw392_3 := hx392_3
 have hw392_2 := hx392_2
 have hw392_1 := hx392_1
 have hw392_0 := hx392_0
 cases e392
 replace hx392_0 := hx_ HB.out hx392_0
 replace hx392_1 := hx_ HB.out hx392_1
 replace hx392_2 := hx_ HB.out hx392_2
 replace hx392_3 := hx_ HB.out hx392_3
 replace hx392_4 := hx_ HB.out hx392_4
 replace hx392_5 := hx_ HB.out hx392_5
 have HR392_4 := Aside0.mk hi392_4
 have HC392_4 := Aside0.mk hl392_4
 clear hi392_4 hl392_4
 have HR392_5 := Aside0.mk hi392_5
 have HC392_5 := Aside0.mk hl392_5
 clear hi392_5 hl392_5
 replace p392 := eq_true p392
 replace q392 := eq_true q392
 have p393 : 0 ≤ (x5_1 : Int) := of_decide_eq_true tq_3
 have q393 : x5_1 < (l1.length : Int) := of_decide_eq_true tq_3
 obtain ⟨ad393, A393_4, c393_4, A393_5, c393_5, e393, hx393_0, hx393_1, hx393_2, hx393_3, hx393_4, hx393_5, hl393_4, hi393_4, hl393_5, hi393_5⟩ := at_T64 HR1.out x5_1 p393 q393
 have hw393_5 := hx393_5
 have hw393_4 := hx393_4
 have hw393_3 := hx393_3
 have hw393_2 := hx393_2
 have hw393_1 := hx393_1
 have hw393_0 := hx393_0
 cases e393
 replace hx393_0 := hx_ HB.out hx393_0
 replace hx393_1 := hx_ HB.out hx393_1
 replace hx393_2 := hx_ HB.out hx393_2
 replace hx393_3 := hx_ HB.out hx393_3
 replace hx393_4 := hx_ HB.out hx393_4
 replace hx393_5 := hx_ HB.out hx393_5
 have HR393_4 := Aside0.mk hi393_4
 have HC393_4 := Aside0.mk hl393_4
 clear hi393_4 hl393_4
 have HR393_5 := Aside0.mk hi393_5
 have HC393_5 := Aside0.mk hl393_5
 clear hi393_5 hl393_5
 replace p393 := eq_true p393
 replace q393 := eq_true q393
 refine start_ (n := 10) (S := fun w' => w'.cell? (ad392.add ((x5_1).toNat * 6)) = some (.int .i64 ((rd_T64 l0 x5_1).f0)) ∧ w'.cell? ⟨(ad392.add ((x5_1).toNat * 6)).block, (ad392.add ((x5_1).toNat * 6)).off + 1, none⟩ = some (.int .i64 ((rd_T64 l0 x5_1).f1)) ∧ w'.cell? ⟨(ad392.add ((x5_1).toNat * 6)).block, (ad392.add ((x5_1).toNat * 6)).off + 2, none⟩ = some (.int .i64 ((rd_T64 l0 x5_1).f2)) ∧ w'.cell? ⟨(ad392.add ((x5_1).toNat * 6)).block, (ad392.add ((x5_1).toNat * 6)).off + 3, none⟩ = some (.string ((rd_T64 l0 x5_1).f3)) ∧ w'.cell? ⟨(ad392.add ((x5_1).toNat * 6)).block, (ad392.add ((x5_1).toNat * 6)).off + 4, none⟩ = some (.slice A392_4 ((rd_T64 l0 x5_1).f4).length c392_4) ∧ w'.cell? ⟨(ad392.add ((x5_1).toNat * 6)).block, (ad392.add ((x5_1).toNat * 6)).off + 5, none⟩ = some (.slice A392_5 ((rd_T64 l0 x5_1).f5).length c392_5) ∧ w'.cell? (ad393.add ((x5_1).toNat * 6)) = some (.int .i64 ((rd_T64 l1 x5_1).f0)) ∧ w'.cell? ⟨(ad393.add ((x5_1).toNat * 6)).block, (ad393.add ((x5_1).toNat * 6)).off + 1, none⟩ = some (.int .i64 ((rd_T64 l1 x5_1).f1)) ∧ w'.cell? ⟨(ad393.add ((x5_1).toNat * 6)).block, (ad393.add ((x5_1).toNat * 6)).off + 2, none⟩ = some (.int .i64 ((rd_T64 l1 x5_1).f2)) ∧ w'.cell? ⟨(ad393.add ((x5_1).toNat * 6)).block, (ad393.add ((x5_1).toNat * 6)).off + 3, none⟩ = some (.string ((rd_T64 l1 x5_1).f3)) ∧ w'.cell? ⟨(ad393.add ((x5_1).toNat * 6)).block, (ad393.add ((x5_1).toNat * 6)).off + 4, none⟩ = some (.slice A393_4 ((rd_T64 l1 x5_1).f4).length c393_4) ∧ w'.cell? ⟨(ad393.add ((x5_1).toNat * 6)).block, (ad393.add ((x5_1).toNat * 6)).off + 5, none⟩ = some (.slice A393_5 ((rd_T64 l1 x5_1).f5).length c393_5)) (ds := []) bq_0 (by kernel_rfl) rfl rfl ⟨((HB.out.cell (World.block_lt_of_cell? w _ hw392_0)).trans hw392_0), ((HB.out.cell (World.block_lt_of_cell? w _ hw392_1)).trans hw392_1), ((HB.out.cell (World.block_lt_of_cell? w _ hw392_2)).trans hw392_2), ((HB.out.cell (World.block_lt_of_cell? w _ hw392_3)).trans hw392_3), ((HB.out.cell (World.block_lt_of_cell? w _ hw392_4)).trans hw392_4), ((HB.out.cell (World.block_lt_of_cell? w _ hw392_5)).trans hw392_5), ((HB.out.cell (World.block_lt_of_cell? w _ hw393_0)).trans hw393_0), ((HB.out.cell (World.block_lt_of_cell? w _ hw393_1)).trans hw393_1), ((HB.out.cell (World.block_lt_of_cell? w _ hw393_2)).trans hw393_2), ((HB.out.cell (World.block_lt_of_cell? w _ hw393_3)).trans hw393_3), ((HB.out.cell (World.block_lt_of_cell? w _ hw393_4)).trans hw393_4), ((HB.out.cell (World.block_lt_of_cell? w _ hw393_5)).trans hw393_5)⟩ (fun hHeld => ?_); refine with_tabW laws_eqInodeS.tab6 laws_eqInodeS.bits6 (fun HT_ HW_ => ?_)
 generalize wr.drew = w9 at HB HR392_4 HR392_5 HR393_4 HR393_5 hx392_0 hx392_1 hx392_2 hx392_3 hx392_4 hx392_5 hx393_0 hx393_1 hx393_2 hx393_3 hx393_4 hx393_5 hHeld ⊢
 refine yq_ (i := 0) (N := some 17) bq_1 (any_of HT_.out (by kernel_rfl)) ?_
 refine yq_ (i := 1) (N := some 18) bq_2 (any_of HT_.out (by kernel_rfl)) ?_
 refine yq_ (i := 2) (N := some 19) bq_3 (any_of HT_.out (by kernel_rfl)) ?_
 refine yq_ (i := 4) (N := some 21) bq_4 (any_of HT_.out (by kernel_rfl)) ?_
 refine yq_ (i := 5) (N := some 22) bq_5 (any_of HT_.out (by kernel_rfl)) ?_
 refine yq_ (i := 6) (N := some 23) bq_6 (any_of HT_.out (by kernel_rfl)) ?_
 refine tk_ (i := 3) (N := some 20) bq_7 (take_ofW HT_.out HW_.out (by kernel_rfl)) hHeld ?_
 refine tk_ (i := 7) (N := some 24) bq_8 (take_ofW HT_.out HW_.out (by kernel_rfl)) hHeld ?_
 refine one_ (i := 8) (N := some 25) bq_9 rfl rfl (one_of HT_.out (by kernel_rfl)) (by decide) (fun K hK => ?_)
 refine goes_ Try.func79 (by kernel_rfl) rfl #[.agg #[.int .i64 ((rd_T64 l0 x5_1).f0), .int .i64 ((rd_T64 l0 x5_1).f1), .int .i64 ((rd_T64 l0 x5_1).f2), .string ((rd_T64 l0 x5_1).f3), .slice A392_4 ((rd_T64 l0 x5_1).f4).length c392_4, .slice A392_5 ((rd_T64 l0 x5_1).f5).length c392_5], .agg #[.int .i64 ((rd_T64 l1 x5_1).f0), .int .i64 ((rd_T64 l1 x5_1).f1), .int .i64 ((rd_T64 l1 x5_1).f2), .string ((rd_T64 l1 x5_1).f3), .slice A393_4 ((rd_T64 l1 x5_1).f4).length c393_4, .slice A393_5 ((rd_T64 l1 x5_1).f5).length c393_5]] (by rfl) rfl rfl tq_1 ?_
 with_reducible refine (laws_eqInode.calls k1 ((rd_T64 l0 x5_1).f0) ((rd_T64 l0 x5_1).f1) ((rd_T64 l0 x5_1).f2) ((rd_T64 l0 x5_1).f3) _ _ ((rd_T64 l0 x5_1).f4) _ _ ((rd_T64 l0 x5_1).f5) ((rd_T64 l1 x5_1).f0) ((rd_T64 l1 x5_1).f1) ((rd_T64 l1 x5_1).f2) ((rd_T64 l1 x5_1).f3) _ _ ((rd_T64 l1 x5_1).f4) _ _ ((rd_T64 l1 x5_1).f5) true _ ?side1 ?side2 ?side3 ?side4 ?side5 ?side6 ?side7 ?side8 A7.out).mono ?_
 (case side1 => exact tq_163)
 (case side2 => exact HC392_4.out)
 (case side3 => exact tq_162)
 (case side4 => exact HC392_5.out)
 (case side5 => exact tq_161)
 (case side6 => exact HC393_4.out)
 (case side7 => exact tq_160)
 (case side8 => exact HC393_5.out)
 rintro e w10 ⟨rfl, hb⟩
 refine ⟨_, rfl, ?_⟩
 have n0_ := Aside0.mk (below_step tq_0 hb)
 clear HB
 have HB := n0_
 clear n0_
 (try clear hb)
 (try clear hb2)
 (try clear hk)
 (try clear hi)
 refine hK.out _ _ ⟨((HB.out.cell (World.block_lt_of_cell? w _ hw392_0)).trans hw392_0), ((HB.out.cell (World.block_lt_of_cell? w _ hw392_1)).trans hw392_1), ((HB.out.cell (World.block_lt_of_cell? w _ hw392_2)).trans hw392_2), ((HB.out.cell (World.block_lt_of_cell? w _ hw392_3)).trans hw392_3), ((HB.out.cell (World.block_lt_of_cell? w _ hw392_4)).trans hw392_4), ((HB.out.cell (World.block_lt_of_cell? w _ hw392_5)).trans hw392_5), ((HB.out.cell (World.block_lt_of_cell? w _ hw393_0)).trans hw393_0), ((HB.out.cell (World.block_lt_of_cell? w _ hw393_1)).trans hw393_1), ((HB.out.cell (World.block_lt_of_cell? w _ hw393_2)).trans hw393_2), ((HB.out.cell (World.block_lt_of_cell? w _ hw393_3)).trans hw393_3), ((HB.out.cell (World.block_lt_of_cell? w _ hw393_4)).trans hw393_4), ((HB.out.cell (World.block_lt_of_cell? w _ hw393_5)).trans hw393_5)⟩ (fun hHeld => ?_)
 clear hK K
 refine nm_ (some 25) ?_
 refine yq_ (i := 9) (N := some 26) bq_10 (any_of HT_.out (by kernel_rfl)) ?_
 refine done_ (done_of HT_.out (by kernel_rfl)) ?_
 try go_wp2
 go_roundg k1
 case measure => have := HK1.out; omega
 case rel => exact ⟨(wrap64 (x5_1 + 1)), tq_4, H', ⟨tq_93⟩, ⟨tq_0⟩⟩

/-! ### laws_eqPart: function 11 -/
def laws_eqPart.f (k : Nat) (a0_0 : Int) (l0_1 : List Int) (l0_2 : List (S64)) (a1_0 : Int) (l1_1 : List Int) (l1_2 : List (S64)) : Option (Bool) := if a0_0 = a1_0 then ((laws_eqIntS.f k l0_1 l1_1).bind fun t397 => (if t397 = true then ((laws_eqInodeS.f k l0_2 l1_2).bind fun t398 => (if t398 = true then (some true) else (some false))) else (some false))) else (some false)
theorem laws_eqPart.mono : ∀ a0 a1 a2 a3 a4 a5 k, LeO (laws_eqPart.f k a0 a1 a2 a3 a4 a5) (laws_eqPart.f (k + 1) a0 a1 a2 a3 a4 a5) := by
 intro a0 a1 a2 a3 a4 a5 k
 unfold laws_eqPart.f
 repeat' first
   | (with_reducible exact laws_eqInodeS.mono ..)
   | (with_reducible exact laws_eqIntS.mono ..)
   | (with_reducible exact LeO.refl _)
   | (with_reducible exact LeO.none _)
   | (with_reducible refine LeO.ite ?_ ?_)
   | (with_reducible refine LeO.bind ?_ (fun _ => ?_))
   | exact laws_eqInodeS.mono ..
   | exact laws_eqIntS.mono ..
   | exact LeO.none _
   | refine LeO.ite ?_ ?_
   | refine LeO.bind ?_ (fun _ => ?_)
set_option maxHeartbeats 8000000 in
set_option maxRecDepth 100000 in
theorem laws_eqPart.calls (k : Nat) (a0_0 : Int) (A0_1 : Option Addr) (c0_1 : Nat) (l0_1 : List Int) (A0_2 : Option Addr) (c0_2 : Nat) (l0_2 : List (S64)) (a1_0 : Int) (A1_1 : Option Addr) (c1_1 : Nat) (l1_1 : List Int) (A1_2 : Option Addr) (c1_2 : Nat) (l1_2 : List (S64)) (r : Bool) (w : World) (hr0_1 : Kd.C (Kd.int .i64) w A0_1 l0_1.length l0_1) (hc0_1 : l0_1.length ≤ c0_1) (hr0_2 : Kd.C k64 w A0_2 l0_2.length l0_2) (hc0_2 : l0_2.length ≤ c0_2) (hr1_1 : Kd.C (Kd.int .i64) w A1_1 l1_1.length l1_1) (hc1_1 : l1_1.length ≤ c1_1) (hr1_2 : Kd.C k64 w A1_2 l1_2.length l1_2) (hc1_2 : l1_2.length ≤ c1_2) (h : laws_eqPart.f k a0_0 l0_1 l0_2 a1_0 l1_1 l1_2 = some r) :
  Calls Try.prog 11 #[.agg #[.int .i64 a0_0, .slice A0_1 l0_1.length c0_1, .slice A0_2 l0_2.length c0_2], .agg #[.int .i64 a1_0, .slice A1_1 l1_1.length c1_1, .slice A1_2 l1_2.length c1_2]] w fun e w' => e = .returned (.bool r) ∧ Below w.heap.size w w' := by
 have hu34 := Try.underlying34
 have HR0_1 := Aside0.mk hr0_1
 have HC0_1 := Aside0.mk hc0_1
 clear hr0_1 hc0_1
 have HR0_2 := Aside0.mk hr0_2
 have HC0_2 := Aside0.mk hc0_2
 clear hr0_2 hc0_2
 have HR1_1 := Aside0.mk hr1_1
 have HC1_1 := Aside0.mk hc1_1
 clear hr1_1 hc1_1
 have HR1_2 := Aside0.mk hr1_2
 have HC1_2 := Aside0.mk hc1_2
 clear hr1_2 hc1_2
 have HB := Aside0.mk (Below.refl w.heap.size w)
 have H : (if a0_0 = a1_0 then ((laws_eqIntS.f k l0_1 l1_1).bind fun t397 => (if t397 = true then ((laws_eqInodeS.f k l0_2 l1_2).bind fun t398 => (if t398 = true then (some true) else (some false))) else (some false))) else (some false)) = some r := h
 clear h
 by_cases c3 : a0_0 = a1_0
 rotate_left
 ·rw [if_neg c3] at H
  have c3b0 := beq_eq_false_iff_ne.mpr c3
  have c3b1 := bne_iff_ne.mpr c3
  obtain rfl := Option.some.inj H
  go_enter Try.func11, Try.ntmps11
  go_wp2_with (first | ((with_reducible refine gate_dst (N := 2) rfl ?_); refine box_event ?hg (N := 2) ?hd (cs := #[.int .i64 a0_0, .slice A0_1 l0_1.length c0_1, .slice A0_2 l0_2.length c0_2]) (t := 34) ?hr ?_; (case hd => rfl); (case hg => rfl); (case hr => first | (go_simp; done) | (go_simp; rfl)); intro gb395 hg w25 hbox hb; have z_ := p_ (below_step tq_0 hb) <| p_ (hbox) <| p_ (gb_ hg tq_0) <| a_ (gb_ hg tq_0); clear HB; obtain ⟨HB, BK395, GW395, GE395⟩ := z_; clear hb hbox hg) | ((with_reducible refine gate_dst (N := 3) rfl ?_); refine box_event ?hg (N := 3) ?hd (cs := #[.int .i64 a1_0, .slice A1_1 l1_1.length c1_1, .slice A1_2 l1_2.length c1_2]) (t := 34) ?hr ?_; (case hd => rfl); (case hg => rfl); (case hr => first | (go_simp; done) | (go_simp; rfl)); intro gb396 hg w26 hbox hb; have z_ := p_ (blk_below tq_47 hb) <| p_ (below_step tq_41 hb) <| p_ (hbox) <| p_ (gb_ hg tq_41) <| p_ (gb_ hg tq_41) <| p_ (ltne_ hg (blk_lt tq_47)) <| a_ (gtne_ hg (blk_lt tq_47)); clear BK395 HB; obtain ⟨BK395, HB, BK396, GW396, GE396, NB395_396, NB396_395⟩ := z_; clear hb hbox hg; have hnb27 := NB395_396.out; have hnc27 := NB396_395.out; obtain ⟨hcz28_0, hcz28_1, hcz28_2⟩ := bk3_ BK395.out; obtain ⟨hfz28_0, hfz28_1, hfz28_2⟩ := bf3_ BK395.out; obtain ⟨hcz29_0, hcz29_1, hcz29_2⟩ := bk3_ BK396.out; obtain ⟨hfz29_0, hfz29_1, hfz29_2⟩ := bf3_ BK396.out))
  go_ret
  exact ⟨tq_2, tq_44⟩
 rw [if_pos c3] at H
 have c3b0 := beq_iff_eq.mpr c3
 have c3b1 := bne_eq_false_iff_eq.mpr c3
 clear c3
 replace H := Option.bind_eq_some_iff.mp H
 obtain ⟨t397, A40, H⟩ := H
 replace H : (if t397 = true then ((laws_eqInodeS.f k l0_2 l1_2).bind fun t398 => (if t398 = true then (some true) else (some false))) else (some false)) = some r := H
 have A4 := Aside0.mk A40
 clear A40
 by_cases c5 : t397 = true
 rotate_left
 ·replace c5 := Bool.eq_false_iff.mpr c5
  subst c5
  have H1 : (some false) = some r := by rw [if_neg (show ¬ (false = true) by decide)] at H; exact H
  clear H
  have H := H1
  clear H1
  obtain rfl := Option.some.inj H
  go_enter Try.func11, Try.ntmps11
  go_wp2_with (first | ((with_reducible refine gate_dst (N := 2) rfl ?_); refine box_event ?hg (N := 2) ?hd (cs := #[.int .i64 a0_0, .slice A0_1 l0_1.length c0_1, .slice A0_2 l0_2.length c0_2]) (t := 34) ?hr ?_; (case hd => rfl); (case hg => rfl); (case hr => first | (go_simp; done) | (go_simp; rfl)); intro gb395 hg w20 hbox hb; have z_ := p_ (below_step tq_0 hb) <| p_ (hbox) <| p_ (gb_ hg tq_0) <| a_ (gb_ hg tq_0); clear HB; obtain ⟨HB, BK395, GW395, GE395⟩ := z_; clear hb hbox hg) | ((with_reducible refine gate_dst (N := 3) rfl ?_); refine box_event ?hg (N := 3) ?hd (cs := #[.int .i64 a1_0, .slice A1_1 l1_1.length c1_1, .slice A1_2 l1_2.length c1_2]) (t := 34) ?hr ?_; (case hd => rfl); (case hg => rfl); (case hr => first | (go_simp; done) | (go_simp; rfl)); intro gb396 hg w21 hbox hb; have z_ := p_ (blk_below tq_47 hb) <| p_ (below_step tq_41 hb) <| p_ (hbox) <| p_ (gb_ hg tq_41) <| p_ (gb_ hg tq_41) <| p_ (ltne_ hg (blk_lt tq_47)) <| a_ (gtne_ hg (blk_lt tq_47)); clear BK395 HB; obtain ⟨BK395, HB, BK396, GW396, GE396, NB395_396, NB396_395⟩ := z_; clear hb hbox hg; have hnb22 := NB395_396.out; have hnc22 := NB396_395.out; obtain ⟨hcz23_0, hcz23_1, hcz23_2⟩ := bk3_ BK395.out; obtain ⟨hfz23_0, hfz23_1, hfz23_2⟩ := bf3_ BK395.out; obtain ⟨hcz24_0, hcz24_1, hcz24_2⟩ := bk3_ BK396.out; obtain ⟨hfz24_0, hfz24_1, hfz24_2⟩ := bf3_ BK396.out) | ((with_reducible refine gate_callee (f := 45) rfl ?_); refine goesL_ (some 14) rfl rfl Try.func45 (by kernel_rfl) rfl #[.slice A0_1 l0_1.length c0_1, .slice A1_1 l1_1.length c1_1] rfl tq_1 ?_; (with_reducible refine (laws_eqIntS.calls k _ _ l0_1 _ _ l1_1 false _ ?side1 ?side2 ?side3 ?side4 A4.out).mono ?_); (case side1 => exact tq_31); (case side2 => exact HC0_1.out); (case side3 => exact tq_21); (case side4 => exact HC1_1.out); rintro e w' ⟨rfl, ⟨nd, rfl⟩⟩; refine ⟨_, rfl, ?_⟩))
  go_ret
  exact ⟨tq_2, tq_44⟩
 subst c5
 have H1 : ((laws_eqInodeS.f k l0_2 l1_2).bind fun t398 => (if t398 = true then (some true) else (some false))) = some r := by rw [if_pos rfl] at H; exact H
 clear H
 have H := H1
 clear H1
 replace H := Option.bind_eq_some_iff.mp H
 obtain ⟨t398, A60, H⟩ := H
 replace H : (if t398 = true then (some true) else (some false)) = some r := H
 have A6 := Aside0.mk A60
 clear A60
 by_cases c7 : t398 = true
 ·subst c7
  have H1 : (some true) = some r := by rw [if_pos rfl] at H; exact H
  clear H
  have H := H1
  clear H1
  obtain rfl := Option.some.inj H
  go_enter Try.func11, Try.ntmps11
  go_wp2_with (first | ((with_reducible refine gate_dst (N := 2) rfl ?_); refine box_event ?hg (N := 2) ?hd (cs := #[.int .i64 a0_0, .slice A0_1 l0_1.length c0_1, .slice A0_2 l0_2.length c0_2]) (t := 34) ?hr ?_; (case hd => rfl); (case hg => rfl); (case hr => first | (go_simp; done) | (go_simp; rfl)); intro gb395 hg w8 hbox hb; have z_ := p_ (below_step tq_0 hb) <| p_ (hbox) <| p_ (gb_ hg tq_0) <| a_ (gb_ hg tq_0); clear HB; obtain ⟨HB, BK395, GW395, GE395⟩ := z_; clear hb hbox hg) | ((with_reducible refine gate_dst (N := 3) rfl ?_); refine box_event ?hg (N := 3) ?hd (cs := #[.int .i64 a1_0, .slice A1_1 l1_1.length c1_1, .slice A1_2 l1_2.length c1_2]) (t := 34) ?hr ?_; (case hd => rfl); (case hg => rfl); (case hr => first | (go_simp; done) | (go_simp; rfl)); intro gb396 hg w9 hbox hb; have z_ := p_ (blk_below tq_47 hb) <| p_ (below_step tq_41 hb) <| p_ (hbox) <| p_ (gb_ hg tq_41) <| p_ (gb_ hg tq_41) <| p_ (ltne_ hg (blk_lt tq_47)) <| a_ (gtne_ hg (blk_lt tq_47)); clear BK395 HB; obtain ⟨BK395, HB, BK396, GW396, GE396, NB395_396, NB396_395⟩ := z_; clear hb hbox hg; have hnb10 := NB395_396.out; have hnc10 := NB396_395.out; obtain ⟨hcz11_0, hcz11_1, hcz11_2⟩ := bk3_ BK395.out; obtain ⟨hfz11_0, hfz11_1, hfz11_2⟩ := bf3_ BK395.out; obtain ⟨hcz12_0, hcz12_1, hcz12_2⟩ := bk3_ BK396.out; obtain ⟨hfz12_0, hfz12_1, hfz12_2⟩ := bf3_ BK396.out) | ((with_reducible refine gate_callee (f := 45) rfl ?_); refine goesL_ (some 14) rfl rfl Try.func45 (by kernel_rfl) rfl #[.slice A0_1 l0_1.length c0_1, .slice A1_1 l1_1.length c1_1] rfl tq_1 ?_; (with_reducible refine (laws_eqIntS.calls k _ _ l0_1 _ _ l1_1 true _ ?side1 ?side2 ?side3 ?side4 A4.out).mono ?_); (case side1 => exact tq_31); (case side2 => exact HC0_1.out); (case side3 => exact tq_21); (case side4 => exact HC1_1.out); rintro e w' ⟨rfl, ⟨nd, rfl⟩⟩; refine ⟨_, rfl, ?_⟩) | ((with_reducible refine gate_callee (f := 46) rfl ?_); refine goesL_ (some 20) rfl rfl Try.func46 (by kernel_rfl) rfl #[.slice A0_2 l0_2.length c0_2, .slice A1_2 l1_2.length c1_2] rfl tq_1 ?_; (with_reducible refine (laws_eqInodeS.calls k _ _ l0_2 _ _ l1_2 true _ ?side1 ?side2 ?side3 ?side4 A6.out).mono ?_); (case side1 => exact tq_172); (case side2 => exact HC0_2.out); (case side3 => exact tq_168); (case side4 => exact HC1_2.out); rintro e w13 ⟨rfl, hb⟩; refine ⟨_, rfl, ?_⟩; have z_ := p_ (blk_below tq_47 hb) <| p_ (blk_below (by (with_reducible repeat (first | refine blk_drewN ?_ _ | refine blk_drew ?_ | refine blk_alloc ?_ _)); exact BK396.out) hb) <| a_ (below_step tq_44 hb); clear BK395 BK396 HB; obtain ⟨BK395, BK396, HB⟩ := z_; (try clear hb); (try clear hb2); (try clear hk); (try clear hi)))
  go_ret
  exact ⟨tq_2, tq_44⟩
 replace c7 := Bool.eq_false_iff.mpr c7
 subst c7
 have H1 : (some false) = some r := by rw [if_neg (show ¬ (false = true) by decide)] at H; exact H
 clear H
 have H := H1
 clear H1
 obtain rfl := Option.some.inj H
 go_enter Try.func11, Try.ntmps11
 go_wp2_with (first | ((with_reducible refine gate_dst (N := 2) rfl ?_); refine box_event ?hg (N := 2) ?hd (cs := #[.int .i64 a0_0, .slice A0_1 l0_1.length c0_1, .slice A0_2 l0_2.length c0_2]) (t := 34) ?hr ?_; (case hd => rfl); (case hg => rfl); (case hr => first | (go_simp; done) | (go_simp; rfl)); intro gb395 hg w14 hbox hb; have z_ := p_ (below_step tq_0 hb) <| p_ (hbox) <| p_ (gb_ hg tq_0) <| a_ (gb_ hg tq_0); clear HB; obtain ⟨HB, BK395, GW395, GE395⟩ := z_; clear hb hbox hg) | ((with_reducible refine gate_dst (N := 3) rfl ?_); refine box_event ?hg (N := 3) ?hd (cs := #[.int .i64 a1_0, .slice A1_1 l1_1.length c1_1, .slice A1_2 l1_2.length c1_2]) (t := 34) ?hr ?_; (case hd => rfl); (case hg => rfl); (case hr => first | (go_simp; done) | (go_simp; rfl)); intro gb396 hg w15 hbox hb; have z_ := p_ (blk_below tq_47 hb) <| p_ (below_step tq_41 hb) <| p_ (hbox) <| p_ (gb_ hg tq_41) <| p_ (gb_ hg tq_41) <| p_ (ltne_ hg (blk_lt tq_47)) <| a_ (gtne_ hg (blk_lt tq_47)); clear BK395 HB; obtain ⟨BK395, HB, BK396, GW396, GE396, NB395_396, NB396_395⟩ := z_; clear hb hbox hg; have hnb16 := NB395_396.out; have hnc16 := NB396_395.out; obtain ⟨hcz17_0, hcz17_1, hcz17_2⟩ := bk3_ BK395.out; obtain ⟨hfz17_0, hfz17_1, hfz17_2⟩ := bf3_ BK395.out; obtain ⟨hcz18_0, hcz18_1, hcz18_2⟩ := bk3_ BK396.out; obtain ⟨hfz18_0, hfz18_1, hfz18_2⟩ := bf3_ BK396.out) | ((with_reducible refine gate_callee (f := 45) rfl ?_); refine goesL_ (some 14) rfl rfl Try.func45 (by kernel_rfl) rfl #[.slice A0_1 l0_1.length c0_1, .slice A1_1 l1_1.length c1_1] rfl tq_1 ?_; (with_reducible refine (laws_eqIntS.calls k _ _ l0_1 _ _ l1_1 true _ ?side1 ?side2 ?side3 ?side4 A4.out).mono ?_); (case side1 => exact tq_31); (case side2 => exact HC0_1.out); (case side3 => exact tq_21); (case side4 => exact HC1_1.out); rintro e w' ⟨rfl, ⟨nd, rfl⟩⟩; refine ⟨_, rfl, ?_⟩) | ((with_reducible refine gate_callee (f := 46) rfl ?_); refine goesL_ (some 20) rfl rfl Try.func46 (by kernel_rfl) rfl #[.slice A0_2 l0_2.length c0_2, .slice A1_2 l1_2.length c1_2] rfl tq_1 ?_; (with_reducible refine (laws_eqInodeS.calls k _ _ l0_2 _ _ l1_2 false _ ?side1 ?side2 ?side3 ?side4 A6.out).mono ?_); (case side1 => exact tq_172); (case side2 => exact HC0_2.out); (case side3 => exact tq_168); (case side4 => exact HC1_2.out); rintro e w19 ⟨rfl, hb⟩; refine ⟨_, rfl, ?_⟩; have z_ := p_ (blk_below tq_47 hb) <| p_ (blk_below (by (with_reducible repeat (first | refine blk_drewN ?_ _ | refine blk_drew ?_ | refine blk_alloc ?_ _)); exact BK396.out) hb) <| a_ (below_step tq_44 hb); clear BK395 BK396 HB; obtain ⟨BK395, BK396, HB⟩ := z_; (try clear hb); (try clear hb2); (try clear hk); (try clear hi)))
 go_ret
 exact ⟨tq_2, tq_44⟩

end Go.Proofs.Ytljnnmpfeningaa.PFnExactPartOk
