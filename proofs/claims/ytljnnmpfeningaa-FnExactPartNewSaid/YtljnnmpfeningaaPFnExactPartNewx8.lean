/- Contracts of Go functions, written by a program of ours over the print of the kit: each says that the call returns what the Lean function beside it computes. Conditions: as each theorem states them. -/
import Derived.Test.YtljnnmpfeningaaPkFnExactPartNew
import Derived.Test.YtljnnmpfeningaaPFnExactPartNewx0
import Derived.Test.YtljnnmpfeningaaPFnExactPartNewx7
namespace Go.Proofs.Ytljnnmpfeningaa.PFnExactPartNew
open Go.RowKit Go.Proofs.YtljnnmpfeningaaW.PrintWords Go.Proofs.YtljnnmpfeningaaW.PrintLast Go.Proofs.YtljnnmpfeningaaW.PrintMore
attribute [local go_sem] max2_int min2_int max_two min_two max_three min_three max_four min_four   -- for this text's walks alone
set_option linter.unusedVariables false
set_option linter.unusedSimpArgs false

/-! ### laws_heldRecS: function 91 -/
def laws_heldRecS.l0 : Nat → List (S96) → Int → Int → Option (Int)
 | 0, _, _, _ => none
 | k + 1, x0, x1, x5 => if x5 < (x0.length : Int) then (if 0 ≤ x5 then (if ((rd_T96 x0 x5).f0) = x1 then (if ((rd_T96 x0 x5).f1) = (wrap64 (x1 + 1)) then ((laws_markText.f k (wrap64 ((wrap64 (x1 + 1)) + 1))).bind fun t184 => (if ((rd_T96 x0 x5).f2).toList = t184.toList then (laws_heldRecS.l0 k x0 (wrap64 ((wrap64 ((wrap64 (x1 + 1)) + 1)) + 1)) (wrap64 (x5 + 1))) else (some (-1)))) else (some (-1))) else (some (-1))) else (none)) else (some x1)
def laws_heldRecS.f (k : Nat) (l0 : List (S96)) (a1 : Int) : Option (Int) := laws_heldRecS.l0 k l0 a1 0
theorem laws_heldRecS.mono_l : ∀ k, (∀ y0 y1 y2, LeO (laws_heldRecS.l0 k y0 y1 y2) (laws_heldRecS.l0 (k + 1) y0 y1 y2))
 | 0 => fun _ _ _ r h => by simp [laws_heldRecS.l0] at h
 | k + 1 => by
  have ih0 := laws_heldRecS.mono_l k
  ·intro y0 y1 y2
   unfold laws_heldRecS.l0
   exact mo_1
theorem laws_heldRecS.mono : ∀ a0 a1 k, LeO (laws_heldRecS.f k a0 a1) (laws_heldRecS.f (k + 1) a0 a1) := by
 intro a0 a1 k
 have ih0 := laws_heldRecS.mono_l k
 unfold laws_heldRecS.f
 repeat' first
   | (with_reducible exact ih0 ..)
   | (with_reducible exact laws_markText.mono ..)
   | (with_reducible exact LeO.refl _)
   | (with_reducible exact LeO.none _)
   | (with_reducible refine LeO.ite ?_ ?_)
   | (with_reducible refine LeO.bind ?_ (fun _ => ?_))
   | exact ih0 ..
   | exact laws_markText.mono ..
   | exact LeO.none _
   | refine LeO.ite ?_ ?_
   | refine LeO.bind ?_ (fun _ => ?_)
def laws_heldRecS.T10 : Bool × List (List Nat × List Nat) := (true, [([], []), ([], []), ([0, 1], [0, 1]), ([2], [2]), ([3], [3]), ([], []), ([5], [5]), ([4, 6], [4, 6])])
def laws_heldRecS.B10 : List Nat := [0, 0, 3, 7, 15, 0, 32, 127]
theorem laws_heldRecS.tab10 : rtab .any (opsOf Try.f91 10) = laws_heldRecS.T10 := by kernel_rfl
theorem laws_heldRecS.bits10 : waitsOk laws_heldRecS.T10.2 laws_heldRecS.B10 = true := by kernel_rfl
set_option maxHeartbeats 8000000 in
set_option maxRecDepth 100000 in
theorem laws_heldRecS.calls (k : Nat) (A0 : Option Addr) (c0 : Nat) (l0 : List (S96)) (a1 : Int) (r : Int) (w : World) (hr0 : Kd.C k96 w A0 l0.length l0) (hc0 : l0.length ≤ c0) (h : laws_heldRecS.f k l0 a1 = some r) :
  Calls Try.prog 91 #[.slice A0 l0.length c0, .int .i64 a1] w fun e w' => e = .returned (.int .i64 r) ∧ Below w.heap.size w w' := by
 have HR0 := Aside0.mk hr0
 have HC0 := Aside0.mk hc0
 clear hr0 hc0
 have HB := Aside0.mk (Below.refl w.heap.size w)
 unfold laws_heldRecS.f at h
 have H := h
 clear h
 have H' := Aside0.mk H
 clear H
 go_enter Try.func91, Try.ntmps91
 go_wp2
 go_loopg [1, 5] k (fun kq v1 v5 w' => ∃ (x1_1 : Int) (x5_1 : Int), v1 = .int .i64 x1_1 ∧ v5 = .int .i64 x5_1 ∧ Aside0 (laws_heldRecS.l0 kq l0 x1_1 x5_1 = some r) ∧ Aside0 (kq ≤ k) ∧ Aside0 (Below w.heap.size w w'))
 case atStart => exact ⟨(a1), (0), tq_13, tq_13, H', ⟨Nat.le_refl _⟩, ⟨th_⟩⟩
 case round =>
 clear H'
 try clear p2
 obtain ⟨x1_1, x5_1, rfl, rfl, HA, HK1, HB⟩ := hrel
 cases gk with
 | zero => exact absurd HA.out (by simp [laws_heldRecS.l0])
 | succ k1 =>
 have H := HA.out
 clear HA
 simp only [laws_heldRecS.l0] at H
 by_cases c3 : x5_1 < (l0.length : Int)
 rotate_left
 ·rw [if_neg c3] at H
  have c3b0 := decide_eq_false c3
  clear c3
  obtain rfl := Option.some.inj H
  go_wp2
  go_ret
  exact ⟨tq_2, th_⟩
 rw [if_pos c3] at H
 have c3b0 := decide_eq_true c3
 clear c3
 obtain ⟨c4, H⟩ := fc_ H
 have c4b0 := decide_eq_true c4
 clear c4
 by_cases c5 : ((rd_T96 l0 x5_1).f0) = x1_1
 rotate_left
 ·rw [if_neg c5] at H
  have c5b0 := beq_eq_false_iff_ne.mpr c5
  have c5b1 := bne_iff_ne.mpr c5
  obtain rfl := Option.some.inj H
  have p181 : 0 ≤ (x5_1 : Int) := of_decide_eq_true tq_1
  have q181 : x5_1 < (l0.length : Int) := of_decide_eq_true tq_1
  obtain ⟨ad181, e181, hx181_0, hx181_1, hx181_2⟩ := at_T96 HR0.out x5_1 p181 q181
  cases e181
  replace hx181_0 := hx_ HB.out hx181_0
  replace hx181_1 := hx_ HB.out hx181_1
  replace hx181_2 := hx_ HB.out hx181_2
  replace p181 := eq_true p181
  replace q181 := eq_true q181
  go_wp2
  go_ret
  exact ⟨tq_2, th_⟩
 rw [if_pos c5] at H
 have c5b0 := beq_iff_eq.mpr c5
 have c5b1 := bne_eq_false_iff_eq.mpr c5
 clear c5
 by_cases c6 : ((rd_T96 l0 x5_1).f1) = (wrap64 (x1_1 + 1))
 rotate_left
 ·rw [if_neg c6] at H
  have c6b0 := beq_eq_false_iff_ne.mpr c6
  have c6b1 := bne_iff_ne.mpr c6
  obtain rfl := Option.some.inj H
  have p181 : 0 ≤ (x5_1 : Int) := of_decide_eq_true tq_1
  have q181 : x5_1 < (l0.length : Int) := of_decide_eq_true tq_1
  obtain ⟨ad181, e181, hx181_0, hx181_1, hx181_2⟩ := at_T96 HR0.out x5_1 p181 q181
  cases e181
  replace hx181_0 := hx_ HB.out hx181_0
  replace hx181_1 := hx_ HB.out hx181_1
  replace hx181_2 := hx_ HB.out hx181_2
  replace p181 := eq_true p181
  replace q181 := eq_true q181
  have p182 : 0 ≤ (x5_1 : Int) := of_decide_eq_true tq_1
  have q182 : x5_1 < (l0.length : Int) := of_decide_eq_true tq_1
  obtain ⟨ad182, e182, hx182_0, hx182_1, hx182_2⟩ := at_T96 HR0.out x5_1 p182 q182
  obtain rfl : ad181 = ad182 := (by injection e182)
  replace hx182_0 := hx_ HB.out hx182_0
  replace hx182_1 := hx_ HB.out hx182_1
  replace hx182_2 := hx_ HB.out hx182_2
  replace p182 := eq_true p182
  replace q182 := eq_true q182
  go_wp2
  go_ret
  exact ⟨tq_2, th_⟩
 rw [if_pos c6] at H
 have c6b0 := beq_iff_eq.mpr c6
 have c6b1 := bne_eq_false_iff_eq.mpr c6
 clear c6
 obtain ⟨t184, A7, H⟩ := bd_ H
 by_cases c8 : ((rd_T96 l0 x5_1).f2).toList = t184.toList
 rotate_left
 ·rw [if_neg c8] at H
  have c8b0 := beq_eq_false_iff_ne.mpr c8
  have c8b1 := bne_iff_ne.mpr c8
  obtain rfl := Option.some.inj H
  have p181 : 0 ≤ (x5_1 : Int) := of_decide_eq_true tq_1
  have q181 : x5_1 < (l0.length : Int) := of_decide_eq_true tq_1
  obtain ⟨ad181, e181, hx181_0, hx181_1, hx181_2⟩ := at_T96 HR0.out x5_1 p181 q181
  cases e181
  replace hx181_0 := hx_ HB.out hx181_0
  replace hx181_1 := hx_ HB.out hx181_1
  replace hx181_2 := hx_ HB.out hx181_2
  replace p181 := eq_true p181
  replace q181 := eq_true q181
  have p182 : 0 ≤ (x5_1 : Int) := of_decide_eq_true tq_1
  have q182 : x5_1 < (l0.length : Int) := of_decide_eq_true tq_1
  obtain ⟨ad182, e182, hx182_0, hx182_1, hx182_2⟩ := at_T96 HR0.out x5_1 p182 q182
  obtain rfl : ad181 = ad182 := (by injection e182)
  replace hx182_0 := hx_ HB.out hx182_0
  replace hx182_1 := hx_ HB.out hx182_1
  replace hx182_2 := hx_ HB.out hx182_2
  replace p182 := eq_true p182
  replace q182 := eq_true q182
  try go_wp2
  have n0_ := Aside0.mk (below_drew1 HB.out)
  clear HB
  have HB := n0_
  clear n0_
  have p183 : 0 ≤ (x5_1 : Int) := of_decide_eq_true tq_1
  have q183 : x5_1 < (l0.length : Int) := of_decide_eq_true tq_1
  obtain ⟨ad183, e183, hx183_0, hx183_1, hx183_2⟩ := at_T96 HR0.out x5_1 p183 q183
  have hw183_2 := hx183_2
  have hw183_1 := hx183_1
  have hw183_0 := hx183_0
  obtain rfl : ad181 = ad183 := (by injection e183)
  replace hx183_0 := hx_ HB.out hx183_0
  replace hx183_1 := hx_ HB.out hx183_1
  replace hx183_2 := hx_ HB.out hx183_2
  replace p183 := eq_true p183
  replace q183 := eq_true q183
  refine start_ (n := 8) (S := fun w' => w'.cell? (ad181.add ((x5_1).toNat * 3)) = some (.int .i64 ((rd_T96 l0 x5_1).f0)) ∧ w'.cell? ⟨(ad181.add ((x5_1).toNat * 3)).block, (ad181.add ((x5_1).toNat * 3)).off + 1, none⟩ = some (.int .i64 ((rd_T96 l0 x5_1).f1)) ∧ w'.cell? ⟨(ad181.add ((x5_1).toNat * 3)).block, (ad181.add ((x5_1).toNat * 3)).off + 2, none⟩ = some (.string ((rd_T96 l0 x5_1).f2))) (ds := []) bq_1 (by kernel_rfl) rfl rfl ⟨((HB.out.cell (World.block_lt_of_cell? w _ hw183_0)).trans hw183_0), ((HB.out.cell (World.block_lt_of_cell? w _ hw183_1)).trans hw183_1), ((HB.out.cell (World.block_lt_of_cell? w _ hw183_2)).trans hw183_2)⟩ (fun hHeld => ?_); refine with_tabW laws_heldRecS.tab10 laws_heldRecS.bits10 (fun HT_ HW_ => ?_)
  generalize wr.drew = w11 at HB hx183_0 hx183_1 hx183_2 hHeld ⊢
  refine yr_ 0 30 bq_2 HT_ ?_
  refine yr_ 1 31 bq_3 HT_ ?_
  refine yr_ 2 32 bq_4 HT_ ?_
  refine yr_ 3 33 bq_5 HT_ ?_
  refine yr_ 5 35 bq_6 HT_ ?_
  refine tr_ 4 34 bq_7 HT_ HW_ hHeld ?_
  refine one_ (i := 6) (N := some 36) bq_8 rfl rfl (one_of HT_.out (by kernel_rfl)) (by decide) (fun K hK => ?_)
  refine goes_ Try.func88 (by kernel_rfl) rfl #[.int .i64 (wrap64 ((wrap64 (x1_1 + 1)) + 1))] (by rfl) rfl rfl tq_0 ?_
  with_reducible refine (laws_markText.calls k1 (wrap64 ((wrap64 (x1_1 + 1)) + 1)) t184 _ A7.out).mono ?_
  rintro e w12 ⟨rfl, hb⟩
  refine ⟨_, rfl, ?_⟩
  have n0_ := Aside0.mk (below_step th_ hb)
  clear HB
  have HB := n0_
  clear n0_
  (try clear hb)
  refine hK.out _ _ ⟨((HB.out.cell (World.block_lt_of_cell? w _ hw183_0)).trans hw183_0), ((HB.out.cell (World.block_lt_of_cell? w _ hw183_1)).trans hw183_1), ((HB.out.cell (World.block_lt_of_cell? w _ hw183_2)).trans hw183_2)⟩ (fun hHeld => ?_)
  clear hK K
  refine nm_ (some 36) ?_
  refine yr_ 7 37 bq_9 HT_ ?_
  refine done_ (done_of HT_.out (by kernel_rfl)) ?_
  try go_wp2
  go_ret
  exact ⟨tq_2, th_⟩
 rw [if_pos c8] at H
 have c8b0 := beq_iff_eq.mpr c8
 have c8b1 := bne_eq_false_iff_eq.mpr c8
 clear c8
 have H' := Aside0.mk H
 clear H
 have p181 : 0 ≤ (x5_1 : Int) := of_decide_eq_true tq_1
 have q181 : x5_1 < (l0.length : Int) := of_decide_eq_true tq_1
 obtain ⟨ad181, e181, hx181_0, hx181_1, hx181_2⟩ := at_T96 HR0.out x5_1 p181 q181
 cases e181
 replace hx181_0 := hx_ HB.out hx181_0
 replace hx181_1 := hx_ HB.out hx181_1
 replace hx181_2 := hx_ HB.out hx181_2
 replace p181 := eq_true p181
 replace q181 := eq_true q181
 have p182 : 0 ≤ (x5_1 : Int) := of_decide_eq_true tq_1
 have q182 : x5_1 < (l0.length : Int) := of_decide_eq_true tq_1
 obtain ⟨ad182, e182, hx182_0, hx182_1, hx182_2⟩ := at_T96 HR0.out x5_1 p182 q182
 obtain rfl : ad181 = ad182 := (by injection e182)
 replace hx182_0 := hx_ HB.out hx182_0
 replace hx182_1 := hx_ HB.out hx182_1
 replace hx182_2 := hx_ HB.out hx182_2
 replace p182 := eq_true p182
 replace q182 := eq_true q182
 try go_wp2
 have n0_ := Aside0.mk (below_drew1 HB.out)
 clear HB
 have HB := n0_
 clear n0_
 have p183 : 0 ≤ (x5_1 : Int) := of_decide_eq_true tq_1
 have q183 : x5_1 < (l0.length : Int) := of_decide_eq_true tq_1
 obtain ⟨ad183, e183, hx183_0, hx183_1, hx183_2⟩ := at_T96 HR0.out x5_1 p183 q183
 have hw183_2 := hx183_2
 have hw183_1 := hx183_1
 have hw183_0 := hx183_0
 obtain rfl : ad181 = ad183 := (by injection e183)
 replace hx183_0 := hx_ HB.out hx183_0
 replace hx183_1 := hx_ HB.out hx183_1
 replace hx183_2 := hx_ HB.out hx183_2
 replace p183 := eq_true p183
 replace q183 := eq_true q183
 refine start_ (n := 8) (S := fun w' => w'.cell? (ad181.add ((x5_1).toNat * 3)) = some (.int .i64 ((rd_T96 l0 x5_1).f0)) ∧ w'.cell? ⟨(ad181.add ((x5_1).toNat * 3)).block, (ad181.add ((x5_1).toNat * 3)).off + 1, none⟩ = some (.int .i64 ((rd_T96 l0 x5_1).f1)) ∧ w'.cell? ⟨(ad181.add ((x5_1).toNat * 3)).block, (ad181.add ((x5_1).toNat * 3)).off + 2, none⟩ = some (.string ((rd_T96 l0 x5_1).f2))) (ds := []) bq_1 (by kernel_rfl) rfl rfl ⟨((HB.out.cell (World.block_lt_of_cell? w _ hw183_0)).trans hw183_0), ((HB.out.cell (World.block_lt_of_cell? w _ hw183_1)).trans hw183_1), ((HB.out.cell (World.block_lt_of_cell? w _ hw183_2)).trans hw183_2)⟩ (fun hHeld => ?_); refine with_tabW laws_heldRecS.tab10 laws_heldRecS.bits10 (fun HT_ HW_ => ?_)
 generalize wr.drew = w9 at HB hx183_0 hx183_1 hx183_2 hHeld ⊢
 refine yr_ 0 30 bq_2 HT_ ?_
 refine yr_ 1 31 bq_3 HT_ ?_
 refine yr_ 2 32 bq_4 HT_ ?_
 refine yr_ 3 33 bq_5 HT_ ?_
 refine yr_ 5 35 bq_6 HT_ ?_
 refine tr_ 4 34 bq_7 HT_ HW_ hHeld ?_
 refine one_ (i := 6) (N := some 36) bq_8 rfl rfl (one_of HT_.out (by kernel_rfl)) (by decide) (fun K hK => ?_)
 refine goes_ Try.func88 (by kernel_rfl) rfl #[.int .i64 (wrap64 ((wrap64 (x1_1 + 1)) + 1))] (by rfl) rfl rfl tq_0 ?_
 with_reducible refine (laws_markText.calls k1 (wrap64 ((wrap64 (x1_1 + 1)) + 1)) t184 _ A7.out).mono ?_
 rintro e w10 ⟨rfl, hb⟩
 refine ⟨_, rfl, ?_⟩
 have n0_ := Aside0.mk (below_step th_ hb)
 clear HB
 have HB := n0_
 clear n0_
 (try clear hb)
 refine hK.out _ _ ⟨((HB.out.cell (World.block_lt_of_cell? w _ hw183_0)).trans hw183_0), ((HB.out.cell (World.block_lt_of_cell? w _ hw183_1)).trans hw183_1), ((HB.out.cell (World.block_lt_of_cell? w _ hw183_2)).trans hw183_2)⟩ (fun hHeld => ?_)
 clear hK K
 refine nm_ (some 36) ?_
 refine yr_ 7 37 bq_9 HT_ ?_
 refine done_ (done_of HT_.out (by kernel_rfl)) ?_
 try go_wp2
 go_roundg k1
 case measure => have := HK1.out; omega
 case rel => exact ⟨(wrap64 ((wrap64 ((wrap64 (x1_1 + 1)) + 1)) + 1)), (wrap64 (x5_1 + 1)), tq_13, tq_13, H', ⟨tq_40⟩, ⟨th_⟩⟩

/-! ### laws_heldEntryS: function 92 -/
def laws_heldEntryS.l0 : Nat → List (S67) → Int → Int → Option (Int)
 | 0, _, _, _ => none
 | k + 1, x0, x1, x5 => if x5 < (x0.length : Int) then (if 0 ≤ x5 then (if ((rd_T67 x0 x5).f0) = x1 then ((laws_markText.f k (wrap64 (x1 + 1))).bind fun t187 => (if ((rd_T67 x0 x5).f1).toList = t187.toList then (laws_heldEntryS.l0 k x0 (wrap64 ((wrap64 (x1 + 1)) + 1)) (wrap64 (x5 + 1))) else (some (-1)))) else (some (-1))) else (none)) else (some x1)
def laws_heldEntryS.f (k : Nat) (l0 : List (S67)) (a1 : Int) : Option (Int) := laws_heldEntryS.l0 k l0 a1 0
theorem laws_heldEntryS.mono_l : ∀ k, (∀ y0 y1 y2, LeO (laws_heldEntryS.l0 k y0 y1 y2) (laws_heldEntryS.l0 (k + 1) y0 y1 y2))
 | 0 => fun _ _ _ r h => by simp [laws_heldEntryS.l0] at h
 | k + 1 => by
  have ih0 := laws_heldEntryS.mono_l k
  ·intro y0 y1 y2
   unfold laws_heldEntryS.l0
   exact mo_1
theorem laws_heldEntryS.mono : ∀ a0 a1 k, LeO (laws_heldEntryS.f k a0 a1) (laws_heldEntryS.f (k + 1) a0 a1) := by
 intro a0 a1 k
 have ih0 := laws_heldEntryS.mono_l k
 unfold laws_heldEntryS.f
 repeat' first
   | (with_reducible exact ih0 ..)
   | (with_reducible exact laws_markText.mono ..)
   | (with_reducible exact LeO.refl _)
   | (with_reducible exact LeO.none _)
   | (with_reducible refine LeO.ite ?_ ?_)
   | (with_reducible refine LeO.bind ?_ (fun _ => ?_))
   | exact ih0 ..
   | exact laws_markText.mono ..
   | exact LeO.none _
   | refine LeO.ite ?_ ?_
   | refine LeO.bind ?_ (fun _ => ?_)
def laws_heldEntryS.T7 : Bool × List (List Nat × List Nat) := (true, [([], []), ([], []), ([0, 1], [0, 1]), ([2], [2]), ([3], [3]), ([], []), ([5], [5]), ([4, 6], [4, 6])])
def laws_heldEntryS.B7 : List Nat := [0, 0, 3, 7, 15, 0, 32, 127]
theorem laws_heldEntryS.tab7 : rtab .any (opsOf Try.f92 7) = laws_heldEntryS.T7 := by kernel_rfl
theorem laws_heldEntryS.bits7 : waitsOk laws_heldEntryS.T7.2 laws_heldEntryS.B7 = true := by kernel_rfl
set_option maxHeartbeats 8000000 in
set_option maxRecDepth 100000 in
theorem laws_heldEntryS.calls (k : Nat) (A0 : Option Addr) (c0 : Nat) (l0 : List (S67)) (a1 : Int) (r : Int) (w : World) (hr0 : Kd.C k67 w A0 l0.length l0) (hc0 : l0.length ≤ c0) (h : laws_heldEntryS.f k l0 a1 = some r) :
  Calls Try.prog 92 #[.slice A0 l0.length c0, .int .i64 a1] w fun e w' => e = .returned (.int .i64 r) ∧ Below w.heap.size w w' := by
 have HR0 := Aside0.mk hr0
 have HC0 := Aside0.mk hc0
 clear hr0 hc0
 have HB := Aside0.mk (Below.refl w.heap.size w)
 unfold laws_heldEntryS.f at h
 have H := h
 clear h
 have H' := Aside0.mk H
 clear H
 go_enter Try.func92, Try.ntmps92
 go_wp2
 go_loopg [1, 5] k (fun kq v1 v5 w' => ∃ (x1_1 : Int) (x5_1 : Int), v1 = .int .i64 x1_1 ∧ v5 = .int .i64 x5_1 ∧ Aside0 (laws_heldEntryS.l0 kq l0 x1_1 x5_1 = some r) ∧ Aside0 (kq ≤ k) ∧ Aside0 (Below w.heap.size w w'))
 case atStart => exact ⟨(a1), (0), tq_13, tq_13, H', ⟨Nat.le_refl _⟩, ⟨th_⟩⟩
 case round =>
 clear H'
 try clear p2
 obtain ⟨x1_1, x5_1, rfl, rfl, HA, HK1, HB⟩ := hrel
 cases gk with
 | zero => exact absurd HA.out (by simp [laws_heldEntryS.l0])
 | succ k1 =>
 have H := HA.out
 clear HA
 simp only [laws_heldEntryS.l0] at H
 by_cases c3 : x5_1 < (l0.length : Int)
 rotate_left
 ·rw [if_neg c3] at H
  have c3b0 := decide_eq_false c3
  clear c3
  obtain rfl := Option.some.inj H
  go_wp2
  go_ret
  exact ⟨tq_2, th_⟩
 rw [if_pos c3] at H
 have c3b0 := decide_eq_true c3
 clear c3
 obtain ⟨c4, H⟩ := fc_ H
 have c4b0 := decide_eq_true c4
 clear c4
 by_cases c5 : ((rd_T67 l0 x5_1).f0) = x1_1
 rotate_left
 ·rw [if_neg c5] at H
  have c5b0 := beq_eq_false_iff_ne.mpr c5
  have c5b1 := bne_iff_ne.mpr c5
  obtain rfl := Option.some.inj H
  have p185 : 0 ≤ (x5_1 : Int) := of_decide_eq_true tq_1
  have q185 : x5_1 < (l0.length : Int) := of_decide_eq_true tq_1
  obtain ⟨ad185, e185, hx185_0, hx185_1⟩ := at_T67 HR0.out x5_1 p185 q185
  cases e185
  replace hx185_0 := hx_ HB.out hx185_0
  replace hx185_1 := hx_ HB.out hx185_1
  replace p185 := eq_true p185
  replace q185 := eq_true q185
  go_wp2
  go_ret
  exact ⟨tq_2, th_⟩
 rw [if_pos c5] at H
 have c5b0 := beq_iff_eq.mpr c5
 have c5b1 := bne_eq_false_iff_eq.mpr c5
 clear c5
 obtain ⟨t187, A6, H⟩ := bd_ H
 by_cases c7 : ((rd_T67 l0 x5_1).f1).toList = t187.toList
 rotate_left
 ·rw [if_neg c7] at H
  have c7b0 := beq_eq_false_iff_ne.mpr c7
  have c7b1 := bne_iff_ne.mpr c7
  obtain rfl := Option.some.inj H
  have p185 : 0 ≤ (x5_1 : Int) := of_decide_eq_true tq_1
  have q185 : x5_1 < (l0.length : Int) := of_decide_eq_true tq_1
  obtain ⟨ad185, e185, hx185_0, hx185_1⟩ := at_T67 HR0.out x5_1 p185 q185
  cases e185
  replace hx185_0 := hx_ HB.out hx185_0
  replace hx185_1 := hx_ HB.out hx185_1
  replace p185 := eq_true p185
  replace q185 := eq_true q185
  try go_wp2
  have n0_ := Aside0.mk (below_drew1 HB.out)
  clear HB
  have HB := n0_
  clear n0_
  have p186 : 0 ≤ (x5_1 : Int) := of_decide_eq_true tq_1
  have q186 : x5_1 < (l0.length : Int) := of_decide_eq_true tq_1
  obtain ⟨ad186, e186, hx186_0, hx186_1⟩ := at_T67 HR0.out x5_1 p186 q186
  have hw186_1 := hx186_1
  have hw186_0 := hx186_0
  obtain rfl : ad185 = ad186 := (by injection e186)
  replace hx186_0 := hx_ HB.out hx186_0
  replace hx186_1 := hx_ HB.out hx186_1
  replace p186 := eq_true p186
  replace q186 := eq_true q186
  refine start_ (n := 8) (S := fun w' => w'.cell? (ad185.add ((x5_1).toNat * 2)) = some (.int .i64 ((rd_T67 l0 x5_1).f0)) ∧ w'.cell? ⟨(ad185.add ((x5_1).toNat * 2)).block, (ad185.add ((x5_1).toNat * 2)).off + 1, none⟩ = some (.string ((rd_T67 l0 x5_1).f1))) (ds := []) bq_1 (by kernel_rfl) rfl rfl ⟨((HB.out.cell (World.block_lt_of_cell? w _ hw186_0)).trans hw186_0), ((HB.out.cell (World.block_lt_of_cell? w _ hw186_1)).trans hw186_1)⟩ (fun hHeld => ?_); refine with_tabW laws_heldEntryS.tab7 laws_heldEntryS.bits7 (fun HT_ HW_ => ?_)
  generalize wr.drew = w10 at HB hx186_0 hx186_1 hHeld ⊢
  refine yr_ 0 21 bq_2 HT_ ?_
  refine yr_ 1 22 bq_3 HT_ ?_
  refine yr_ 2 23 bq_4 HT_ ?_
  refine yr_ 3 24 bq_5 HT_ ?_
  refine yr_ 5 26 bq_6 HT_ ?_
  refine tr_ 4 25 bq_7 HT_ HW_ hHeld ?_
  refine one_ (i := 6) (N := some 27) bq_8 rfl rfl (one_of HT_.out (by kernel_rfl)) (by decide) (fun K hK => ?_)
  refine goes_ Try.func88 (by kernel_rfl) rfl #[.int .i64 (wrap64 (x1_1 + 1))] (by rfl) rfl rfl tq_0 ?_
  with_reducible refine (laws_markText.calls k1 (wrap64 (x1_1 + 1)) t187 _ A6.out).mono ?_
  rintro e w11 ⟨rfl, hb⟩
  refine ⟨_, rfl, ?_⟩
  have n0_ := Aside0.mk (below_step th_ hb)
  clear HB
  have HB := n0_
  clear n0_
  (try clear hb)
  refine hK.out _ _ ⟨((HB.out.cell (World.block_lt_of_cell? w _ hw186_0)).trans hw186_0), ((HB.out.cell (World.block_lt_of_cell? w _ hw186_1)).trans hw186_1)⟩ (fun hHeld => ?_)
  clear hK K
  refine nm_ (some 27) ?_
  refine yr_ 7 28 bq_9 HT_ ?_
  refine done_ (done_of HT_.out (by kernel_rfl)) ?_
  try go_wp2
  go_ret
  exact ⟨tq_2, th_⟩
 rw [if_pos c7] at H
 have c7b0 := beq_iff_eq.mpr c7
 have c7b1 := bne_eq_false_iff_eq.mpr c7
 clear c7
 have H' := Aside0.mk H
 clear H
 have p185 : 0 ≤ (x5_1 : Int) := of_decide_eq_true tq_1
 have q185 : x5_1 < (l0.length : Int) := of_decide_eq_true tq_1
 obtain ⟨ad185, e185, hx185_0, hx185_1⟩ := at_T67 HR0.out x5_1 p185 q185
 cases e185
 replace hx185_0 := hx_ HB.out hx185_0
 replace hx185_1 := hx_ HB.out hx185_1
 replace p185 := eq_true p185
 replace q185 := eq_true q185
 try go_wp2
 have n0_ := Aside0.mk (below_drew1 HB.out)
 clear HB
 have HB := n0_
 clear n0_
 have p186 : 0 ≤ (x5_1 : Int) := of_decide_eq_true tq_1
 have q186 : x5_1 < (l0.length : Int) := of_decide_eq_true tq_1
 obtain ⟨ad186, e186, hx186_0, hx186_1⟩ := at_T67 HR0.out x5_1 p186 q186
 have hw186_1 := hx186_1
 have hw186_0 := hx186_0
 obtain rfl : ad185 = ad186 := (by injection e186)
 replace hx186_0 := hx_ HB.out hx186_0
 replace hx186_1 := hx_ HB.out hx186_1
 replace p186 := eq_true p186
 replace q186 := eq_true q186
 refine start_ (n := 8) (S := fun w' => w'.cell? (ad185.add ((x5_1).toNat * 2)) = some (.int .i64 ((rd_T67 l0 x5_1).f0)) ∧ w'.cell? ⟨(ad185.add ((x5_1).toNat * 2)).block, (ad185.add ((x5_1).toNat * 2)).off + 1, none⟩ = some (.string ((rd_T67 l0 x5_1).f1))) (ds := []) bq_1 (by kernel_rfl) rfl rfl ⟨((HB.out.cell (World.block_lt_of_cell? w _ hw186_0)).trans hw186_0), ((HB.out.cell (World.block_lt_of_cell? w _ hw186_1)).trans hw186_1)⟩ (fun hHeld => ?_); refine with_tabW laws_heldEntryS.tab7 laws_heldEntryS.bits7 (fun HT_ HW_ => ?_)
 generalize wr.drew = w8 at HB hx186_0 hx186_1 hHeld ⊢
 refine yr_ 0 21 bq_2 HT_ ?_
 refine yr_ 1 22 bq_3 HT_ ?_
 refine yr_ 2 23 bq_4 HT_ ?_
 refine yr_ 3 24 bq_5 HT_ ?_
 refine yr_ 5 26 bq_6 HT_ ?_
 refine tr_ 4 25 bq_7 HT_ HW_ hHeld ?_
 refine one_ (i := 6) (N := some 27) bq_8 rfl rfl (one_of HT_.out (by kernel_rfl)) (by decide) (fun K hK => ?_)
 refine goes_ Try.func88 (by kernel_rfl) rfl #[.int .i64 (wrap64 (x1_1 + 1))] (by rfl) rfl rfl tq_0 ?_
 with_reducible refine (laws_markText.calls k1 (wrap64 (x1_1 + 1)) t187 _ A6.out).mono ?_
 rintro e w9 ⟨rfl, hb⟩
 refine ⟨_, rfl, ?_⟩
 have n0_ := Aside0.mk (below_step th_ hb)
 clear HB
 have HB := n0_
 clear n0_
 (try clear hb)
 refine hK.out _ _ ⟨((HB.out.cell (World.block_lt_of_cell? w _ hw186_0)).trans hw186_0), ((HB.out.cell (World.block_lt_of_cell? w _ hw186_1)).trans hw186_1)⟩ (fun hHeld => ?_)
 clear hK K
 refine nm_ (some 27) ?_
 refine yr_ 7 28 bq_9 HT_ ?_
 refine done_ (done_of HT_.out (by kernel_rfl)) ?_
 try go_wp2
 go_roundg k1
 case measure => have := HK1.out; omega
 case rel => exact ⟨(wrap64 ((wrap64 (x1_1 + 1)) + 1)), (wrap64 (x5_1 + 1)), tq_13, tq_13, H', ⟨tq_40⟩, ⟨th_⟩⟩

end Go.Proofs.Ytljnnmpfeningaa.PFnExactPartNew
