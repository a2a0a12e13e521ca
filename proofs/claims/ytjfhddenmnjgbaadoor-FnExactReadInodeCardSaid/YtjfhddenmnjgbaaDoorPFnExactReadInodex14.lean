/- Contracts of Go functions, written by a program of ours over the print of the kit: each says that the call returns what the Lean function beside it computes. Conditions: as each theorem states them. -/
import Derived.Test.YtjfhddenmnjgbaaDoorPkFnExactReadInode
import Derived.Test.YtjfhddenmnjgbaaDoorPFnExactReadInodex0
namespace Go.Proofs.YtjfhddenmnjgbaaDoor.PFnExactReadInode
open Go.RowKit Go.Proofs.YtjfhddenmnjgbaaDoorW.PrintWords Go.Proofs.YtjfhddenmnjgbaaDoorW.PrintLast Go.Proofs.YtjfhddenmnjgbaaDoorW.PrintMore
attribute [local go_sem] max2_int min2_int max_two min_two max_three min_three max_four min_four setCell_drewN   -- for this text's walks alone
set_option linter.unusedVariables false
set_option linter.unusedSimpArgs false

/-! ### laws_eqRec: function 70 -/
def laws_eqRec.f (a0_0 : Int) (a0_1 : Int) (a0_2 : ByteArray) (a1_0 : Int) (a1_1 : Int) (a1_2 : ByteArray) : Option (Bool) := if a0_0 = a1_0 then (if a0_1 = a1_1 then (if a0_2.toList = a1_2.toList then (some true) else (some false)) else (some false)) else (some false)
set_option maxHeartbeats 8000000 in
set_option maxRecDepth 100000 in
theorem laws_eqRec.calls (a0_0 : Int) (a0_1 : Int) (a0_2 : ByteArray) (a1_0 : Int) (a1_1 : Int) (a1_2 : ByteArray) (r : Bool) (w : World) (h : laws_eqRec.f a0_0 a0_1 a0_2 a1_0 a1_1 a1_2 = some r) :
  Calls Tryd.prog 70 #[.agg #[.int .i64 a0_0, .int .i64 a0_1, .string a0_2], .agg #[.int .i64 a1_0, .int .i64 a1_1, .string a1_2]] w fun e w' => e = .returned (.bool r) ∧ Below w.heap.size w w' := by
 have hu42 := Tryd.underlying42
 have HB := Aside0.mk (Below.refl w.heap.size w)
 unfold laws_eqRec.f at h
 have H := h
 clear h
 by_cases c3 : a0_0 = a1_0
 rotate_left
 ·rw [if_neg c3] at H
  have c3b0 := beq_eq_false_iff_ne.mpr c3
  have c3b1 := bne_iff_ne.mpr c3
  obtain rfl := Option.some.inj H
  go_enter Tryd.func70, Tryd.ntmps70
  go_wp2_with (first | ((with_reducible refine gate_dst (N := 2) rfl ?_); refine be_ 2 (cs := #[.int .i64 a0_0, .int .i64 a0_1, .string a0_2]) 42 ?_; intro gb340 hg w21 hbox hb; have z_ := bx0_ th_ hb hbox hg; clear HB; obtain ⟨HB, BK340, GW340, GE340⟩ := z_; clear hb hbox hg) | ((with_reducible refine gate_dst (N := 3) rfl ?_); refine be_ 3 (cs := #[.int .i64 a1_0, .int .i64 a1_1, .string a1_2]) 42 ?_; intro gb341 hg w22 hbox hb; have z_ := bx1_ (kb_ BK340) th_ hb hbox hg; clear BK340 HB; obtain ⟨BK340, HB, BK341, GW341, GE341, NB340_341, NB341_340⟩ := z_; clear hb hbox hg; obtain ⟨n340_341, n341_340⟩ := an2_ NB340_341 NB341_340; obtain ⟨hcz24_0, hcz24_1, hcz24_2⟩ := bk3_ BK340.out; obtain ⟨hfz24_0, hfz24_1, hfz24_2⟩ := bf3_ BK340.out; obtain ⟨hcz25_0, hcz25_1, hcz25_2⟩ := bk3_ BK341.out; obtain ⟨hfz25_0, hfz25_1, hfz25_2⟩ := bf3_ BK341.out))
  go_ret
  exact ⟨tq_2, th_⟩
 rw [if_pos c3] at H
 have c3b0 := beq_iff_eq.mpr c3
 have c3b1 := bne_eq_false_iff_eq.mpr c3
 clear c3
 by_cases c4 : a0_1 = a1_1
 rotate_left
 ·rw [if_neg c4] at H
  have c4b0 := beq_eq_false_iff_ne.mpr c4
  have c4b1 := bne_iff_ne.mpr c4
  obtain rfl := Option.some.inj H
  go_enter Tryd.func70, Tryd.ntmps70
  go_wp2_with (first | ((with_reducible refine gate_dst (N := 2) rfl ?_); refine be_ 2 (cs := #[.int .i64 a0_0, .int .i64 a0_1, .string a0_2]) 42 ?_; intro gb340 hg w16 hbox hb; have z_ := bx0_ th_ hb hbox hg; clear HB; obtain ⟨HB, BK340, GW340, GE340⟩ := z_; clear hb hbox hg) | ((with_reducible refine gate_dst (N := 3) rfl ?_); refine be_ 3 (cs := #[.int .i64 a1_0, .int .i64 a1_1, .string a1_2]) 42 ?_; intro gb341 hg w17 hbox hb; have z_ := bx1_ (kb_ BK340) th_ hb hbox hg; clear BK340 HB; obtain ⟨BK340, HB, BK341, GW341, GE341, NB340_341, NB341_340⟩ := z_; clear hb hbox hg; obtain ⟨n340_341, n341_340⟩ := an2_ NB340_341 NB341_340; obtain ⟨hcz19_0, hcz19_1, hcz19_2⟩ := bk3_ BK340.out; obtain ⟨hfz19_0, hfz19_1, hfz19_2⟩ := bf3_ BK340.out; obtain ⟨hcz20_0, hcz20_1, hcz20_2⟩ := bk3_ BK341.out; obtain ⟨hfz20_0, hfz20_1, hfz20_2⟩ := bf3_ BK341.out))
  go_ret
  exact ⟨tq_2, th_⟩
 rw [if_pos c4] at H
 have c4b0 := beq_iff_eq.mpr c4
 have c4b1 := bne_eq_false_iff_eq.mpr c4
 clear c4
 by_cases c5 : a0_2.toList = a1_2.toList
 rotate_left
 ·rw [if_neg c5] at H
  have c5b0 := beq_eq_false_iff_ne.mpr c5
  have c5b1 := bne_iff_ne.mpr c5
  obtain rfl := Option.some.inj H
  go_enter Tryd.func70, Tryd.ntmps70
  go_wp2_with (first | ((with_reducible refine gate_dst (N := 2) rfl ?_); refine be_ 2 (cs := #[.int .i64 a0_0, .int .i64 a0_1, .string a0_2]) 42 ?_; intro gb340 hg w11 hbox hb; have z_ := bx0_ th_ hb hbox hg; clear HB; obtain ⟨HB, BK340, GW340, GE340⟩ := z_; clear hb hbox hg) | ((with_reducible refine gate_dst (N := 3) rfl ?_); refine be_ 3 (cs := #[.int .i64 a1_0, .int .i64 a1_1, .string a1_2]) 42 ?_; intro gb341 hg w12 hbox hb; have z_ := bx1_ (kb_ BK340) th_ hb hbox hg; clear BK340 HB; obtain ⟨BK340, HB, BK341, GW341, GE341, NB340_341, NB341_340⟩ := z_; clear hb hbox hg; obtain ⟨n340_341, n341_340⟩ := an2_ NB340_341 NB341_340; obtain ⟨hcz14_0, hcz14_1, hcz14_2⟩ := bk3_ BK340.out; obtain ⟨hfz14_0, hfz14_1, hfz14_2⟩ := bf3_ BK340.out; obtain ⟨hcz15_0, hcz15_1, hcz15_2⟩ := bk3_ BK341.out; obtain ⟨hfz15_0, hfz15_1, hfz15_2⟩ := bf3_ BK341.out))
  go_ret
  exact ⟨tq_2, th_⟩
 rw [if_pos c5] at H
 have c5b0 := beq_iff_eq.mpr c5
 have c5b1 := bne_eq_false_iff_eq.mpr c5
 clear c5
 obtain rfl := Option.some.inj H
 go_enter Tryd.func70, Tryd.ntmps70
 go_wp2_with (first | ((with_reducible refine gate_dst (N := 2) rfl ?_); refine be_ 2 (cs := #[.int .i64 a0_0, .int .i64 a0_1, .string a0_2]) 42 ?_; intro gb340 hg w6 hbox hb; have z_ := bx0_ th_ hb hbox hg; clear HB; obtain ⟨HB, BK340, GW340, GE340⟩ := z_; clear hb hbox hg) | ((with_reducible refine gate_dst (N := 3) rfl ?_); refine be_ 3 (cs := #[.int .i64 a1_0, .int .i64 a1_1, .string a1_2]) 42 ?_; intro gb341 hg w7 hbox hb; have z_ := bx1_ (kb_ BK340) th_ hb hbox hg; clear BK340 HB; obtain ⟨BK340, HB, BK341, GW341, GE341, NB340_341, NB341_340⟩ := z_; clear hb hbox hg; obtain ⟨n340_341, n341_340⟩ := an2_ NB340_341 NB341_340; obtain ⟨hcz9_0, hcz9_1, hcz9_2⟩ := bk3_ BK340.out; obtain ⟨hfz9_0, hfz9_1, hfz9_2⟩ := bf3_ BK340.out; obtain ⟨hcz10_0, hcz10_1, hcz10_2⟩ := bk3_ BK341.out; obtain ⟨hfz10_0, hfz10_1, hfz10_2⟩ := bf3_ BK341.out))
 go_ret
 exact ⟨tq_2, th_⟩

/-! ### laws_eqRecS: function 41 -/
def laws_eqRecS.l0 : Nat → List (S42) → List (S42) → Int → Option (Bool)
 | 0, _, _, _ => none
 | k + 1, x0, x1, x5 => if x5 < (x0.length : Int) then (if 0 ≤ x5 then (if x5 < (x1.length : Int) then ((laws_eqRec.f ((rd_T42 x0 x5).f0) ((rd_T42 x0 x5).f1) ((rd_T42 x0 x5).f2) ((rd_T42 x1 x5).f0) ((rd_T42 x1 x5).f1) ((rd_T42 x1 x5).f2)).bind fun t344 => (if t344 = true then (laws_eqRecS.l0 k x0 x1 (wrap64 (x5 + 1))) else (some false))) else (none)) else (none)) else (some true)
def laws_eqRecS.f (k : Nat) (l0 : List (S42)) (l1 : List (S42)) : Option (Bool) := if (l0.length : Int) = (l1.length : Int) then (laws_eqRecS.l0 k l0 l1 0) else (some false)
theorem laws_eqRecS.mono_l : ∀ k, (∀ y0 y1 y2, LeO (laws_eqRecS.l0 k y0 y1 y2) (laws_eqRecS.l0 (k + 1) y0 y1 y2))
 | 0 => fun _ _ _ r h => by simp [laws_eqRecS.l0] at h
 | k + 1 => by
  have ih0 := laws_eqRecS.mono_l k
  ·intro y0 y1 y2
   unfold laws_eqRecS.l0
   exact mo_0
theorem laws_eqRecS.mono : ∀ a0 a1 k, LeO (laws_eqRecS.f k a0 a1) (laws_eqRecS.f (k + 1) a0 a1) := by
 intro a0 a1 k
 have ih0 := laws_eqRecS.mono_l k
 unfold laws_eqRecS.f
 repeat' first
   | (with_reducible exact ih0 ..)
   | (with_reducible exact LeO.refl _)
   | (with_reducible exact LeO.none _)
   | (with_reducible refine LeO.ite ?_ ?_)
   | (with_reducible refine LeO.bind ?_ (fun _ => ?_))
   | exact ih0 ..
   | exact LeO.none _
   | refine LeO.ite ?_ ?_
   | refine LeO.bind ?_ (fun _ => ?_)
def laws_eqRecS.T6 : Bool × List (List Nat × List Nat) := (true, [([], []), ([], []), ([0, 1], [0, 1]), ([2], [2]), ([], []), ([], []), ([4, 5], [4, 5]), ([6], [6]), ([3, 7], [3, 7]), ([8], [8])])
def laws_eqRecS.B6 : List Nat := [0, 0, 3, 7, 0, 0, 48, 112, 255, 511]
theorem laws_eqRecS.tab6 : rtab .any (opsOf Tryd.f41 6) = laws_eqRecS.T6 := by kernel_rfl
theorem laws_eqRecS.bits6 : waitsOk laws_eqRecS.T6.2 laws_eqRecS.B6 = true := by kernel_rfl
set_option maxHeartbeats 8000000 in
set_option maxRecDepth 100000 in
theorem laws_eqRecS.calls (k : Nat) (A0 : Option Addr) (c0 : Nat) (l0 : List (S42)) (A1 : Option Addr) (c1 : Nat) (l1 : List (S42)) (r : Bool) (w : World) (hr0 : Kd.C k42 w A0 l0.length l0) (hc0 : l0.length ≤ c0) (hr1 : Kd.C k42 w A1 l1.length l1) (hc1 : l1.length ≤ c1) (h : laws_eqRecS.f k l0 l1 = some r) :
  Calls Tryd.prog 41 #[.slice A0 l0.length c0, .slice A1 l1.length c1] w fun e w' => e = .returned (.bool r) ∧ Below w.heap.size w w' := by
 have hu42 := Tryd.underlying42
 have HR0 := Aside0.mk hr0
 have HC0 := Aside0.mk hc0
 clear hr0 hc0
 have HR1 := Aside0.mk hr1
 have HC1 := Aside0.mk hc1
 clear hr1 hc1
 have HB := Aside0.mk (Below.refl w.heap.size w)
 unfold laws_eqRecS.f at h
 have H := h
 clear h
 by_cases c3 : (l0.length : Int) = (l1.length : Int)
 rotate_left
 ·rw [if_neg c3] at H
  have c3b0 := beq_eq_false_iff_ne.mpr c3
  have c3b1 := bne_iff_ne.mpr c3
  have c3b2 : (l0.length == l1.length) = false := by first | simpa using c3 | (simp at c3 ⊢; omega)
  obtain rfl := Option.some.inj H
  go_enter Tryd.func41, Tryd.ntmps41
  go_wp2
  go_ret
  exact ⟨tq_2, th_⟩
 rw [if_pos c3] at H
 have c3b0 := beq_iff_eq.mpr c3
 have c3b1 := bne_eq_false_iff_eq.mpr c3
 have c3b2 : (l0.length == l1.length) = true := by first | simpa using c3 | (simp at c3 ⊢; omega)
 clear c3
 have H' := Aside0.mk H
 clear H
 go_enter Tryd.func41, Tryd.ntmps41
 go_wp2
 go_loopg [5] k (fun kq v5 w' => ∃ (x5_1 : Int), v5 = .int .i64 x5_1 ∧ Aside0 (laws_eqRecS.l0 kq l0 l1 x5_1 = some r) ∧ Aside0 (kq ≤ k) ∧ Aside0 (Below w.heap.size w w'))
 case atStart => exact ⟨(0), tq_3, H', ⟨Nat.le_refl _⟩, ⟨th_⟩⟩
 case round =>
 clear H'
 try clear c1; try clear p2; try clear c3; try clear c3b0; try clear c3b1; try clear c3b2
 obtain ⟨x5_1, rfl, HA, HK1, HB⟩ := hrel
 cases gk with
 | zero => exact absurd HA.out (by simp [laws_eqRecS.l0])
 | succ k1 =>
 have H := HA.out
 clear HA
 simp only [laws_eqRecS.l0] at H
 by_cases c4 : x5_1 < (l0.length : Int)
 rotate_left
 ·rw [if_neg c4] at H
  have c4b0 := decide_eq_false c4
  clear c4
  obtain rfl := Option.some.inj H
  go_wp2
  go_ret
  exact ⟨tq_2, th_⟩
 rw [if_pos c4] at H
 have c4b0 := decide_eq_true c4
 clear c4
 obtain ⟨c5, H⟩ := fc_ H
 have c5b0 := decide_eq_true c5
 clear c5
 obtain ⟨c6, H⟩ := fc_ H
 have c6b0 := decide_eq_true c6
 clear c6
 obtain ⟨t344, A7, H⟩ := bd_ H
 by_cases c8 : t344 = true
 rotate_left
 ·replace c8 := Bool.eq_false_iff.mpr c8
  subst c8
  rw [if_neg nf_] at H
  obtain rfl := Option.some.inj H
  try go_wp2
  have n0_ := Aside0.mk (below_drew1 HB.out)
  clear HB
  have HB := n0_
  clear n0_
  have p342 : 0 ≤ (x5_1 : Int) := of_decide_eq_true tq_1
  have q342 : x5_1 < (l0.length : Int) := of_decide_eq_true tq_1
  obtain ⟨ad342, e342, hx342_0, hx342_1, hx342_2⟩ := at_T42 HR0.out x5_1 p342 q342
  have hw342_2 := hx342_2
  have hw342_1 := hx342_1
  have hw342_0 := hx342_0
  cases e342
  replace hx342_0 := hx_ HB.out hx342_0
  replace hx342_1 := hx_ HB.out hx342_1
  replace hx342_2 := hx_ HB.out hx342_2
  replace p342 := eq_true p342
  replace q342 := eq_true q342
  have p343 : 0 ≤ (x5_1 : Int) := of_decide_eq_true tq_1
  have q343 : x5_1 < (l1.length : Int) := of_decide_eq_true tq_1
  obtain ⟨ad343, e343, hx343_0, hx343_1, hx343_2⟩ := at_T42 HR1.out x5_1 p343 q343
  have hw343_2 := hx343_2
  have hw343_1 := hx343_1
  have hw343_0 := hx343_0
  cases e343
  replace hx343_0 := hx_ HB.out hx343_0
  replace hx343_1 := hx_ HB.out hx343_1
  replace hx343_2 := hx_ HB.out hx343_2
  replace p343 := eq_true p343
  replace q343 := eq_true q343
  refine start_ (n := 10) (S := fun w' => w'.cell? (ad342.add ((x5_1).toNat * 3)) = some (.int .i64 ((rd_T42 l0 x5_1).f0)) ∧ w'.cell? ⟨(ad342.add ((x5_1).toNat * 3)).block, (ad342.add ((x5_1).toNat * 3)).off + 1, none⟩ = some (.int .i64 ((rd_T42 l0 x5_1).f1)) ∧ w'.cell? ⟨(ad342.add ((x5_1).toNat * 3)).block, (ad342.add ((x5_1).toNat * 3)).off + 2, none⟩ = some (.string ((rd_T42 l0 x5_1).f2)) ∧ w'.cell? (ad343.add ((x5_1).toNat * 3)) = some (.int .i64 ((rd_T42 l1 x5_1).f0)) ∧ w'.cell? ⟨(ad343.add ((x5_1).toNat * 3)).block, (ad343.add ((x5_1).toNat * 3)).off + 1, none⟩ = some (.int .i64 ((rd_T42 l1 x5_1).f1)) ∧ w'.cell? ⟨(ad343.add ((x5_1).toNat * 3)).block, (ad343.add ((x5_1).toNat * 3)).off + 2, none⟩ = some (.string ((rd_T42 l1 x5_1).f2))) (ds := []) bq_75 (by kernel_rfl) rfl rfl ⟨((HB.out.cell (World.block_lt_of_cell? w _ hw342_0)).trans hw342_0), ((HB.out.cell (World.block_lt_of_cell? w _ hw342_1)).trans hw342_1), ((HB.out.cell (World.block_lt_of_cell? w _ hw342_2)).trans hw342_2), ((HB.out.cell (World.block_lt_of_cell? w _ hw343_0)).trans hw343_0), ((HB.out.cell (World.block_lt_of_cell? w _ hw343_1)).trans hw343_1), ((HB.out.cell (World.block_lt_of_cell? w _ hw343_2)).trans hw343_2)⟩ (fun hHeld => ?_); refine with_tabW laws_eqRecS.tab6 laws_eqRecS.bits6 (fun HT_ HW_ => ?_)
  generalize wr.drew = w11 at HB hx342_0 hx342_1 hx342_2 hx343_0 hx343_1 hx343_2 hHeld ⊢
  refine yr_ 0 17 bq_76 HT_ ?_
  refine yr_ 1 18 bq_77 HT_ ?_
  refine yr_ 2 19 bq_78 HT_ ?_
  refine yr_ 4 21 bq_79 HT_ ?_
  refine yr_ 5 22 bq_80 HT_ ?_
  refine yr_ 6 23 bq_81 HT_ ?_
  refine tr_ 3 20 bq_82 HT_ HW_ hHeld ?_
  refine tr_ 7 24 bq_83 HT_ HW_ hHeld ?_
  refine one_ (i := 8) (N := some 25) bq_84 rfl rfl (one_of HT_.out (by kernel_rfl)) (by decide) (fun K hK => ?_)
  refine goes_ Tryd.func70 (by kernel_rfl) rfl #[.agg #[.int .i64 ((rd_T42 l0 x5_1).f0), .int .i64 ((rd_T42 l0 x5_1).f1), .string ((rd_T42 l0 x5_1).f2)], .agg #[.int .i64 ((rd_T42 l1 x5_1).f0), .int .i64 ((rd_T42 l1 x5_1).f1), .string ((rd_T42 l1 x5_1).f2)]] (by rfl) rfl rfl tq_0 ?_
  with_reducible refine (laws_eqRec.calls ((rd_T42 l0 x5_1).f0) ((rd_T42 l0 x5_1).f1) ((rd_T42 l0 x5_1).f2) ((rd_T42 l1 x5_1).f0) ((rd_T42 l1 x5_1).f1) ((rd_T42 l1 x5_1).f2) false _ A7.out).mono ?_
  rintro e w12 ⟨rfl, hb⟩
  refine ⟨_, rfl, ?_⟩
  have n0_ := Aside0.mk (below_step th_ hb)
  clear HB
  have HB := n0_
  clear n0_
  (try clear hb)
  refine hK.out _ _ ⟨((HB.out.cell (World.block_lt_of_cell? w _ hw342_0)).trans hw342_0), ((HB.out.cell (World.block_lt_of_cell? w _ hw342_1)).trans hw342_1), ((HB.out.cell (World.block_lt_of_cell? w _ hw342_2)).trans hw342_2), ((HB.out.cell (World.block_lt_of_cell? w _ hw343_0)).trans hw343_0), ((HB.out.cell (World.block_lt_of_cell? w _ hw343_1)).trans hw343_1), ((HB.out.cell (World.block_lt_of_cell? w _ hw343_2)).trans hw343_2)⟩ (fun hHeld => ?_)
  clear hK K
  refine nm_ (some 25) ?_
  refine yr_ 9 26 bq_85 HT_ ?_
  refine done_ (done_of HT_.out (by kernel_rfl)) ?_
  try go_wp2
  go_ret
  exact ⟨tq_2, th_⟩
 subst c8
 rw [if_pos rfl] at H
 have H' := Aside0.mk H
 clear H
 try go_wp2
 have n0_ := Aside0.mk (below_drew1 HB.out)
 clear HB
 have HB := n0_
 clear n0_
 have p342 : 0 ≤ (x5_1 : Int) := of_decide_eq_true tq_1
 have q342 : x5_1 < (l0.length : Int) := of_decide_eq_true tq_1
 obtain ⟨ad342, e342, hx342_0, hx342_1, hx342_2⟩ := at_T42 HR0.out x5_1 p342 q342
 have hw342_2 := hx342_2
 have hw342_1 := hx342_1
 have hw342_0 := hx342_0
 cases e342
 replace hx342_0 := hx_ HB.out hx342_0
 replace hx342_1 := hx_ HB.out hx342_1
 replace hx342_2 := hx_ HB.out hx342_2
 replace p342 := eq_true p342
 replace q342 := eq_true q342
 have p343 : 0 ≤ (x5_1 : Int) := of_decide_eq_true tq_1
 have q343 : x5_1 < (l1.length : Int) := of_decide_eq_true tq_1
 obtain ⟨ad343, e343, hx343_0, hx343_1, hx343_2⟩ := at_T42 HR1.out x5_1 p343 q343
 have hw343_2 := hx343_2
 have hw343_1 := hx343_1
 have hw343_0 := hx343_0
 cases e343
 replace hx343_0 := hx_ HB.out hx343_0
 replace hx343_1 := hx_ HB.out hx343_1
 replace hx343_2 := hx_ HB.out hx343_2
 replace p343 := eq_true p343
 replace q343 := eq_true q343
 refine start_ (n := 10) (S := fun w' => w'.cell? (ad342.add ((x5_1).toNat * 3)) = some (.int .i64 ((rd_T42 l0 x5_1).f0)) ∧ w'.cell? ⟨(ad342.add ((x5_1).toNat * 3)).block, (ad342.add ((x5_1).toNat * 3)).off + 1, none⟩ = some (.int .i64 ((rd_T42 l0 x5_1).f1)) ∧ w'.cell? ⟨(ad342.add ((x5_1).toNat * 3)).block, (ad342.add ((x5_1).toNat * 3)).off + 2, none⟩ = some (.string ((rd_T42 l0 x5_1).f2)) ∧ w'.cell? (ad343.add ((x5_1).toNat * 3)) = some (.int .i64 ((rd_T42 l1 x5_1).f0)) ∧ w'.cell? ⟨(ad343.add ((x5_1).toNat * 3)).block, (ad343.add ((x5_1).toNat * 3)).off + 1, none⟩ = some (.int .i64 ((rd_T42 l1 x5_1).f1)) ∧ w'.cell? ⟨(ad343.add ((x5_1).toNat * 3)).block, (ad343.add ((x5_1).toNat * 3)).off + 2, none⟩ = some (.string ((rd_T42 l1 x5_1).f2))) (ds := []) bq_75 (by kernel_rfl) rfl rfl ⟨((HB.out.cell (World.block_lt_of_cell? w _ hw342_0)).trans hw342_0), ((HB.out.cell (World.block_lt_of_cell? w _ hw342_1)).trans hw342_1), ((HB.out.cell (World.block_lt_of_cell? w _ hw342_2)).trans hw342_2), ((HB.out.cell (World.block_lt_of_cell? w _ hw343_0)).trans hw343_0), ((HB.out.cell (World.block_lt_of_cell? w _ hw343_1)).trans hw343_1), ((HB.out.cell (World.block_lt_of_cell? w _ hw343_2)).trans hw343_2)⟩ (fun hHeld => ?_); refine with_tabW laws_eqRecS.tab6 laws_eqRecS.bits6 (fun HT_ HW_ => ?_)
 generalize wr.drew = w9 at HB hx342_0 hx342_1 hx342_2 hx343_0 hx343_1 hx343_2 hHeld ⊢
 refine yr_ 0 17 bq_76 HT_ ?_
 refine yr_ 1 18 bq_77 HT_ ?_
 refine yr_ 2 19 bq_78 HT_ ?_
 refine yr_ 4 21 bq_79 HT_ ?_
 refine yr_ 5 22 bq_80 HT_ ?_
 refine yr_ 6 23 bq_81 HT_ ?_
 refine tr_ 3 20 bq_82 HT_ HW_ hHeld ?_
 refine tr_ 7 24 bq_83 HT_ HW_ hHeld ?_
 refine one_ (i := 8) (N := some 25) bq_84 rfl rfl (one_of HT_.out (by kernel_rfl)) (by decide) (fun K hK => ?_)
 refine goes_ Tryd.func70 (by kernel_rfl) rfl #[.agg #[.int .i64 ((rd_T42 l0 x5_1).f0), .int .i64 ((rd_T42 l0 x5_1).f1), .string ((rd_T42 l0 x5_1).f2)], .agg #[.int .i64 ((rd_T42 l1 x5_1).f0), .int .i64 ((rd_T42 l1 x5_1).f1), .string ((rd_T42 l1 x5_1).f2)]] (by rfl) rfl rfl tq_0 ?_
 with_reducible refine (laws_eqRec.calls ((rd_T42 l0 x5_1).f0) ((rd_T42 l0 x5_1).f1) ((rd_T42 l0 x5_1).f2) ((rd_T42 l1 x5_1).f0) ((rd_T42 l1 x5_1).f1) ((rd_T42 l1 x5_1).f2) true _ A7.out).mono ?_
 rintro e w10 ⟨rfl, hb⟩
 refine ⟨_, rfl, ?_⟩
 have n0_ := Aside0.mk (below_step th_ hb)
 clear HB
 have HB := n0_
 clear n0_
 (try clear hb)
 refine hK.out _ _ ⟨((HB.out.cell (World.block_lt_of_cell? w _ hw342_0)).trans hw342_0), ((HB.out.cell (World.block_lt_of_cell? w _ hw342_1)).trans hw342_1), ((HB.out.cell (World.block_lt_of_cell? w _ hw342_2)).trans hw342_2), ((HB.out.cell (World.block_lt_of_cell? w _ hw343_0)).trans hw343_0), ((HB.out.cell (World.block_lt_of_cell? w _ hw343_1)).trans hw343_1), ((HB.out.cell (World.block_lt_of_cell? w _ hw343_2)).trans hw343_2)⟩ (fun hHeld => ?_)
 clear hK K
 refine nm_ (some 25) ?_
 refine yr_ 9 26 bq_85 HT_ ?_
 refine done_ (done_of HT_.out (by kernel_rfl)) ?_
 try go_wp2
 go_roundg k1
 case measure => have := HK1.out; omega
 case rel => exact ⟨(wrap64 (x5_1 + 1)), tq_3, H', ⟨tq_41⟩, ⟨th_⟩⟩

/-! ### laws_eqEntry: function 71 -/
def laws_eqEntry.f (a0_0 : Int) (a0_1 : ByteArray) (a1_0 : Int) (a1_1 : ByteArray) : Option (Bool) := if a0_0 = a1_0 then (if a0_1.toList = a1_1.toList then (some true) else (some false)) else (some false)
set_option maxHeartbeats 8000000 in
set_option maxRecDepth 100000 in
theorem laws_eqEntry.calls (a0_0 : Int) (a0_1 : ByteArray) (a1_0 : Int) (a1_1 : ByteArray) (r : Bool) (w : World) (h : laws_eqEntry.f a0_0 a0_1 a1_0 a1_1 = some r) :
  Calls Tryd.prog 71 #[.agg #[.int .i64 a0_0, .string a0_1], .agg #[.int .i64 a1_0, .string a1_1]] w fun e w' => e = .returned (.bool r) ∧ Below w.heap.size w w' := by
 have hu47 := Tryd.underlying47
 have HB := Aside0.mk (Below.refl w.heap.size w)
 unfold laws_eqEntry.f at h
 have H := h
 clear h
 by_cases c3 : a0_0 = a1_0
 rotate_left
 ·rw [if_neg c3] at H
  have c3b0 := beq_eq_false_iff_ne.mpr c3
  have c3b1 := bne_iff_ne.mpr c3
  obtain rfl := Option.some.inj H
  go_enter Tryd.func71, Tryd.ntmps71
  go_wp2_with (first | ((with_reducible refine gate_dst (N := 2) rfl ?_); refine be_ 2 (cs := #[.int .i64 a0_0, .string a0_1]) 47 ?_; intro gb345 hg w15 hbox hb; have z_ := bx0_ th_ hb hbox hg; clear HB; obtain ⟨HB, BK345, GW345, GE345⟩ := z_; clear hb hbox hg) | ((with_reducible refine gate_dst (N := 3) rfl ?_); refine be_ 3 (cs := #[.int .i64 a1_0, .string a1_1]) 47 ?_; intro gb346 hg w16 hbox hb; have z_ := bx1_ (kb_ BK345) th_ hb hbox hg; clear BK345 HB; obtain ⟨BK345, HB, BK346, GW346, GE346, NB345_346, NB346_345⟩ := z_; clear hb hbox hg; obtain ⟨n345_346, n346_345⟩ := an2_ NB345_346 NB346_345; obtain ⟨hcz18_0, hcz18_1⟩ := bk2_ BK345.out; obtain ⟨hfz18_0, hfz18_1⟩ := bf2_ BK345.out; obtain ⟨hcz19_0, hcz19_1⟩ := bk2_ BK346.out; obtain ⟨hfz19_0, hfz19_1⟩ := bf2_ BK346.out))
  go_ret
  exact ⟨tq_2, th_⟩
 rw [if_pos c3] at H
 have c3b0 := beq_iff_eq.mpr c3
 have c3b1 := bne_eq_false_iff_eq.mpr c3
 clear c3
 by_cases c4 : a0_1.toList = a1_1.toList
 rotate_left
 ·rw [if_neg c4] at H
  have c4b0 := beq_eq_false_iff_ne.mpr c4
  have c4b1 := bne_iff_ne.mpr c4
  obtain rfl := Option.some.inj H
  go_enter Tryd.func71, Tryd.ntmps71
  go_wp2_with (first | ((with_reducible refine gate_dst (N := 2) rfl ?_); refine be_ 2 (cs := #[.int .i64 a0_0, .string a0_1]) 47 ?_; intro gb345 hg w10 hbox hb; have z_ := bx0_ th_ hb hbox hg; clear HB; obtain ⟨HB, BK345, GW345, GE345⟩ := z_; clear hb hbox hg) | ((with_reducible refine gate_dst (N := 3) rfl ?_); refine be_ 3 (cs := #[.int .i64 a1_0, .string a1_1]) 47 ?_; intro gb346 hg w11 hbox hb; have z_ := bx1_ (kb_ BK345) th_ hb hbox hg; clear BK345 HB; obtain ⟨BK345, HB, BK346, GW346, GE346, NB345_346, NB346_345⟩ := z_; clear hb hbox hg; obtain ⟨n345_346, n346_345⟩ := an2_ NB345_346 NB346_345; obtain ⟨hcz13_0, hcz13_1⟩ := bk2_ BK345.out; obtain ⟨hfz13_0, hfz13_1⟩ := bf2_ BK345.out; obtain ⟨hcz14_0, hcz14_1⟩ := bk2_ BK346.out; obtain ⟨hfz14_0, hfz14_1⟩ := bf2_ BK346.out))
  go_ret
  exact ⟨tq_2, th_⟩
 rw [if_pos c4] at H
 have c4b0 := beq_iff_eq.mpr c4
 have c4b1 := bne_eq_false_iff_eq.mpr c4
 clear c4
 obtain rfl := Option.some.inj H
 go_enter Tryd.func71, Tryd.ntmps71
 go_wp2_with (first | ((with_reducible refine gate_dst (N := 2) rfl ?_); refine be_ 2 (cs := #[.int .i64 a0_0, .string a0_1]) 47 ?_; intro gb345 hg w5 hbox hb; have z_ := bx0_ th_ hb hbox hg; clear HB; obtain ⟨HB, BK345, GW345, GE345⟩ := z_; clear hb hbox hg) | ((with_reducible refine gate_dst (N := 3) rfl ?_); refine be_ 3 (cs := #[.int .i64 a1_0, .string a1_1]) 47 ?_; intro gb346 hg w6 hbox hb; have z_ := bx1_ (kb_ BK345) th_ hb hbox hg; clear BK345 HB; obtain ⟨BK345, HB, BK346, GW346, GE346, NB345_346, NB346_345⟩ := z_; clear hb hbox hg; obtain ⟨n345_346, n346_345⟩ := an2_ NB345_346 NB346_345; obtain ⟨hcz8_0, hcz8_1⟩ := bk2_ BK345.out; obtain ⟨hfz8_0, hfz8_1⟩ := bf2_ BK345.out; obtain ⟨hcz9_0, hcz9_1⟩ := bk2_ BK346.out; obtain ⟨hfz9_0, hfz9_1⟩ := bf2_ BK346.out))
 go_ret
 exact ⟨tq_2, th_⟩

/-! ### laws_eqEntryS: function 42 -/
def laws_eqEntryS.l0 : Nat → List (S47) → List (S47) → Int → Option (Bool)
 | 0, _, _, _ => none
 | k + 1, x0, x1, x5 => if x5 < (x0.length : Int) then (if 0 ≤ x5 then (if x5 < (x1.length : Int) then ((laws_eqEntry.f ((rd_T47 x0 x5).f0) ((rd_T47 x0 x5).f1) ((rd_T47 x1 x5).f0) ((rd_T47 x1 x5).f1)).bind fun t349 => (if t349 = true then (laws_eqEntryS.l0 k x0 x1 (wrap64 (x5 + 1))) else (some false))) else (none)) else (none)) else (some true)
def laws_eqEntryS.f (k : Nat) (l0 : List (S47)) (l1 : List (S47)) : Option (Bool) := if (l0.length : Int) = (l1.length : Int) then (laws_eqEntryS.l0 k l0 l1 0) else (some false)
theorem laws_eqEntryS.mono_l : ∀ k, (∀ y0 y1 y2, LeO (laws_eqEntryS.l0 k y0 y1 y2) (laws_eqEntryS.l0 (k + 1) y0 y1 y2))
 | 0 => fun _ _ _ r h => by simp [laws_eqEntryS.l0] at h
 | k + 1 => by
  have ih0 := laws_eqEntryS.mono_l k
  ·intro y0 y1 y2
   unfold laws_eqEntryS.l0
   exact mo_0
theorem laws_eqEntryS.mono : ∀ a0 a1 k, LeO (laws_eqEntryS.f k a0 a1) (laws_eqEntryS.f (k + 1) a0 a1) := by
 intro a0 a1 k
 have ih0 := laws_eqEntryS.mono_l k
 unfold laws_eqEntryS.f
 repeat' first
   | (with_reducible exact ih0 ..)
   | (with_reducible exact LeO.refl _)
   | (with_reducible exact LeO.none _)
   | (with_reducible refine LeO.ite ?_ ?_)
   | (with_reducible refine LeO.bind ?_ (fun _ => ?_))
   | exact ih0 ..
   | exact LeO.none _
   | refine LeO.ite ?_ ?_
   | refine LeO.bind ?_ (fun _ => ?_)
def laws_eqEntryS.T6 : Bool × List (List Nat × List Nat) := (true, [([], []), ([], []), ([0, 1], [0, 1]), ([2], [2]), ([], []), ([], []), ([4, 5], [4, 5]), ([6], [6]), ([3, 7], [3, 7]), ([8], [8])])
def laws_eqEntryS.B6 : List Nat := [0, 0, 3, 7, 0, 0, 48, 112, 255, 511]
theorem laws_eqEntryS.tab6 : rtab .any (opsOf Tryd.f42 6) = laws_eqEntryS.T6 := by kernel_rfl
theorem laws_eqEntryS.bits6 : waitsOk laws_eqEntryS.T6.2 laws_eqEntryS.B6 = true := by kernel_rfl
set_option maxHeartbeats 8000000 in
set_option maxRecDepth 100000 in
theorem laws_eqEntryS.calls (k : Nat) (A0 : Option Addr) (c0 : Nat) (l0 : List (S47)) (A1 : Option Addr) (c1 : Nat) (l1 : List (S47)) (r : Bool) (w : World) (hr0 : Kd.C k47 w A0 l0.length l0) (hc0 : l0.length ≤ c0) (hr1 : Kd.C k47 w A1 l1.length l1) (hc1 : l1.length ≤ c1) (h : laws_eqEntryS.f k l0 l1 = some r) :
  Calls Tryd.prog 42 #[.slice A0 l0.length c0, .slice A1 l1.length c1] w fun e w' => e = .returned (.bool r) ∧ Below w.heap.size w w' := by
 have hu47 := Tryd.underlying47
 have HR0 := Aside0.mk hr0
 have HC0 := Aside0.mk hc0
 clear hr0 hc0
 have HR1 := Aside0.mk hr1
 have HC1 := Aside0.mk hc1
 clear hr1 hc1
 have HB := Aside0.mk (Below.refl w.heap.size w)
 unfold laws_eqEntryS.f at h
 have H := h
 clear h
 by_cases c3 : (l0.length : Int) = (l1.length : Int)
 rotate_left
 ·rw [if_neg c3] at H
  have c3b0 := beq_eq_false_iff_ne.mpr c3
  have c3b1 := bne_iff_ne.mpr c3
  have c3b2 : (l0.length == l1.length) = false := by first | simpa using c3 | (simp at c3 ⊢; omega)
  obtain rfl := Option.some.inj H
  go_enter Tryd.func42, Tryd.ntmps42
  go_wp2
  go_ret
  exact ⟨tq_2, th_⟩
 rw [if_pos c3] at H
 have c3b0 := beq_iff_eq.mpr c3
 have c3b1 := bne_eq_false_iff_eq.mpr c3
 have c3b2 : (l0.length == l1.length) = true := by first | simpa using c3 | (simp at c3 ⊢; omega)
 clear c3
 have H' := Aside0.mk H
 clear H
 go_enter Tryd.func42, Tryd.ntmps42
 go_wp2
 go_loopg [5] k (fun kq v5 w' => ∃ (x5_1 : Int), v5 = .int .i64 x5_1 ∧ Aside0 (laws_eqEntryS.l0 kq l0 l1 x5_1 = some r) ∧ Aside0 (kq ≤ k) ∧ Aside0 (Below w.heap.size w w'))
 case atStart => exact ⟨(0), tq_3, H', ⟨Nat.le_refl _⟩, ⟨th_⟩⟩
 case round =>
 clear H'
 try clear c1; try clear p2; try clear c3; try clear c3b0; try clear c3b1; try clear c3b2
 obtain ⟨x5_1, rfl, HA, HK1, HB⟩ := hrel
 cases gk with
 | zero => exact absurd HA.out (by simp [laws_eqEntryS.l0])
 | succ k1 =>
 have H := HA.out
 clear HA
 simp only [laws_eqEntryS.l0] at H
 by_cases c4 : x5_1 < (l0.length : Int)
 rotate_left
 ·rw [if_neg c4] at H
  have c4b0 := decide_eq_false c4
  clear c4
  obtain rfl := Option.some.inj H
  go_wp2
  go_ret
  exact ⟨tq_2, th_⟩
 rw [if_pos c4] at H
 have c4b0 := decide_eq_true c4
 clear c4
 obtain ⟨c5, H⟩ := fc_ H
 have c5b0 := decide_eq_true c5
 clear c5
 obtain ⟨c6, H⟩ := fc_ H
 have c6b0 := decide_eq_true c6
 clear c6
 obtain ⟨t349, A7, H⟩ := bd_ H
 by_cases c8 : t349 = true
 rotate_left
 ·replace c8 := Bool.eq_false_iff.mpr c8
  subst c8
  rw [if_neg nf_] at H
  obtain rfl := Option.some.inj H
  try go_wp2
  have n0_ := Aside0.mk (below_drew1 HB.out)
  clear HB
  have HB := n0_
  clear n0_
  have p347 : 0 ≤ (x5_1 : Int) := of_decide_eq_true tq_1
  have q347 : x5_1 < (l0.length : Int) := of_decide_eq_true tq_1
  obtain ⟨ad347, e347, hx347_0, hx347_1⟩ := at_T47 HR0.out x5_1 p347 q347
  have hw347_1 := hx347_1
  have hw347_0 := hx347_0
  cases e347
  replace hx347_0 := hx_ HB.out hx347_0
  replace hx347_1 := hx_ HB.out hx347_1
  replace p347 := eq_true p347
  replace q347 := eq_true q347
  have p348 : 0 ≤ (x5_1 : Int) := of_decide_eq_true tq_1
  have q348 : x5_1 < (l1.length : Int) := of_decide_eq_true tq_1
  obtain ⟨ad348, e348, hx348_0, hx348_1⟩ := at_T47 HR1.out x5_1 p348 q348
  have hw348_1 := hx348_1
  have hw348_0 := hx348_0
  cases e348
  replace hx348_0 := hx_ HB.out hx348_0
  replace hx348_1 := hx_ HB.out hx348_1
  replace p348 := eq_true p348
  replace q348 := eq_true q348
  refine start_ (n := 10) (S := fun w' => w'.cell? (ad347.add ((x5_1).toNat * 2)) = some (.int .i64 ((rd_T47 l0 x5_1).f0)) ∧ w'.cell? ⟨(ad347.add ((x5_1).toNat * 2)).block, (ad347.add ((x5_1).toNat * 2)).off + 1, none⟩ = some (.string ((rd_T47 l0 x5_1).f1)) ∧ w'.cell? (ad348.add ((x5_1).toNat * 2)) = some (.int .i64 ((rd_T47 l1 x5_1).f0)) ∧ w'.cell? ⟨(ad348.add ((x5_1).toNat * 2)).block, (ad348.add ((x5_1).toNat * 2)).off + 1, none⟩ = some (.string ((rd_T47 l1 x5_1).f1))) (ds := []) bq_75 (by kernel_rfl) rfl rfl ⟨((HB.out.cell (World.block_lt_of_cell? w _ hw347_0)).trans hw347_0), ((HB.out.cell (World.block_lt_of_cell? w _ hw347_1)).trans hw347_1), ((HB.out.cell (World.block_lt_of_cell? w _ hw348_0)).trans hw348_0), ((HB.out.cell (World.block_lt_of_cell? w _ hw348_1)).trans hw348_1)⟩ (fun hHeld => ?_); refine with_tabW laws_eqEntryS.tab6 laws_eqEntryS.bits6 (fun HT_ HW_ => ?_)
  generalize wr.drew = w11 at HB hx347_0 hx347_1 hx348_0 hx348_1 hHeld ⊢
  refine yr_ 0 17 bq_76 HT_ ?_
  refine yr_ 1 18 bq_77 HT_ ?_
  refine yr_ 2 19 bq_78 HT_ ?_
  refine yr_ 4 21 bq_79 HT_ ?_
  refine yr_ 5 22 bq_80 HT_ ?_
  refine yr_ 6 23 bq_81 HT_ ?_
  refine tr_ 3 20 bq_82 HT_ HW_ hHeld ?_
  refine tr_ 7 24 bq_83 HT_ HW_ hHeld ?_
  refine one_ (i := 8) (N := some 25) bq_84 rfl rfl (one_of HT_.out (by kernel_rfl)) (by decide) (fun K hK => ?_)
  refine goes_ Tryd.func71 (by kernel_rfl) rfl #[.agg #[.int .i64 ((rd_T47 l0 x5_1).f0), .string ((rd_T47 l0 x5_1).f1)], .agg #[.int .i64 ((rd_T47 l1 x5_1).f0), .string ((rd_T47 l1 x5_1).f1)]] (by rfl) rfl rfl tq_0 ?_
  with_reducible refine (laws_eqEntry.calls ((rd_T47 l0 x5_1).f0) ((rd_T47 l0 x5_1).f1) ((rd_T47 l1 x5_1).f0) ((rd_T47 l1 x5_1).f1) false _ A7.out).mono ?_
  rintro e w12 ⟨rfl, hb⟩
  refine ⟨_, rfl, ?_⟩
  have n0_ := Aside0.mk (below_step th_ hb)
  clear HB
  have HB := n0_
  clear n0_
  (try clear hb)
  refine hK.out _ _ ⟨((HB.out.cell (World.block_lt_of_cell? w _ hw347_0)).trans hw347_0), ((HB.out.cell (World.block_lt_of_cell? w _ hw347_1)).trans hw347_1), ((HB.out.cell (World.block_lt_of_cell? w _ hw348_0)).trans hw348_0), ((HB.out.cell (World.block_lt_of_cell? w _ hw348_1)).trans hw348_1)⟩ (fun hHeld => ?_)
  clear hK K
  refine nm_ (some 25) ?_
  refine yr_ 9 26 bq_85 HT_ ?_
  refine done_ (done_of HT_.out (by kernel_rfl)) ?_
  try go_wp2
  go_ret
  exact ⟨tq_2, th_⟩
 subst c8
 rw [if_pos rfl] at H
 have H' := Aside0.mk H
 clear H
 try go_wp2
 have n0_ := Aside0.mk (below_drew1 HB.out)
 clear HB
 have HB := n0_
 clear n0_
 have p347 : 0 ≤ (x5_1 : Int) := of_decide_eq_true tq_1
 have q347 : x5_1 < (l0.length : Int) := of_decide_eq_true tq_1
 obtain ⟨ad347, e347, hx347_0, hx347_1⟩ := at_T47 HR0.out x5_1 p347 q347
 have hw347_1 := hx347_1
 have hw347_0 := hx347_0
 cases e347
 replace hx347_0 := hx_ HB.out hx347_0
 replace hx347_1 := hx_ HB.out hx347_1
 replace p347 := eq_true p347
 replace q347 := eq_true q347
 have p348 : 0 ≤ (x5_1 : Int) := of_decide_eq_true tq_1
 have q348 : x5_1 < (l1.length : Int) := of_decide_eq_true tq_1
 obtain ⟨ad348, e348, hx348_0, hx348_1⟩ := at_T47 HR1.out x5_1 p348 q348
 have hw348_1 := hx348_1
 have hw348_0 := hx348_0
 cases e348
 replace hx348_0 := hx_ HB.out hx348_0
 replace hx348_1 := hx_ HB.out hx348_1
 replace p348 := eq_true p348
 replace q348 := eq_true q348
 refine start_ (n := 10) (S := fun w' => w'.cell? (ad347.add ((x5_1).toNat * 2)) = some (.int .i64 ((rd_T47 l0 x5_1).f0)) ∧ w'.cell? ⟨(ad347.add ((x5_1).toNat * 2)).block, (ad347.add ((x5_1).toNat * 2)).off + 1, none⟩ = some (.string ((rd_T47 l0 x5_1).f1)) ∧ w'.cell? (ad348.add ((x5_1).toNat * 2)) = some (.int .i64 ((rd_T47 l1 x5_1).f0)) ∧ w'.cell? ⟨(ad348.add ((x5_1).toNat * 2)).block, (ad348.add ((x5_1).toNat * 2)).off + 1, none⟩ = some (.string ((rd_T47 l1 x5_1).f1))) (ds := []) bq_75 (by kernel_rfl) rfl rfl ⟨((HB.out.cell (World.block_lt_of_cell? w _ hw347_0)).trans hw347_0), ((HB.out.cell (World.block_lt_of_cell? w _ hw347_1)).trans hw347_1), ((HB.out.cell (World.block_lt_of_cell? w _ hw348_0)).trans hw348_0), ((HB.out.cell (World.block_lt_of_cell? w _ hw348_1)).trans hw348_1)⟩ (fun hHeld => ?_); refine with_tabW laws_eqEntryS.tab6 laws_eqEntryS.bits6 (fun HT_ HW_ => ?_)
 generalize wr.drew = w9 at HB hx347_0 hx347_1 hx348_0 hx348_1 hHeld ⊢
 refine yr_ 0 17 bq_76 HT_ ?_
 refine yr_ 1 18 bq_77 HT_ ?_
 refine yr_ 2 19 bq_78 HT_ ?_
 refine yr_ 4 21 bq_79 HT_ ?_
 refine yr_ 5 22 bq_80 HT_ ?_
 refine yr_ 6 23 bq_81 HT_ ?_
 refine tr_ 3 20 bq_82 HT_ HW_ hHeld ?_
 refine tr_ 7 24 bq_83 HT_ HW_ hHeld ?_
 refine one_ (i := 8) (N := some 25) bq_84 rfl rfl (one_of HT_.out (by kernel_rfl)) (by decide) (fun K hK => ?_)
 refine goes_ Tryd.func71 (by kernel_rfl) rfl #[.agg #[.int .i64 ((rd_T47 l0 x5_1).f0), .string ((rd_T47 l0 x5_1).f1)], .agg #[.int .i64 ((rd_T47 l1 x5_1).f0), .string ((rd_T47 l1 x5_1).f1)]] (by rfl) rfl rfl tq_0 ?_
 with_reducible refine (laws_eqEntry.calls ((rd_T47 l0 x5_1).f0) ((rd_T47 l0 x5_1).f1) ((rd_T47 l1 x5_1).f0) ((rd_T47 l1 x5_1).f1) true _ A7.out).mono ?_
 rintro e w10 ⟨rfl, hb⟩
 refine ⟨_, rfl, ?_⟩
 have n0_ := Aside0.mk (below_step th_ hb)
 clear HB
 have HB := n0_
 clear n0_
 (try clear hb)
 refine hK.out _ _ ⟨((HB.out.cell (World.block_lt_of_cell? w _ hw347_0)).trans hw347_0), ((HB.out.cell (World.block_lt_of_cell? w _ hw347_1)).trans hw347_1), ((HB.out.cell (World.block_lt_of_cell? w _ hw348_0)).trans hw348_0), ((HB.out.cell (World.block_lt_of_cell? w _ hw348_1)).trans hw348_1)⟩ (fun hHeld => ?_)
 clear hK K
 refine nm_ (some 25) ?_
 refine yr_ 9 26 bq_85 HT_ ?_
 refine done_ (done_of HT_.out (by kernel_rfl)) ?_
 try go_wp2
 go_roundg k1
 case measure => have := HK1.out; omega
 case rel => exact ⟨(wrap64 (x5_1 + 1)), tq_3, H', ⟨tq_41⟩, ⟨th_⟩⟩

end Go.Proofs.YtjfhddenmnjgbaaDoor.PFnExactReadInode
