/- Contracts of Go functions, written by a program of ours over the print of the kit: each says that the call returns what the Lean function beside it computes. Conditions: as each theorem states them. -/
import Derived.Test.YtleoknilacjakaaGreatPkFnExactPartWrites
import Derived.Test.YtleoknilacjakaaGreatPFnExactPartWritesx0
namespace Go.Proofs.YtleoknilacjakaaGreat.PFnExactPartWrites
open Go.RowKit Go.Proofs.YtleoknilacjakaaGreatW.PrintWords Go.Proofs.YtleoknilacjakaaGreatW.PrintLast Go.Proofs.YtleoknilacjakaaGreatW.PrintMore
attribute [local go_sem] max2_int min2_int max_two min_two max_three min_three max_four min_four   -- for this text's walks alone
set_option linter.unusedVariables false
set_option linter.unusedSimpArgs false

/-! ### laws_eqIntS: function 28 -/
def laws_eqIntS.l0 : Nat → List Int → List Int → Int → Option (Bool)
 | 0, _, _, _ => none
 | k + 1, x0, x1, x5 => if x5 < (x0.length : Int) then (if 0 ≤ x5 then (if x5 < (x1.length : Int) then (if (rd x0 x5) = (rd x1 x5) then (laws_eqIntS.l0 k x0 x1 (wrap64 (x5 + 1))) else (some false)) else (none)) else (none)) else (some true)
def laws_eqIntS.f (k : Nat) (l0 : List Int) (l1 : List Int) : Option (Bool) := if (l0.length : Int) = (l1.length : Int) then (laws_eqIntS.l0 k l0 l1 0) else (some false)
set_option maxHeartbeats 8000000 in
set_option maxRecDepth 100000 in
theorem laws_eqIntS.calls (k : Nat) (A0 : Option Addr) (c0 : Nat) (l0 : List Int) (A1 : Option Addr) (c1 : Nat) (l1 : List Int) (r : Bool) (w : World) (hr0 : Kd.C (Kd.int .i64) w A0 l0.length l0) (hc0 : l0.length ≤ c0) (hr1 : Kd.C (Kd.int .i64) w A1 l1.length l1) (hc1 : l1.length ≤ c1) (h : laws_eqIntS.f k l0 l1 = some r) :
  Calls Tryz.prog 28 #[.slice A0 l0.length c0, .slice A1 l1.length c1] w fun e w' => e = .returned (.bool r) ∧ Drawn0 w w' := by
 have HR0 := Aside0.mk hr0
 have an := Aside0.mk hc0
 clear hr0 hc0
 have ak := Aside0.mk hr1
 have ao := Aside0.mk hc1
 clear hr1 hc1
 unfold laws_eqIntS.f at h
 have H := h
 clear h
 by_cases c3 : (l0.length : Int) = (l1.length : Int)
 rotate_left
 ·rw [if_neg c3] at H
  have a9 := beq_eq_false_iff_ne.mpr c3
  have aa := bne_iff_ne.mpr c3
  have ab : (l0.length == l1.length) = false := by first | simpa using c3 | (simp at c3 ⊢; omega)
  obtain rfl := Option.some.inj H
  go_enter Tryz.func28, Tryz.ntmps28
  go_wp2
  repeat (go_quiet (fail); try go_wp2)
  go_ret
  exact ⟨tq_3, tq_7⟩
 rw [if_pos c3] at H
 have a9 := beq_iff_eq.mpr c3
 have aa := bne_eq_false_iff_eq.mpr c3
 have ab : (l0.length == l1.length) = true := by first | simpa using c3 | (simp at c3 ⊢; omega)
 clear c3
 have H' := Aside0.mk H
 clear H
 go_enter Tryz.func28, Tryz.ntmps28
 go_wp2
 repeat (go_quiet (fail); try go_wp2)
 go_loopg [5] k (fun kq v5 w' => ∃ (a5 : Int), v5 = .int .i64 a5 ∧ Aside0 (laws_eqIntS.l0 kq l0 l1 a5 = some r) ∧ Aside0 (kq ≤ k) ∧ Drawn0 w w')
 case atStart => exact ⟨(0), tq_3, H', ⟨Nat.le_refl _⟩, tq_7⟩
 case round =>
 clear H'
 try clear c1; try clear c2; try clear p2; try clear c3; try clear a9; try clear aa; try clear ab
 obtain ⟨a5, rfl, HA, HK1, ⟨m1, rfl⟩⟩ := hrel
 cases gk with
 | zero => exact absurd HA.out (by simp [laws_eqIntS.l0])
 | succ k1 =>
 have H := HA.out
 clear HA
 simp only [laws_eqIntS.l0] at H
 by_cases c4 : a5 < (l0.length : Int)
 rotate_left
 ·rw [if_neg c4] at H
  have ac := decide_eq_false c4
  clear c4
  obtain rfl := Option.some.inj H
  go_wp2
  repeat (go_quiet (fail); try go_wp2)
  go_ret
  exact ⟨tq_3, tq_7⟩
 rw [if_pos c4] at H
 have ac := decide_eq_true c4
 clear c4
 obtain ⟨c5, H⟩ := fc_ H
 have al := decide_eq_true c5
 clear c5
 obtain ⟨c6, H⟩ := fc_ H
 have am := decide_eq_true c6
 clear c6
 have ah := Aside0.mk H
 clear H
 have p562 : 0 ≤ (a5 : Int) := of_decide_eq_true tq_2
 have q562 : a5 < (l0.length : Int) := of_decide_eq_true tq_2
 obtain ⟨ai, ae, a7⟩ := Kd.at_int HR0.out a5 p562 q562
 cases ae
 replace p562 := eq_true p562
 replace q562 := eq_true q562
 have p563 : 0 ≤ (a5 : Int) := of_decide_eq_true tq_2
 have q563 : a5 < (l1.length : Int) := of_decide_eq_true tq_2
 obtain ⟨aj, af, a8⟩ := Kd.at_int ak.out a5 p563 q563
 cases af
 replace p563 := eq_true p563
 replace q563 := eq_true q563
 go_upto_if 25 with (fail)
 repeat (go_quiet (fail); go_upto_if 25 with (fail))
 (try clear a7)
 (try clear a8)
 have H := ah.out
 clear ah
 by_cases c8 : (rd l0 a5) = (rd l1 a5)
 rotate_left
 ·rw [if_neg c8] at H
  have a6 := beq_eq_false_iff_ne.mpr c8
  have ag := bne_iff_ne.mpr c8
  (first | rw [a6] | (simp only [i64_w, i32_w]; rw [a6]) | skip)
  obtain rfl := Option.some.inj H
  go_wp2
  repeat (go_quiet (fail); try go_wp2)
  go_ret
  exact ⟨tq_3, tq_7⟩
 rw [if_pos c8] at H
 have a6 := beq_iff_eq.mpr c8
 have ag := bne_eq_false_iff_eq.mpr c8
 clear c8
 (first | rw [a6] | (simp only [i64_w, i32_w]; rw [a6]) | skip)
 have H' := Aside0.mk H
 clear H
 go_wp2
 repeat (go_quiet (fail); try go_wp2)
 go_roundg k1
 case measure => have := HK1.out; omega
 case rel => exact ⟨(wrap64 (a5 + 1)), tq_3, H', ⟨tq_15⟩, tq_7⟩

/-! ### laws_eqRec: function 104 -/
def laws_eqRec.f (a0_0 : Int) (a0_1 : Int) (a0_2 : ByteArray) (a1_0 : Int) (a1_1 : Int) (a1_2 : ByteArray) : Option (Bool) := if a0_0 = a1_0 then (if a0_1 = a1_1 then (if a0_2.toList = a1_2.toList then (some true) else (some false)) else (some false)) else (some false)
set_option maxHeartbeats 8000000 in
set_option maxRecDepth 100000 in
theorem laws_eqRec.calls (af : Int) (ag : Int) (ah : ByteArray) (ai : Int) (aj : Int) (ak : ByteArray) (r : Bool) (w : World) (h : laws_eqRec.f af ag ah ai aj ak = some r) :
  Calls Tryz.prog 104 #[.agg #[.int .i64 af, .int .i64 ag, .string ah], .agg #[.int .i64 ai, .int .i64 aj, .string ak]] w fun e w' => e = .returned (.bool r) ∧ Below w.heap.size w w' := by
 have hu89 := Tryz.underlying89
 have HB := Aside0.mk (Below.refl w.heap.size w)
 unfold laws_eqRec.f at h
 have H := h
 clear h
 have ay := Aside0.mk H
 clear H
 go_enter Tryz.func104, Tryz.ntmps104
 go_upto_if 9 with (first | ((with_reducible refine gate_dst (N := 2) rfl ?_); refine be_ 2 (cs := #[.int .i64 af, .int .i64 ag, .string ah]) 89 ?_; intro az hg w4 hbox hb; have z_ := bx0_ th_ hb hbox hg; clear HB; obtain ⟨HB, a7, b0, b1⟩ := z_; clear hb hbox hg) | ((with_reducible refine gate_dst (N := 3) rfl ?_); refine be_ 3 (cs := #[.int .i64 ai, .int .i64 aj, .string ak]) 89 ?_; intro b2 hg w5 hbox hb; have z_ := bx1_ (kb_ a7) th_ hb hbox hg; clear a7 HB; obtain ⟨a7, HB, aa, b3, b4, a5, a6⟩ := z_; clear hb hbox hg; obtain ⟨hnb6, hnc6⟩ := an2_ a5 a6; have b5 := bb3_ a7.out; have b6 := bb3_ aa.out))
 (try simp only [Act.put, List.setIfInBounds_toArray, List.set_cons_zero, List.set_cons_succ])
 (try clear b5)
 (try clear b6)
 (try clear b5)
 (try clear b6)
 have H := ay.out
 clear ay
 by_cases c9 : af = ai
 rotate_left
 ·rw [if_neg c9] at H
  have ab := beq_eq_false_iff_ne.mpr c9
  have ax := bne_iff_ne.mpr c9
  (first | rw [ab] | (simp only [i64_w, i32_w]; rw [ab]) | skip)
  obtain rfl := Option.some.inj H
  go_wp2
  go_ret
  exact ⟨tq_1, th_⟩
 rw [if_pos c9] at H
 have ab := beq_iff_eq.mpr c9
 have ax := bne_eq_false_iff_eq.mpr c9
 clear c9
 (first | rw [ab] | (simp only [i64_w, i32_w]; rw [ab]) | skip)
 have an := Aside0.mk H
 clear H
 obtain ⟨hnb11, hnc11⟩ := an2_ a5 a6
 have ao := bb3_ a7.out
 have ap := bb3_ aa.out
 go_upto_if 14 with (fail)
 (try clear ao)
 (try clear ap)
 (try clear ao)
 (try clear ap)
 have H := an.out
 clear an
 by_cases al : ag = aj
 rotate_left
 ·rw [if_neg al] at H
  have a8 := beq_eq_false_iff_ne.mpr al
  have aq := bne_iff_ne.mpr al
  (first | rw [a8] | (simp only [i64_w, i32_w]; rw [a8]) | skip)
  obtain rfl := Option.some.inj H
  go_wp2
  go_ret
  exact ⟨tq_1, th_⟩
 rw [if_pos al] at H
 have a8 := beq_iff_eq.mpr al
 have aq := bne_eq_false_iff_eq.mpr al
 clear al
 (first | rw [a8] | (simp only [i64_w, i32_w]; rw [a8]) | skip)
 have ar := Aside0.mk H
 clear H
 obtain ⟨ac, ae⟩ := an2_ a5 a6
 have au := bb3_ a7.out
 have av := bb3_ aa.out
 go_upto_if 19 with (fail)
 (try clear ac ae)
 (try clear au)
 (try clear av)
 (try clear au)
 (try clear av)
 have H := ar.out
 clear ar
 by_cases am : ah.toList = ak.toList
 rotate_left
 ·rw [if_neg am] at H
  have a9 := beq_eq_false_iff_ne.mpr am
  have aw := bne_iff_ne.mpr am
  (first | rw [a9] | (simp only [i64_w, i32_w]; rw [a9]) | skip)
  obtain rfl := Option.some.inj H
  go_wp2
  go_ret
  exact ⟨tq_1, th_⟩
 rw [if_pos am] at H
 have a9 := beq_iff_eq.mpr am
 have aw := bne_eq_false_iff_eq.mpr am
 clear am
 (first | rw [a9] | (simp only [i64_w, i32_w]; rw [a9]) | skip)
 obtain rfl := Option.some.inj H
 go_wp2
 go_ret
 exact ⟨tq_1, th_⟩

/-! ### laws_eqRecS: function 88 -/
def laws_eqRecS.l0 : Nat → List (S89) → List (S89) → Int → Option (Bool)
 | 0, _, _, _ => none
 | k + 1, x0, x1, x5 => if x5 < (x0.length : Int) then (if 0 ≤ x5 then (if x5 < (x1.length : Int) then ((laws_eqRec.f ((rd_T89 x0 x5).f0) ((rd_T89 x0 x5).f1) ((rd_T89 x0 x5).f2) ((rd_T89 x1 x5).f0) ((rd_T89 x1 x5).f1) ((rd_T89 x1 x5).f2)).bind fun t568 => (if t568 = true then (laws_eqRecS.l0 k x0 x1 (wrap64 (x5 + 1))) else (some false))) else (none)) else (none)) else (some true)
def laws_eqRecS.f (k : Nat) (l0 : List (S89)) (l1 : List (S89)) : Option (Bool) := if (l0.length : Int) = (l1.length : Int) then (laws_eqRecS.l0 k l0 l1 0) else (some false)
def laws_eqRecS.T6 : Bool × List (List Nat × List Nat) := (true, [([], []), ([], []), ([0, 1], [0, 1]), ([2], [2]), ([], []), ([], []), ([4, 5], [4, 5]), ([6], [6]), ([3, 7], [3, 7]), ([8], [8])])
def laws_eqRecS.B6 : List Nat := [0, 0, 3, 7, 0, 0, 48, 112, 255, 511]
theorem laws_eqRecS.tab6 : rtab .any (opsOf Tryz.f88 6) = laws_eqRecS.T6 := by kernel_rfl
theorem laws_eqRecS.bits6 : waitsOk laws_eqRecS.T6.2 laws_eqRecS.B6 = true := by kernel_rfl
set_option maxHeartbeats 8000000 in
set_option maxRecDepth 100000 in
theorem laws_eqRecS.calls (k : Nat) (A0 : Option Addr) (c0 : Nat) (l0 : List (S89)) (A1 : Option Addr) (c1 : Nat) (l1 : List (S89)) (r : Bool) (w : World) (hr0 : Kd.C k89 w A0 l0.length l0) (hc0 : l0.length ≤ c0) (hr1 : Kd.C k89 w A1 l1.length l1) (hc1 : l1.length ≤ c1) (h : laws_eqRecS.f k l0 l1 = some r) :
  Calls Tryz.prog 88 #[.slice A0 l0.length c0, .slice A1 l1.length c1] w fun e w' => e = .returned (.bool r) ∧ Below w.heap.size w w' := by
 have hu89 := Tryz.underlying89
 have HR0 := Aside0.mk hr0
 have ar := Aside0.mk hc0
 clear hr0 hc0
 have ao := Aside0.mk hr1
 have au := Aside0.mk hc1
 clear hr1 hc1
 have HB := Aside0.mk (Below.refl w.heap.size w)
 unfold laws_eqRecS.f at h
 have H := h
 clear h
 by_cases c3 : (l0.length : Int) = (l1.length : Int)
 rotate_left
 ·rw [if_neg c3] at H
  have af := beq_eq_false_iff_ne.mpr c3
  have ag := bne_iff_ne.mpr c3
  have ah : (l0.length == l1.length) = false := by first | simpa using c3 | (simp at c3 ⊢; omega)
  obtain rfl := Option.some.inj H
  go_enter Tryz.func88, Tryz.ntmps88
  go_wp2
  go_ret
  exact ⟨tq_1, th_⟩
 rw [if_pos c3] at H
 have af := beq_iff_eq.mpr c3
 have ag := bne_eq_false_iff_eq.mpr c3
 have ah : (l0.length == l1.length) = true := by first | simpa using c3 | (simp at c3 ⊢; omega)
 clear c3
 have H' := Aside0.mk H
 clear H
 go_enter Tryz.func88, Tryz.ntmps88
 go_wp2
 go_loopg [5] k (fun kq v5 w' => ∃ (a5 : Int), v5 = .int .i64 a5 ∧ Aside0 (laws_eqRecS.l0 kq l0 l1 a5 = some r) ∧ Aside0 (kq ≤ k) ∧ Aside0 (Below w.heap.size w w'))
 case atStart => exact ⟨(0), tq_3, H', ⟨Nat.le_refl _⟩, ⟨th_⟩⟩
 case round =>
 clear H'
 try clear c1; try clear p2; try clear c3; try clear af; try clear ag; try clear ah
 obtain ⟨a5, rfl, HA, HK1, HB⟩ := hrel
 cases gk with
 | zero => exact absurd HA.out (by simp [laws_eqRecS.l0])
 | succ k1 =>
 have H := HA.out
 clear HA
 simp only [laws_eqRecS.l0] at H
 by_cases c4 : a5 < (l0.length : Int)
 rotate_left
 ·rw [if_neg c4] at H
  have ak := decide_eq_false c4
  clear c4
  obtain rfl := Option.some.inj H
  go_wp2
  go_ret
  exact ⟨tq_1, th_⟩
 rw [if_pos c4] at H
 have ak := decide_eq_true c4
 clear c4
 obtain ⟨c5, H⟩ := fc_ H
 have ap := decide_eq_true c5
 clear c5
 obtain ⟨c6, H⟩ := fc_ H
 have aq := decide_eq_true c6
 clear c6
 obtain ⟨ai, A7, H⟩ := bd_ H
 have an := Aside0.mk H
 clear H
 try go_wp2
 have n0_ := Aside0.mk (below_drew1 HB.out)
 clear HB
 have HB := n0_
 clear n0_
 have p566 : 0 ≤ (a5 : Int) := of_decide_eq_true tq_2
 have q566 : a5 < (l0.length : Int) := of_decide_eq_true tq_2
 obtain ⟨ac, al, a6, a7, a8⟩ := at_T89 HR0.out a5 p566 q566
 have hw566_2 := a8
 have hw566_1 := a7
 have hw566_0 := a6
 cases al
 replace a6 := hx_ HB.out a6
 replace a7 := hx_ HB.out a7
 replace a8 := hx_ HB.out a8
 replace p566 := eq_true p566
 replace q566 := eq_true q566
 have p567 : 0 ≤ (a5 : Int) := of_decide_eq_true tq_2
 have q567 : a5 < (l1.length : Int) := of_decide_eq_true tq_2
 obtain ⟨ae, am, a9, aa, ab⟩ := at_T89 ao.out a5 p567 q567
 have hw567_2 := ab
 have hw567_1 := aa
 have hw567_0 := a9
 cases am
 replace a9 := hx_ HB.out a9
 replace aa := hx_ HB.out aa
 replace ab := hx_ HB.out ab
 replace p567 := eq_true p567
 replace q567 := eq_true q567
 refine start_ (n := 10) (S := fun w' => w'.cell? (ac.add ((a5).toNat * 3)) = some (.int .i64 ((rd_T89 l0 a5).f0)) ∧ w'.cell? ⟨(ac.add ((a5).toNat * 3)).block, (ac.add ((a5).toNat * 3)).off + 1, none⟩ = some (.int .i64 ((rd_T89 l0 a5).f1)) ∧ w'.cell? ⟨(ac.add ((a5).toNat * 3)).block, (ac.add ((a5).toNat * 3)).off + 2, none⟩ = some (.string ((rd_T89 l0 a5).f2)) ∧ w'.cell? (ae.add ((a5).toNat * 3)) = some (.int .i64 ((rd_T89 l1 a5).f0)) ∧ w'.cell? ⟨(ae.add ((a5).toNat * 3)).block, (ae.add ((a5).toNat * 3)).off + 1, none⟩ = some (.int .i64 ((rd_T89 l1 a5).f1)) ∧ w'.cell? ⟨(ae.add ((a5).toNat * 3)).block, (ae.add ((a5).toNat * 3)).off + 2, none⟩ = some (.string ((rd_T89 l1 a5).f2))) (ds := []) bq_29 (by kernel_rfl) rfl rfl ⟨((HB.out.cell (World.block_lt_of_cell? w _ hw566_0)).trans hw566_0), ((HB.out.cell (World.block_lt_of_cell? w _ hw566_1)).trans hw566_1), ((HB.out.cell (World.block_lt_of_cell? w _ hw566_2)).trans hw566_2), ((HB.out.cell (World.block_lt_of_cell? w _ hw567_0)).trans hw567_0), ((HB.out.cell (World.block_lt_of_cell? w _ hw567_1)).trans hw567_1), ((HB.out.cell (World.block_lt_of_cell? w _ hw567_2)).trans hw567_2)⟩ (fun hHeld => ?_); refine with_tabW laws_eqRecS.tab6 laws_eqRecS.bits6 (fun HT_ HW_ => ?_)
 generalize wr.drew = w9 at HB a6 a7 a8 a9 aa ab hHeld ⊢
 refine yr_ 0 17 bq_30 HT_ ?_
 refine yr_ 1 18 bq_31 HT_ ?_
 refine yr_ 2 19 bq_32 HT_ ?_
 refine yr_ 4 21 bq_33 HT_ ?_
 refine yr_ 5 22 bq_34 HT_ ?_
 refine yr_ 6 23 bq_35 HT_ ?_
 refine tr_ 3 20 bq_36 HT_ HW_ hHeld ?_
 refine tr_ 7 24 bq_37 HT_ HW_ hHeld ?_
 refine one_ (i := 8) (N := some 25) bq_38 rfl rfl (one_of HT_.out (by kernel_rfl)) (by decide) (fun K hK => ?_)
 refine goes_ Tryz.func104 (by kernel_rfl) rfl #[.agg #[.int .i64 ((rd_T89 l0 a5).f0), .int .i64 ((rd_T89 l0 a5).f1), .string ((rd_T89 l0 a5).f2)], .agg #[.int .i64 ((rd_T89 l1 a5).f0), .int .i64 ((rd_T89 l1 a5).f1), .string ((rd_T89 l1 a5).f2)]] (by rfl) rfl rfl tq_0 ?_
 with_reducible refine (laws_eqRec.calls ((rd_T89 l0 a5).f0) ((rd_T89 l0 a5).f1) ((rd_T89 l0 a5).f2) ((rd_T89 l1 a5).f0) ((rd_T89 l1 a5).f1) ((rd_T89 l1 a5).f2) ai _ A7.out).mono ?_
 rintro e av ⟨rfl, hb⟩
 refine ⟨_, rfl, ?_⟩
 have n0_ := Aside0.mk (below_step th_ hb)
 clear HB
 have HB := n0_
 clear n0_
 (try clear hb)
 refine hK.out _ _ ⟨((HB.out.cell (World.block_lt_of_cell? w _ hw566_0)).trans hw566_0), ((HB.out.cell (World.block_lt_of_cell? w _ hw566_1)).trans hw566_1), ((HB.out.cell (World.block_lt_of_cell? w _ hw566_2)).trans hw566_2), ((HB.out.cell (World.block_lt_of_cell? w _ hw567_0)).trans hw567_0), ((HB.out.cell (World.block_lt_of_cell? w _ hw567_1)).trans hw567_1), ((HB.out.cell (World.block_lt_of_cell? w _ hw567_2)).trans hw567_2)⟩ (fun hHeld => ?_)
 clear hK K
 refine nm_ (some 25) ?_
 refine yr_ 9 26 bq_39 HT_ ?_
 refine done_ (done_of HT_.out (by kernel_rfl)) ?_
 go_upto_if 26 with (fail)
 (try clear a6 a7 a8)
 (try clear a9 aa ab)
 have H := an.out
 clear an
 by_cases aj : ai = true
 rotate_left
 ·replace aj := Bool.eq_false_iff.mpr aj
  subst aj
  rw [if_neg nf_] at H
  obtain rfl := Option.some.inj H
  go_wp2
  go_ret
  exact ⟨tq_1, th_⟩
 subst aj
 rw [if_pos rfl] at H
 have H' := Aside0.mk H
 clear H
 go_wp2
 go_roundg k1
 case measure => have := HK1.out; omega
 case rel => exact ⟨(wrap64 (a5 + 1)), tq_3, H', ⟨tq_15⟩, ⟨th_⟩⟩

/-! ### laws_eqEntry: function 105 -/
def laws_eqEntry.f (a0_0 : Int) (a0_1 : ByteArray) (a1_0 : Int) (a1_1 : ByteArray) : Option (Bool) := if a0_0 = a1_0 then (if a0_1.toList = a1_1.toList then (some true) else (some false)) else (some false)
set_option maxHeartbeats 8000000 in
set_option maxRecDepth 100000 in
theorem laws_eqEntry.calls (aa : Int) (ab : ByteArray) (ac : Int) (ae : ByteArray) (r : Bool) (w : World) (h : laws_eqEntry.f aa ab ac ae = some r) :
  Calls Tryz.prog 105 #[.agg #[.int .i64 aa, .string ab], .agg #[.int .i64 ac, .string ae]] w fun e w' => e = .returned (.bool r) ∧ Below w.heap.size w w' := by
 have hu72 := Tryz.underlying72
 have HB := Aside0.mk (Below.refl w.heap.size w)
 unfold laws_eqEntry.f at h
 have H := h
 clear h
 have am := Aside0.mk H
 clear H
 go_enter Tryz.func105, Tryz.ntmps105
 go_upto_if 9 with (first | ((with_reducible refine gate_dst (N := 2) rfl ?_); refine be_ 2 (cs := #[.int .i64 aa, .string ab]) 72 ?_; intro an hg w4 hbox hb; have z_ := bx0_ th_ hb hbox hg; clear HB; obtain ⟨HB, a7, ao, ap⟩ := z_; clear hb hbox hg) | ((with_reducible refine gate_dst (N := 3) rfl ?_); refine be_ 3 (cs := #[.int .i64 ac, .string ae]) 72 ?_; intro aq hg w5 hbox hb; have z_ := bx1_ (kb_ a7) th_ hb hbox hg; clear a7 HB; obtain ⟨a7, HB, af, ar, au, a5, a6⟩ := z_; clear hb hbox hg; obtain ⟨hnb6, hnc6⟩ := an2_ a5 a6; have av := bb2_ a7.out; have aw := bb2_ af.out))
 (try simp only [Act.put, List.setIfInBounds_toArray, List.set_cons_zero, List.set_cons_succ])
 (try clear av)
 (try clear aw)
 (try clear av)
 (try clear aw)
 have H := am.out
 clear am
 by_cases c9 : aa = ac
 rotate_left
 ·rw [if_neg c9] at H
  have a9 := beq_eq_false_iff_ne.mpr c9
  have al := bne_iff_ne.mpr c9
  (first | rw [a9] | (simp only [i64_w, i32_w]; rw [a9]) | skip)
  obtain rfl := Option.some.inj H
  go_wp2
  go_ret
  exact ⟨tq_1, th_⟩
 rw [if_pos c9] at H
 have a9 := beq_iff_eq.mpr c9
 have al := bne_eq_false_iff_eq.mpr c9
 clear c9
 (first | rw [a9] | (simp only [i64_w, i32_w]; rw [a9]) | skip)
 have ah := Aside0.mk H
 clear H
 obtain ⟨hnb11, hnc11⟩ := an2_ a5 a6
 have ai := bb2_ a7.out
 have aj := bb2_ af.out
 go_upto_if 14 with (fail)
 (try clear ai)
 (try clear aj)
 (try clear ai)
 (try clear aj)
 have H := ah.out
 clear ah
 by_cases ag : ab.toList = ae.toList
 rotate_left
 ·rw [if_neg ag] at H
  have a8 := beq_eq_false_iff_ne.mpr ag
  have ak := bne_iff_ne.mpr ag
  (first | rw [a8] | (simp only [i64_w, i32_w]; rw [a8]) | skip)
  obtain rfl := Option.some.inj H
  go_wp2
  go_ret
  exact ⟨tq_1, th_⟩
 rw [if_pos ag] at H
 have a8 := beq_iff_eq.mpr ag
 have ak := bne_eq_false_iff_eq.mpr ag
 clear ag
 (first | rw [a8] | (simp only [i64_w, i32_w]; rw [a8]) | skip)
 obtain rfl := Option.some.inj H
 go_wp2
 go_ret
 exact ⟨tq_1, th_⟩

/-! ### laws_eqEntryS: function 89 -/
def laws_eqEntryS.l0 : Nat → List (S72) → List (S72) → Int → Option (Bool)
 | 0, _, _, _ => none
 | k + 1, x0, x1, x5 => if x5 < (x0.length : Int) then (if 0 ≤ x5 then (if x5 < (x1.length : Int) then ((laws_eqEntry.f ((rd_T72 x0 x5).f0) ((rd_T72 x0 x5).f1) ((rd_T72 x1 x5).f0) ((rd_T72 x1 x5).f1)).bind fun t573 => (if t573 = true then (laws_eqEntryS.l0 k x0 x1 (wrap64 (x5 + 1))) else (some false))) else (none)) else (none)) else (some true)
def laws_eqEntryS.f (k : Nat) (l0 : List (S72)) (l1 : List (S72)) : Option (Bool) := if (l0.length : Int) = (l1.length : Int) then (laws_eqEntryS.l0 k l0 l1 0) else (some false)
def laws_eqEntryS.T6 : Bool × List (List Nat × List Nat) := (true, [([], []), ([], []), ([0, 1], [0, 1]), ([2], [2]), ([], []), ([], []), ([4, 5], [4, 5]), ([6], [6]), ([3, 7], [3, 7]), ([8], [8])])
def laws_eqEntryS.B6 : List Nat := [0, 0, 3, 7, 0, 0, 48, 112, 255, 511]
theorem laws_eqEntryS.tab6 : rtab .any (opsOf Tryz.f89 6) = laws_eqEntryS.T6 := by kernel_rfl
theorem laws_eqEntryS.bits6 : waitsOk laws_eqEntryS.T6.2 laws_eqEntryS.B6 = true := by kernel_rfl
set_option maxHeartbeats 8000000 in
set_option maxRecDepth 100000 in
theorem laws_eqEntryS.calls (k : Nat) (A0 : Option Addr) (c0 : Nat) (l0 : List (S72)) (A1 : Option Addr) (c1 : Nat) (l1 : List (S72)) (r : Bool) (w : World) (hr0 : Kd.C k72 w A0 l0.length l0) (hc0 : l0.length ≤ c0) (hr1 : Kd.C k72 w A1 l1.length l1) (hc1 : l1.length ≤ c1) (h : laws_eqEntryS.f k l0 l1 = some r) :
  Calls Tryz.prog 89 #[.slice A0 l0.length c0, .slice A1 l1.length c1] w fun e w' => e = .returned (.bool r) ∧ Below w.heap.size w w' := by
 have hu72 := Tryz.underlying72
 have HR0 := Aside0.mk hr0
 have ap := Aside0.mk hc0
 clear hr0 hc0
 have am := Aside0.mk hr1
 have aq := Aside0.mk hc1
 clear hr1 hc1
 have HB := Aside0.mk (Below.refl w.heap.size w)
 unfold laws_eqEntryS.f at h
 have H := h
 clear h
 by_cases c3 : (l0.length : Int) = (l1.length : Int)
 rotate_left
 ·rw [if_neg c3] at H
  have ac := beq_eq_false_iff_ne.mpr c3
  have ae := bne_iff_ne.mpr c3
  have af : (l0.length == l1.length) = false := by first | simpa using c3 | (simp at c3 ⊢; omega)
  obtain rfl := Option.some.inj H
  go_enter Tryz.func89, Tryz.ntmps89
  go_wp2
  go_ret
  exact ⟨tq_1, th_⟩
 rw [if_pos c3] at H
 have ac := beq_iff_eq.mpr c3
 have ae := bne_eq_false_iff_eq.mpr c3
 have af : (l0.length == l1.length) = true := by first | simpa using c3 | (simp at c3 ⊢; omega)
 clear c3
 have H' := Aside0.mk H
 clear H
 go_enter Tryz.func89, Tryz.ntmps89
 go_wp2
 go_loopg [5] k (fun kq v5 w' => ∃ (a5 : Int), v5 = .int .i64 a5 ∧ Aside0 (laws_eqEntryS.l0 kq l0 l1 a5 = some r) ∧ Aside0 (kq ≤ k) ∧ Aside0 (Below w.heap.size w w'))
 case atStart => exact ⟨(0), tq_3, H', ⟨Nat.le_refl _⟩, ⟨th_⟩⟩
 case round =>
 clear H'
 try clear c1; try clear p2; try clear c3; try clear ac; try clear ae; try clear af
 obtain ⟨a5, rfl, HA, HK1, HB⟩ := hrel
 cases gk with
 | zero => exact absurd HA.out (by simp [laws_eqEntryS.l0])
 | succ k1 =>
 have H := HA.out
 clear HA
 simp only [laws_eqEntryS.l0] at H
 by_cases c4 : a5 < (l0.length : Int)
 rotate_left
 ·rw [if_neg c4] at H
  have ai := decide_eq_false c4
  clear c4
  obtain rfl := Option.some.inj H
  go_wp2
  go_ret
  exact ⟨tq_1, th_⟩
 rw [if_pos c4] at H
 have ai := decide_eq_true c4
 clear c4
 obtain ⟨c5, H⟩ := fc_ H
 have an := decide_eq_true c5
 clear c5
 obtain ⟨c6, H⟩ := fc_ H
 have ao := decide_eq_true c6
 clear c6
 obtain ⟨ag, A7, H⟩ := bd_ H
 have al := Aside0.mk H
 clear H
 try go_wp2
 have n0_ := Aside0.mk (below_drew1 HB.out)
 clear HB
 have HB := n0_
 clear n0_
 have p571 : 0 ≤ (a5 : Int) := of_decide_eq_true tq_2
 have q571 : a5 < (l0.length : Int) := of_decide_eq_true tq_2
 obtain ⟨aa, aj, a6, a7⟩ := at_T72 HR0.out a5 p571 q571
 have hw571_1 := a7
 have hw571_0 := a6
 cases aj
 replace a6 := hx_ HB.out a6
 replace a7 := hx_ HB.out a7
 replace p571 := eq_true p571
 replace q571 := eq_true q571
 have p572 : 0 ≤ (a5 : Int) := of_decide_eq_true tq_2
 have q572 : a5 < (l1.length : Int) := of_decide_eq_true tq_2
 obtain ⟨ab, ak, a8, a9⟩ := at_T72 am.out a5 p572 q572
 have hw572_1 := a9
 have hw572_0 := a8
 cases ak
 replace a8 := hx_ HB.out a8
 replace a9 := hx_ HB.out a9
 replace p572 := eq_true p572
 replace q572 := eq_true q572
 refine start_ (n := 10) (S := fun w' => w'.cell? (aa.add ((a5).toNat * 2)) = some (.int .i64 ((rd_T72 l0 a5).f0)) ∧ w'.cell? ⟨(aa.add ((a5).toNat * 2)).block, (aa.add ((a5).toNat * 2)).off + 1, none⟩ = some (.string ((rd_T72 l0 a5).f1)) ∧ w'.cell? (ab.add ((a5).toNat * 2)) = some (.int .i64 ((rd_T72 l1 a5).f0)) ∧ w'.cell? ⟨(ab.add ((a5).toNat * 2)).block, (ab.add ((a5).toNat * 2)).off + 1, none⟩ = some (.string ((rd_T72 l1 a5).f1))) (ds := []) bq_29 (by kernel_rfl) rfl rfl ⟨((HB.out.cell (World.block_lt_of_cell? w _ hw571_0)).trans hw571_0), ((HB.out.cell (World.block_lt_of_cell? w _ hw571_1)).trans hw571_1), ((HB.out.cell (World.block_lt_of_cell? w _ hw572_0)).trans hw572_0), ((HB.out.cell (World.block_lt_of_cell? w _ hw572_1)).trans hw572_1)⟩ (fun hHeld => ?_); refine with_tabW laws_eqEntryS.tab6 laws_eqEntryS.bits6 (fun HT_ HW_ => ?_)
 generalize wr.drew = w9 at HB a6 a7 a8 a9 hHeld ⊢
 refine yr_ 0 17 bq_30 HT_ ?_
 refine yr_ 1 18 bq_31 HT_ ?_
 refine yr_ 2 19 bq_32 HT_ ?_
 refine yr_ 4 21 bq_33 HT_ ?_
 refine yr_ 5 22 bq_34 HT_ ?_
 refine yr_ 6 23 bq_35 HT_ ?_
 refine tr_ 3 20 bq_36 HT_ HW_ hHeld ?_
 refine tr_ 7 24 bq_37 HT_ HW_ hHeld ?_
 refine one_ (i := 8) (N := some 25) bq_38 rfl rfl (one_of HT_.out (by kernel_rfl)) (by decide) (fun K hK => ?_)
 refine goes_ Tryz.func105 (by kernel_rfl) rfl #[.agg #[.int .i64 ((rd_T72 l0 a5).f0), .string ((rd_T72 l0 a5).f1)], .agg #[.int .i64 ((rd_T72 l1 a5).f0), .string ((rd_T72 l1 a5).f1)]] (by rfl) rfl rfl tq_0 ?_
 with_reducible refine (laws_eqEntry.calls ((rd_T72 l0 a5).f0) ((rd_T72 l0 a5).f1) ((rd_T72 l1 a5).f0) ((rd_T72 l1 a5).f1) ag _ A7.out).mono ?_
 rintro e ar ⟨rfl, hb⟩
 refine ⟨_, rfl, ?_⟩
 have n0_ := Aside0.mk (below_step th_ hb)
 clear HB
 have HB := n0_
 clear n0_
 (try clear hb)
 refine hK.out _ _ ⟨((HB.out.cell (World.block_lt_of_cell? w _ hw571_0)).trans hw571_0), ((HB.out.cell (World.block_lt_of_cell? w _ hw571_1)).trans hw571_1), ((HB.out.cell (World.block_lt_of_cell? w _ hw572_0)).trans hw572_0), ((HB.out.cell (World.block_lt_of_cell? w _ hw572_1)).trans hw572_1)⟩ (fun hHeld => ?_)
 clear hK K
 refine nm_ (some 25) ?_
 refine yr_ 9 26 bq_39 HT_ ?_
 refine done_ (done_of HT_.out (by kernel_rfl)) ?_
 go_upto_if 26 with (fail)
 (try clear a6 a7)
 (try clear a8 a9)
 have H := al.out
 clear al
 by_cases ah : ag = true
 rotate_left
 ·replace ah := Bool.eq_false_iff.mpr ah
  subst ah
  rw [if_neg nf_] at H
  obtain rfl := Option.some.inj H
  go_wp2
  go_ret
  exact ⟨tq_1, th_⟩
 subst ah
 rw [if_pos rfl] at H
 have H' := Aside0.mk H
 clear H
 go_wp2
 go_roundg k1
 case measure => have := HK1.out; omega
 case rel => exact ⟨(wrap64 (a5 + 1)), tq_3, H', ⟨tq_15⟩, ⟨th_⟩⟩

end Go.Proofs.YtleoknilacjakaaGreat.PFnExactPartWrites
