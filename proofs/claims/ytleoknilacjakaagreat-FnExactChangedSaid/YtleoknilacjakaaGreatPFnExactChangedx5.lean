/- Contracts of Go functions: each call returns what the Lean function beside it computes. Conditions: as each theorem states them. -/
import Derived.Test.YtleoknilacjakaaGreatPkFnExactChanged
import Derived.Test.YtleoknilacjakaaGreatPFnExactChangedx1
namespace Go.Proofs.YtleoknilacjakaaGreat.PFnExactChanged
open Go.RowKit Go.Proofs.YtleoknilacjakaaGreatW.PrintWords Go.Proofs.YtleoknilacjakaaGreatW.PrintLast Go.Proofs.YtleoknilacjakaaGreatW.PrintMore
attribute [local go_sem] max2_int min2_int max_two min_two max_three min_three max_four min_four   -- for this text's walks alone
set_option linter.unusedVariables false
set_option linter.unusedSimpArgs false

/-! ### laws_eqIntS: function 28 -/
def laws_eqIntS.l0 : Nat → List Int → List Int → Int → Option (Bool)
 | 0, _, _, _ => none
 | k + 1, x0, x1, x5 => if x5 < (x0.length : Int) then (if 0 ≤ x5 then (if x5 < (x1.length : Int) then (if (rd x0 x5) = (rd x1 x5) then (laws_eqIntS.l0 k x0 x1 (wrap64 (x5 + 1))) else (some false)) else (none)) else (none)) else (some true)
def laws_eqIntS.f (k : Nat) (l0 : List Int) (l1 : List Int) : Option (Bool) := if (l0.length : Int) = (l1.length : Int) then (laws_eqIntS.l0 k l0 l1 0) else (some false)
set_option maxHeartbeats 8000000 in
set_option maxRecDepth 100000 in
theorem laws_eqIntS.calls (k : Nat) (A0 : Option Addr) (c0 : Nat) (l0 : List Int) (A1 : Option Addr) (c1 : Nat) (l1 : List Int) (r : Bool) (w : World) (hr0 : Kd.C (Kd.int .i64) w A0 l0.length l0) (hc0 : l0.length ≤ c0) (hr1 : Kd.C (Kd.int .i64) w A1 l1.length l1) (hc1 : l1.length ≤ c1) (h : laws_eqIntS.f k l0 l1 = some r) :
  Calls Tryz.prog 28 #[.slice A0 l0.length c0, .slice A1 l1.length c1] w fun e w' => e = .returned (.bool r) ∧ Drawn0 w w' := by
 have HR0 := Aside0.mk hr0
 have an := Aside0.mk hc0
 clear hr0 hc0
 have ak := Aside0.mk hr1
 have ao := Aside0.mk hc1
 clear hr1 hc1
 unfold laws_eqIntS.f at h
 have H := h
 clear h
 by_cases c3 : (l0.length : Int) = (l1.length : Int)
 rotate_left
 ·rw [if_neg c3] at H
  have a9 := beq_eq_false_iff_ne.mpr c3
  have aa := bne_iff_ne.mpr c3
  have ab : (l0.length == l1.length) = false := by first | simpa using c3 | (simp at c3 ⊢; omega)
  obtain rfl := Option.some.inj H
  go_enter Tryz.func28, Tryz.ntmps28
  go_wp2
  repeat (go_quiet (fail); try go_wp2)
  go_ret
  exact ⟨tq_3, tq_9⟩
 rw [if_pos c3] at H
 have a9 := beq_iff_eq.mpr c3
 have aa := bne_eq_false_iff_eq.mpr c3
 have ab : (l0.length == l1.length) = true := by first | simpa using c3 | (simp at c3 ⊢; omega)
 clear c3
 have H' := Aside0.mk H
 clear H
 go_enter Tryz.func28, Tryz.ntmps28
 go_wp2
 repeat (go_quiet (fail); try go_wp2)
 go_loopg [5] k (fun kq v5 w' => ∃ (a5 : Int), v5 = .int .i64 a5 ∧ Aside0 (laws_eqIntS.l0 kq l0 l1 a5 = some r) ∧ Aside0 (kq ≤ k) ∧ Drawn0 w w')
 case atStart => exact ⟨(0), tq_3, H', ⟨Nat.le_refl _⟩, tq_9⟩
 case round =>
 clear H'
 try clear c1; try clear c2; try clear p2; try clear c3; try clear a9; try clear aa; try clear ab
 obtain ⟨a5, rfl, HA, HK1, ⟨m1, rfl⟩⟩ := hrel
 cases gk with
 | zero => exact absurd HA.out (by simp [laws_eqIntS.l0])
 | succ k1 =>
 have H := HA.out
 clear HA
 simp only [laws_eqIntS.l0] at H
 by_cases c4 : a5 < (l0.length : Int)
 rotate_left
 ·rw [if_neg c4] at H
  have ac := decide_eq_false c4
  clear c4
  obtain rfl := Option.some.inj H
  go_wp2
  repeat (go_quiet (fail); try go_wp2)
  go_ret
  exact ⟨tq_3, tq_9⟩
 rw [if_pos c4] at H
 have ac := decide_eq_true c4
 clear c4
 obtain ⟨c5, H⟩ := fc_ H
 have al := decide_eq_true c5
 clear c5
 obtain ⟨c6, H⟩ := fc_ H
 have am := decide_eq_true c6
 clear c6
 have ah := Aside0.mk H
 clear H
 have p182 : 0 ≤ (a5 : Int) := of_decide_eq_true tq_2
 have q182 : a5 < (l0.length : Int) := of_decide_eq_true tq_2
 obtain ⟨ai, ae, a7⟩ := Kd.at_int HR0.out a5 p182 q182
 cases ae
 replace p182 := eq_true p182
 replace q182 := eq_true q182
 have p183 : 0 ≤ (a5 : Int) := of_decide_eq_true tq_2
 have q183 : a5 < (l1.length : Int) := of_decide_eq_true tq_2
 obtain ⟨aj, af, a8⟩ := Kd.at_int ak.out a5 p183 q183
 cases af
 replace p183 := eq_true p183
 replace q183 := eq_true q183
 go_upto_if 25 with (fail)
 repeat (go_quiet (fail); go_upto_if 25 with (fail))
 (try clear a7)
 (try clear a8)
 have H := ah.out
 clear ah
 by_cases c8 : (rd l0 a5) = (rd l1 a5)
 rotate_left
 ·rw [if_neg c8] at H
  have a6 := beq_eq_false_iff_ne.mpr c8
  have ag := bne_iff_ne.mpr c8
  (first | rw [a6] | (simp only [i64_w, i32_w]; rw [a6]) | skip)
  obtain rfl := Option.some.inj H
  go_wp2
  repeat (go_quiet (fail); try go_wp2)
  go_ret
  exact ⟨tq_3, tq_9⟩
 rw [if_pos c8] at H
 have a6 := beq_iff_eq.mpr c8
 have ag := bne_eq_false_iff_eq.mpr c8
 clear c8
 (first | rw [a6] | (simp only [i64_w, i32_w]; rw [a6]) | skip)
 have H' := Aside0.mk H
 clear H
 go_wp2
 repeat (go_quiet (fail); try go_wp2)
 go_roundg k1
 case measure => have := HK1.out; omega
 case rel => exact ⟨(wrap64 (a5 + 1)), tq_3, H', ⟨tq_22⟩, tq_9⟩

/-! ### laws_eqRec: function 104 -/
def laws_eqRec.f (a5 : Int) (a6 : Int) (a7 : ByteArray) (a8 : Int) (a9 : Int) (aa : ByteArray) : Option (Bool) := if a5 = a8 then (if a6 = a9 then (if a7.toList = aa.toList then (some true) else (some false)) else (some false)) else (some false)
set_option maxHeartbeats 8000000 in
set_option maxRecDepth 100000 in
theorem laws_eqRec.calls (af : Int) (ag : Int) (ah : ByteArray) (ai : Int) (aj : Int) (ak : ByteArray) (r : Bool) (w : World) (h : laws_eqRec.f af ag ah ai aj ak = some r) :
  Calls Tryz.prog 104 #[.agg #[.int .i64 af, .int .i64 ag, .string ah], .agg #[.int .i64 ai, .int .i64 aj, .string ak]] w fun e w' => e = .returned (.bool r) ∧ Below w.heap.size w w' := by
 have hu89 := Tryz.underlying89
 have HB := Aside0.mk (Below.refl w.heap.size w)
 unfold laws_eqRec.f at h
 have H := h
 clear h
 have ay := Aside0.mk H
 clear H
 go_enter Tryz.func104, Tryz.ntmps104
 go_upto_if 9 with (first | ((with_reducible refine gate_dst (N := 2) rfl ?_); refine be_ 2 (cs := #[.int .i64 af, .int .i64 ag, .string ah]) 89 ?_; intro az hg w4 hbox hb; have z_ := bx0_ th_ hb hbox hg; clear HB; obtain ⟨HB, a7, b0, b1⟩ := z_; clear hb hbox hg) | ((with_reducible refine gate_dst (N := 3) rfl ?_); refine be_ 3 (cs := #[.int .i64 ai, .int .i64 aj, .string ak]) 89 ?_; intro b2 hg w5 hbox hb; have z_ := bx1_ (kb_ a7) th_ hb hbox hg; clear a7 HB; obtain ⟨a7, HB, aa, b3, b4, a5, a6⟩ := z_; clear hb hbox hg; obtain ⟨hnb6, hnc6⟩ := an2_ a5 a6; have b5 := bb3_ a7.out; have b6 := bb3_ aa.out))
 (try simp only [Act.put, List.setIfInBounds_toArray, List.set_cons_zero, List.set_cons_succ])
 (try clear b5)
 (try clear b6)
 (try clear b5)
 (try clear b6)
 have H := ay.out
 clear ay
 by_cases c9 : af = ai
 rotate_left
 ·rw [if_neg c9] at H
  have ab := beq_eq_false_iff_ne.mpr c9
  have ax := bne_iff_ne.mpr c9
  (first | rw [ab] | (simp only [i64_w, i32_w]; rw [ab]) | skip)
  obtain rfl := Option.some.inj H
  go_wp2
  go_ret
  exact ⟨tq_1, th_⟩
 rw [if_pos c9] at H
 have ab := beq_iff_eq.mpr c9
 have ax := bne_eq_false_iff_eq.mpr c9
 clear c9
 (first | rw [ab] | (simp only [i64_w, i32_w]; rw [ab]) | skip)
 have an := Aside0.mk H
 clear H
 obtain ⟨hnb11, hnc11⟩ := an2_ a5 a6
 have ao := bb3_ a7.out
 have ap := bb3_ aa.out
 go_upto_if 14 with (fail)
 (try clear ao)
 (try clear ap)
 (try clear ao)
 (try clear ap)
 have H := an.out
 clear an
 by_cases al : ag = aj
 rotate_left
 ·rw [if_neg al] at H
  have a8 := beq_eq_false_iff_ne.mpr al
  have aq := bne_iff_ne.mpr al
  (first | rw [a8] | (simp only [i64_w, i32_w]; rw [a8]) | skip)
  obtain rfl := Option.some.inj H
  go_wp2
  go_ret
  exact ⟨tq_1, th_⟩
 rw [if_pos al] at H
 have a8 := beq_iff_eq.mpr al
 have aq := bne_eq_false_iff_eq.mpr al
 clear al
 (first | rw [a8] | (simp only [i64_w, i32_w]; rw [a8]) | skip)
 have ar := Aside0.mk H
 clear H
 obtain ⟨ac, ae⟩ := an2_ a5 a6
 have au := bb3_ a7.out
 have av := bb3_ aa.out
 go_upto_if 19 with (fail)
 (try clear ac ae)
 (try clear au)
 (try clear av)
 (try clear au)
 (try clear av)
 have H := ar.out
 clear ar
 by_cases am : ah.toList = ak.toList
 rotate_left
 ·rw [if_neg am] at H
  have a9 := beq_eq_false_iff_ne.mpr am
  have aw := bne_iff_ne.mpr am
  (first | rw [a9] | (simp only [i64_w, i32_w]; rw [a9]) | skip)
  obtain rfl := Option.some.inj H
  go_wp2
  go_ret
  exact ⟨tq_1, th_⟩
 rw [if_pos am] at H
 have a9 := beq_iff_eq.mpr am
 have aw := bne_eq_false_iff_eq.mpr am
 clear am
 (first | rw [a9] | (simp only [i64_w, i32_w]; rw [a9]) | skip)
 obtain rfl := Option.some.inj H
 go_wp2
 go_ret
 exact ⟨tq_1, th_⟩

/-! ### laws_eqRecS: function 88 -/
def laws_eqRecS.l0 : Nat → List (S89) → List (S89) → Int → Option (Bool)
 | 0, _, _, _ => none
 | k + 1, x0, x1, x5 => if x5 < (x0.length : Int) then (if 0 ≤ x5 then (if x5 < (x1.length : Int) then ((laws_eqRec.f ((rd_T89 x0 x5).f0) ((rd_T89 x0 x5).f1) ((rd_T89 x0 x5).f2) ((rd_T89 x1 x5).f0) ((rd_T89 x1 x5).f1) ((rd_T89 x1 x5).f2)).bind fun a5 => (if a5 = true then (laws_eqRecS.l0 k x0 x1 (wrap64 (x5 + 1))) else (some false))) else (none)) else (none)) else (some true)
def laws_eqRecS.f (k : Nat) (l0 : List (S89)) (l1 : List (S89)) : Option (Bool) := if (l0.length : Int) = (l1.length : Int) then (laws_eqRecS.l0 k l0 l1 0) else (some false)
def laws_eqRecS.T6 : Bool × List (List Nat × List Nat) := (true, [([], []), ([], []), ([0, 1], [0, 1]), ([2], [2]), ([], []), ([], []), ([4, 5], [4, 5]), ([6], [6]), ([3, 7], [3, 7]), ([8], [8])])
def laws_eqRecS.B6 : List Nat := [0, 0, 3, 7, 0, 0, 48, 112, 255, 511]
theorem laws_eqRecS.tab6 : rtab .any (opsOf Tryz.f88 6) = laws_eqRecS.T6 := by kernel_rfl
theorem laws_eqRecS.bits6 : waitsOk laws_eqRecS.T6.2 laws_eqRecS.B6 = true := by kernel_rfl
set_option maxHeartbeats 8000000 in
set_option maxRecDepth 100000 in
theorem laws_eqRecS.calls (k : Nat) (A0 : Option Addr) (c0 : Nat) (l0 : List (S89)) (A1 : Option Addr) (c1 : Nat) (l1 : List (S89)) (r : Bool) (w : World) (hr0 : Kd.C k89 w A0 l0.length l0) (hc0 : l0.length ≤ c0) (hr1 : Kd.C k89 w A1 l1.length l1) (hc1 : l1.length ≤ c1) (h : laws_eqRecS.f k l0 l1 = some r) :
  Calls Tryz.prog 88 #[.slice A0 l0.length c0, .slice A1 l1.length c1] w fun e w' => e = .returned (.bool r) ∧ Below w.heap.size w w' := by
 have hu89 := Tryz.underlying89
 have HR0 := Aside0.mk hr0
 have ar := Aside0.mk hc0
 clear hr0 hc0
 have ao := Aside0.mk hr1
 have au := Aside0.mk hc1
 clear hr1 hc1
 have HB := Aside0.mk (Below.refl w.heap.size w)
 unfold laws_eqRecS.f at h
 have H := h
 clear h
 by_cases c3 : (l0.length : Int) = (l1.length : Int)
 rotate_left
 ·rw [if_neg c3] at H
  have af := beq_eq_false_iff_ne.mpr c3
  have ag := bne_iff_ne.mpr c3
  have ah : (l0.length == l1.length) = false := by first | simpa using c3 | (simp at c3 ⊢; omega)
  obtain rfl := Option.some.inj H
  go_enter Tryz.func88, Tryz.ntmps88
  go_wp2
  go_ret
  exact ⟨tq_1, th_⟩
 rw [if_pos c3] at H
 have af := beq_iff_eq.mpr c3
 have ag := bne_eq_false_iff_eq.mpr c3
 have ah : (l0.length == l1.length) = true := by first | simpa using c3 | (simp at c3 ⊢; omega)
 clear c3
 have H' := Aside0.mk H
 clear H
 go_enter Tryz.func88, Tryz.ntmps88
 go_wp2
 go_loopg [5] k (fun kq v5 w' => ∃ (a5 : Int), v5 = .int .i64 a5 ∧ Aside0 (laws_eqRecS.l0 kq l0 l1 a5 = some r) ∧ Aside0 (kq ≤ k) ∧ Aside0 (Below w.heap.size w w'))
 case atStart => exact ⟨(0), tq_3, H', ⟨Nat.le_refl _⟩, ⟨th_⟩⟩
 case round =>
 clear H'
 try clear c1; try clear p2; try clear c3; try clear af; try clear ag; try clear ah
 obtain ⟨a5, rfl, HA, HK1, HB⟩ := hrel
 cases gk with
 | zero => exact absurd HA.out (by simp [laws_eqRecS.l0])
 | succ k1 =>
 have H := HA.out
 clear HA
 simp only [laws_eqRecS.l0] at H
 by_cases c4 : a5 < (l0.length : Int)
 rotate_left
 ·rw [if_neg c4] at H
  have ak := decide_eq_false c4
  clear c4
  obtain rfl := Option.some.inj H
  go_wp2
  go_ret
  exact ⟨tq_1, th_⟩
 rw [if_pos c4] at H
 have ak := decide_eq_true c4
 clear c4
 obtain ⟨c5, H⟩ := fc_ H
 have ap := decide_eq_true c5
 clear c5
 obtain ⟨c6, H⟩ := fc_ H
 have aq := decide_eq_true c6
 clear c6
 obtain ⟨ai, A7, H⟩ := bd_ H
 have an := Aside0.mk H
 clear H
 try go_wp2
 have n0_ := Aside0.mk (below_drew1 HB.out)
 clear HB
 have HB := n0_
 clear n0_
 have p186 : 0 ≤ (a5 : Int) := of_decide_eq_true tq_2
 have q186 : a5 < (l0.length : Int) := of_decide_eq_true tq_2
 obtain ⟨ac, al, a6, a7, a8⟩ := at_T89 HR0.out a5 p186 q186
 have hw186_2 := a8
 have hw186_1 := a7
 have hw186_0 := a6
 cases al
 replace a6 := hx_ HB.out a6
 replace a7 := hx_ HB.out a7
 replace a8 := hx_ HB.out a8
 replace p186 := eq_true p186
 replace q186 := eq_true q186
 have p187 : 0 ≤ (a5 : Int) := of_decide_eq_true tq_2
 have q187 : a5 < (l1.length : Int) := of_decide_eq_true tq_2
 obtain ⟨ae, am, a9, aa, ab⟩ := at_T89 ao.out a5 p187 q187
 have hw187_2 := ab
 have hw187_1 := aa
 have hw187_0 := a9
 cases am
 replace a9 := hx_ HB.out a9
 replace aa := hx_ HB.out aa
 replace ab := hx_ HB.out ab
 replace p187 := eq_true p187
 replace q187 := eq_true q187
 refine start_ (n := 10) (S := fun w' => w'.cell? (ac.add ((a5).toNat * 3)) = some (.int .i64 ((rd_T89 l0 a5).f0)) ∧ w'.cell? ⟨(ac.add ((a5).toNat * 3)).block, (ac.add ((a5).toNat * 3)).off + 1, none⟩ = some (.int .i64 ((rd_T89 l0 a5).f1)) ∧ w'.cell? ⟨(ac.add ((a5).toNat * 3)).block, (ac.add ((a5).toNat * 3)).off + 2, none⟩ = some (.string ((rd_T89 l0 a5).f2)) ∧ w'.cell? (ae.add ((a5).toNat * 3)) = some (.int .i64 ((rd_T89 l1 a5).f0)) ∧ w'.cell? ⟨(ae.add ((a5).toNat * 3)).block, (ae.add ((a5).toNat * 3)).off + 1, none⟩ = some (.int .i64 ((rd_T89 l1 a5).f1)) ∧ w'.cell? ⟨(ae.add ((a5).toNat * 3)).block, (ae.add ((a5).toNat * 3)).off + 2, none⟩ = some (.string ((rd_T89 l1 a5).f2))) (ds := []) bq_5 (by kernel_rfl) rfl rfl ⟨((HB.out.cell (World.block_lt_of_cell? w _ hw186_0)).trans hw186_0), ((HB.out.cell (World.block_lt_of_cell? w _ hw186_1)).trans hw186_1), ((HB.out.cell (World.block_lt_of_cell? w _ hw186_2)).trans hw186_2), ((HB.out.cell (World.block_lt_of_cell? w _ hw187_0)).trans hw187_0), ((HB.out.cell (World.block_lt_of_cell? w _ hw187_1)).trans hw187_1), ((HB.out.cell (World.block_lt_of_cell? w _ hw187_2)).trans hw187_2)⟩ (fun hHeld => ?_); refine with_tabW laws_eqRecS.tab6 laws_eqRecS.bits6 (fun HT_ HW_ => ?_)
 generalize wr.drew = w9 at HB a6 a7 a8 a9 aa ab hHeld ⊢
 refine yr_ 0 17 bq_6 HT_ ?_
 refine yr_ 1 18 bq_7 HT_ ?_
 refine yr_ 2 19 bq_8 HT_ ?_
 refine yr_ 4 21 bq_9 HT_ ?_
 refine yr_ 5 22 bq_10 HT_ ?_
 refine yr_ 6 23 bq_11 HT_ ?_
 refine tr_ 3 20 bq_12 HT_ HW_ hHeld ?_
 refine tr_ 7 24 bq_13 HT_ HW_ hHeld ?_
 refine one_ (i := 8) (N := some 25) bq_14 rfl rfl (one_of HT_.out (by kernel_rfl)) (by decide) (fun K hK => ?_)
 refine goes_ Tryz.func104 (by kernel_rfl) rfl #[.agg #[.int .i64 ((rd_T89 l0 a5).f0), .int .i64 ((rd_T89 l0 a5).f1), .string ((rd_T89 l0 a5).f2)], .agg #[.int .i64 ((rd_T89 l1 a5).f0), .int .i64 ((rd_T89 l1 a5).f1), .string ((rd_T89 l1 a5).f2)]] (by rfl) rfl rfl tq_0 ?_
 with_reducible refine (laws_eqRec.calls ((rd_T89 l0 a5).f0) ((rd_T89 l0 a5).f1) ((rd_T89 l0 a5).f2) ((rd_T89 l1 a5).f0) ((rd_T89 l1 a5).f1) ((rd_T89 l1 a5).f2) ai _ A7.out).mono ?_
 rintro e av ⟨rfl, hb⟩
 refine ⟨_, rfl, ?_⟩
 have n0_ := Aside0.mk (below_step th_ hb)
 clear HB
 have HB := n0_
 clear n0_
 (try clear hb)
 refine hK.out _ _ ⟨((HB.out.cell (World.block_lt_of_cell? w _ hw186_0)).trans hw186_0), ((HB.out.cell (World.block_lt_of_cell? w _ hw186_1)).trans hw186_1), ((HB.out.cell (World.block_lt_of_cell? w _ hw186_2)).trans hw186_2), ((HB.out.cell (World.block_lt_of_cell? w _ hw187_0)).trans hw187_0), ((HB.out.cell (World.block_lt_of_cell? w _ hw187_1)).trans hw187_1), ((HB.out.cell (World.block_lt_of_cell? w _ hw187_2)).trans hw187_2)⟩ (fun hHeld => ?_)
 clear hK K
 refine nm_ (some 25) ?_
 refine yr_ 9 26 bq_15 HT_ ?_
 refine done_ (done_of HT_.out (by kernel_rfl)) ?_
 go_upto_if 26 with (fail)
 (try clear a6 a7 a8)
 (try clear a9 aa ab)
 have H := an.out
 clear an
 by_cases aj : ai = true
 rotate_left
 ·replace aj := Bool.eq_false_iff.mpr aj
  subst aj
  rw [if_neg nf_] at H
  obtain rfl := Option.some.inj H
  go_wp2
  go_ret
  exact ⟨tq_1, th_⟩
 subst aj
 rw [if_pos rfl] at H
 have H' := Aside0.mk H
 clear H
 go_wp2
 go_roundg k1
 case measure => have := HK1.out; omega
 case rel => exact ⟨(wrap64 (a5 + 1)), tq_3, H', ⟨tq_22⟩, ⟨th_⟩⟩

/-! ### laws_eqEntry: function 105 -/
def laws_eqEntry.f (a5 : Int) (a6 : ByteArray) (a7 : Int) (a8 : ByteArray) : Option (Bool) := if a5 = a7 then (if a6.toList = a8.toList then (some true) else (some false)) else (some false)
set_option maxHeartbeats 8000000 in
set_option maxRecDepth 100000 in
theorem laws_eqEntry.calls (aa : Int) (ab : ByteArray) (ac : Int) (ae : ByteArray) (r : Bool) (w : World) (h : laws_eqEntry.f aa ab ac ae = some r) :
  Calls Tryz.prog 105 #[.agg #[.int .i64 aa, .string ab], .agg #[.int .i64 ac, .string ae]] w fun e w' => e = .returned (.bool r) ∧ Below w.heap.size w w' := by
 have hu72 := Tryz.underlying72
 have HB := Aside0.mk (Below.refl w.heap.size w)
 unfold laws_eqEntry.f at h
 have H := h
 clear h
 have am := Aside0.mk H
 clear H
 go_enter Tryz.func105, Tryz.ntmps105
 go_upto_if 9 with (first | ((with_reducible refine gate_dst (N := 2) rfl ?_); refine be_ 2 (cs := #[.int .i64 aa, .string ab]) 72 ?_; intro an hg w4 hbox hb; have z_ := bx0_ th_ hb hbox hg; clear HB; obtain ⟨HB, a7, ao, ap⟩ := z_; clear hb hbox hg) | ((with_reducible refine gate_dst (N := 3) rfl ?_); refine be_ 3 (cs := #[.int .i64 ac, .string ae]) 72 ?_; intro aq hg w5 hbox hb; have z_ := bx1_ (kb_ a7) th_ hb hbox hg; clear a7 HB; obtain ⟨a7, HB, af, ar, au, a5, a6⟩ := z_; clear hb hbox hg; obtain ⟨hnb6, hnc6⟩ := an2_ a5 a6; have av := bb2_ a7.out; have aw := bb2_ af.out))
 (try simp only [Act.put, List.setIfInBounds_toArray, List.set_cons_zero, List.set_cons_succ])
 (try clear av)
 (try clear aw)
 (try clear av)
 (try clear aw)
 have H := am.out
 clear am
 by_cases c9 : aa = ac
 rotate_left
 ·rw [if_neg c9] at H
  have a9 := beq_eq_false_iff_ne.mpr c9
  have al := bne_iff_ne.mpr c9
  (first | rw [a9] | (simp only [i64_w, i32_w]; rw [a9]) | skip)
  obtain rfl := Option.some.inj H
  go_wp2
  go_ret
  exact ⟨tq_1, th_⟩
 rw [if_pos c9] at H
 have a9 := beq_iff_eq.mpr c9
 have al := bne_eq_false_iff_eq.mpr c9
 clear c9
 (first | rw [a9] | (simp only [i64_w, i32_w]; rw [a9]) | skip)
 have ah := Aside0.mk H
 clear H
 obtain ⟨hnb11, hnc11⟩ := an2_ a5 a6
 have ai := bb2_ a7.out
 have aj := bb2_ af.out
 go_upto_if 14 with (fail)
 (try clear ai)
 (try clear aj)
 (try clear ai)
 (try clear aj)
 have H := ah.out
 clear ah
 by_cases ag : ab.toList = ae.toList
 rotate_left
 ·rw [if_neg ag] at H
  have a8 := beq_eq_false_iff_ne.mpr ag
  have ak := bne_iff_ne.mpr ag
  (first | rw [a8] | (simp only [i64_w, i32_w]; rw [a8]) | skip)
  obtain rfl := Option.some.inj H
  go_wp2
  go_ret
  exact ⟨tq_1, th_⟩
 rw [if_pos ag] at H
 have a8 := beq_iff_eq.mpr ag
 have ak := bne_eq_false_iff_eq.mpr ag
 clear ag
 (first | rw [a8] | (simp only [i64_w, i32_w]; rw [a8]) | skip)
 obtain rfl := Option.some.inj H
 go_wp2
 go_ret
 exact ⟨tq_1, th_⟩

/-! ### laws_eqEntryS: function 89 -/
def laws_eqEntryS.l0 : Nat → List (S72) → List (S72) → Int → Option (Bool)
 | 0, _, _, _ => none
 | k + 1, x0, x1, x5 => if x5 < (x0.length : Int) then (if 0 ≤ x5 then (if x5 < (x1.length : Int) then ((laws_eqEntry.f ((rd_T72 x0 x5).f0) ((rd_T72 x0 x5).f1) ((rd_T72 x1 x5).f0) ((rd_T72 x1 x5).f1)).bind fun a5 => (if a5 = true then (laws_eqEntryS.l0 k x0 x1 (wrap64 (x5 + 1))) else (some false))) else (none)) else (none)) else (some true)
def laws_eqEntryS.f (k : Nat) (l0 : List (S72)) (l1 : List (S72)) : Option (Bool) := if (l0.length : Int) = (l1.length : Int) then (laws_eqEntryS.l0 k l0 l1 0) else (some false)
def laws_eqEntryS.T6 : Bool × List (List Nat × List Nat) := (true, [([], []), ([], []), ([0, 1], [0, 1]), ([2], [2]), ([], []), ([], []), ([4, 5], [4, 5]), ([6], [6]), ([3, 7], [3, 7]), ([8], [8])])
def laws_eqEntryS.B6 : List Nat := [0, 0, 3, 7, 0, 0, 48, 112, 255, 511]
theorem laws_eqEntryS.tab6 : rtab .any (opsOf Tryz.f89 6) = laws_eqEntryS.T6 := by kernel_rfl
theorem laws_eqEntryS.bits6 : waitsOk laws_eqEntryS.T6.2 laws_eqEntryS.B6 = true := by kernel_rfl
set_option maxHeartbeats 8000000 in
set_option maxRecDepth 100000 in
theorem laws_eqEntryS.calls (k : Nat) (A0 : Option Addr) (c0 : Nat) (l0 : List (S72)) (A1 : Option Addr) (c1 : Nat) (l1 : List (S72)) (r : Bool) (w : World) (hr0 : Kd.C k72 w A0 l0.length l0) (hc0 : l0.length ≤ c0) (hr1 : Kd.C k72 w A1 l1.length l1) (hc1 : l1.length ≤ c1) (h : laws_eqEntryS.f k l0 l1 = some r) :
  Calls Tryz.prog 89 #[.slice A0 l0.length c0, .slice A1 l1.length c1] w fun e w' => e = .returned (.bool r) ∧ Below w.heap.size w w' := by
 have hu72 := Tryz.underlying72
 have HR0 := Aside0.mk hr0
 have ap := Aside0.mk hc0
 clear hr0 hc0
 have am := Aside0.mk hr1
 have aq := Aside0.mk hc1
 clear hr1 hc1
 have HB := Aside0.mk (Below.refl w.heap.size w)
 unfold laws_eqEntryS.f at h
 have H := h
 clear h
 by_cases c3 : (l0.length : Int) = (l1.length : Int)
 rotate_left
 ·rw [if_neg c3] at H
  have ac := beq_eq_false_iff_ne.mpr c3
  have ae := bne_iff_ne.mpr c3
  have af : (l0.length == l1.length) = false := by first | simpa using c3 | (simp at c3 ⊢; omega)
  obtain rfl := Option.some.inj H
  go_enter Tryz.func89, Tryz.ntmps89
  go_wp2
  go_ret
  exact ⟨tq_1, th_⟩
 rw [if_pos c3] at H
 have ac := beq_iff_eq.mpr c3
 have ae := bne_eq_false_iff_eq.mpr c3
 have af : (l0.length == l1.length) = true := by first | simpa using c3 | (simp at c3 ⊢; omega)
 clear c3
 have H' := Aside0.mk H
 clear H
 go_enter Tryz.func89, Tryz.ntmps89
 go_wp2
 go_loopg [5] k (fun kq v5 w' => ∃ (a5 : Int), v5 = .int .i64 a5 ∧ Aside0 (laws_eqEntryS.l0 kq l0 l1 a5 = some r) ∧ Aside0 (kq ≤ k) ∧ Aside0 (Below w.heap.size w w'))
 case atStart => exact ⟨(0), tq_3, H', ⟨Nat.le_refl _⟩, ⟨th_⟩⟩
 case round =>
 clear H'
 try clear c1; try clear p2; try clear c3; try clear ac; try clear ae; try clear af
 obtain ⟨a5, rfl, HA, HK1, HB⟩ := hrel
 cases gk with
 | zero => exact absurd HA.out (by simp [laws_eqEntryS.l0])
 | succ k1 =>
 have H := HA.out
 clear HA
 simp only [laws_eqEntryS.l0] at H
 by_cases c4 : a5 < (l0.length : Int)
 rotate_left
 ·rw [if_neg c4] at H
  have ai := decide_eq_false c4
  clear c4
  obtain rfl := Option.some.inj H
  go_wp2
  go_ret
  exact ⟨tq_1, th_⟩
 rw [if_pos c4] at H
 have ai := decide_eq_true c4
 clear c4
 obtain ⟨c5, H⟩ := fc_ H
 have an := decide_eq_true c5
 clear c5
 obtain ⟨c6, H⟩ := fc_ H
 have ao := decide_eq_true c6
 clear c6
 obtain ⟨ag, A7, H⟩ := bd_ H
 have al := Aside0.mk H
 clear H
 try go_wp2
 have n0_ := Aside0.mk (below_drew1 HB.out)
 clear HB
 have HB := n0_
 clear n0_
 have p191 : 0 ≤ (a5 : Int) := of_decide_eq_true tq_2
 have q191 : a5 < (l0.length : Int) := of_decide_eq_true tq_2
 obtain ⟨aa, aj, a6, a7⟩ := at_T72 HR0.out a5 p191 q191
 have hw191_1 := a7
 have hw191_0 := a6
 cases aj
 replace a6 := hx_ HB.out a6
 replace a7 := hx_ HB.out a7
 replace p191 := eq_true p191
 replace q191 := eq_true q191
 have p192 : 0 ≤ (a5 : Int) := of_decide_eq_true tq_2
 have q192 : a5 < (l1.length : Int) := of_decide_eq_true tq_2
 obtain ⟨ab, ak, a8, a9⟩ := at_T72 am.out a5 p192 q192
 have hw192_1 := a9
 have hw192_0 := a8
 cases ak
 replace a8 := hx_ HB.out a8
 replace a9 := hx_ HB.out a9
 replace p192 := eq_true p192
 replace q192 := eq_true q192
 refine start_ (n := 10) (S := fun w' => w'.cell? (aa.add ((a5).toNat * 2)) = some (.int .i64 ((rd_T72 l0 a5).f0)) ∧ w'.cell? ⟨(aa.add ((a5).toNat * 2)).block, (aa.add ((a5).toNat * 2)).off + 1, none⟩ = some (.string ((rd_T72 l0 a5).f1)) ∧ w'.cell? (ab.add ((a5).toNat * 2)) = some (.int .i64 ((rd_T72 l1 a5).f0)) ∧ w'.cell? ⟨(ab.add ((a5).toNat * 2)).block, (ab.add ((a5).toNat * 2)).off + 1, none⟩ = some (.string ((rd_T72 l1 a5).f1))) (ds := []) bq_5 (by kernel_rfl) rfl rfl ⟨((HB.out.cell (World.block_lt_of_cell? w _ hw191_0)).trans hw191_0), ((HB.out.cell (World.block_lt_of_cell? w _ hw191_1)).trans hw191_1), ((HB.out.cell (World.block_lt_of_cell? w _ hw192_0)).trans hw192_0), ((HB.out.cell (World.block_lt_of_cell? w _ hw192_1)).trans hw192_1)⟩ (fun hHeld => ?_); refine with_tabW laws_eqEntryS.tab6 laws_eqEntryS.bits6 (fun HT_ HW_ => ?_)
 generalize wr.drew = w9 at HB a6 a7 a8 a9 hHeld ⊢
 refine yr_ 0 17 bq_6 HT_ ?_
 refine yr_ 1 18 bq_7 HT_ ?_
 refine yr_ 2 19 bq_8 HT_ ?_
 refine yr_ 4 21 bq_9 HT_ ?_
 refine yr_ 5 22 bq_10 HT_ ?_
 refine yr_ 6 23 bq_11 HT_ ?_
 refine tr_ 3 20 bq_12 HT_ HW_ hHeld ?_
 refine tr_ 7 24 bq_13 HT_ HW_ hHeld ?_
 refine one_ (i := 8) (N := some 25) bq_14 rfl rfl (one_of HT_.out (by kernel_rfl)) (by decide) (fun K hK => ?_)
 refine goes_ Tryz.func105 (by kernel_rfl) rfl #[.agg #[.int .i64 ((rd_T72 l0 a5).f0), .string ((rd_T72 l0 a5).f1)], .agg #[.int .i64 ((rd_T72 l1 a5).f0), .string ((rd_T72 l1 a5).f1)]] (by rfl) rfl rfl tq_0 ?_
 with_reducible refine (laws_eqEntry.calls ((rd_T72 l0 a5).f0) ((rd_T72 l0 a5).f1) ((rd_T72 l1 a5).f0) ((rd_T72 l1 a5).f1) ag _ A7.out).mono ?_
 rintro e ar ⟨rfl, hb⟩
 refine ⟨_, rfl, ?_⟩
 have n0_ := Aside0.mk (below_step th_ hb)
 clear HB
 have HB := n0_
 clear n0_
 (try clear hb)
 refine hK.out _ _ ⟨((HB.out.cell (World.block_lt_of_cell? w _ hw191_0)).trans hw191_0), ((HB.out.cell (World.block_lt_of_cell? w _ hw191_1)).trans hw191_1), ((HB.out.cell (World.block_lt_of_cell? w _ hw192_0)).trans hw192_0), ((HB.out.cell (World.block_lt_of_cell? w _ hw192_1)).trans hw192_1)⟩ (fun hHeld => ?_)
 clear hK K
 refine nm_ (some 25) ?_
 refine yr_ 9 26 bq_15 HT_ ?_
 refine done_ (done_of HT_.out (by kernel_rfl)) ?_
 go_upto_if 26 with (fail)
 (try clear a6 a7)
 (try clear a8 a9)
 have H := al.out
 clear al
 by_cases ah : ag = true
 rotate_left
 ·replace ah := Bool.eq_false_iff.mpr ah
  subst ah
  rw [if_neg nf_] at H
  obtain rfl := Option.some.inj H
  go_wp2
  go_ret
  exact ⟨tq_1, th_⟩
 subst ah
 rw [if_pos rfl] at H
 have H' := Aside0.mk H
 clear H
 go_wp2
 go_roundg k1
 case measure => have := HK1.out; omega
 case rel => exact ⟨(wrap64 (a5 + 1)), tq_3, H', ⟨tq_22⟩, ⟨th_⟩⟩

/-! ### laws_eqInode: function 58 -/
def laws_eqInode.f (k : Nat) (a5 : Int) (a6 : Int) (a7 : Int) (a8 : ByteArray) (a9 : List (S89)) (aa : List (S72)) (ab : Int) (ac : Int) (ae : Int) (af : ByteArray) (ag : List (S89)) (ah : List (S72)) : Option (Bool) := if a5 = ab then (if a6 = ac then (if a7 = ae then (if a8.toList = af.toList then ((laws_eqRecS.f k a9 ag).bind fun ai => (if ai = true then ((laws_eqEntryS.f k aa ah).bind fun aj => (if aj = true then (some true) else (some false))) else (some false))) else (some false)) else (some false)) else (some false)) else (some false)
set_option maxHeartbeats 8000000 in
set_option maxRecDepth 100000 in
theorem laws_eqInode.calls (k : Nat) (aj : Int) (ak : Int) (al : Int) (am : ByteArray) (an : Option Addr) (ao : Nat) (l0_4 : List (S89)) (ap : Option Addr) (aq : Nat) (ab : List (S72)) (ar : Int) (au : Int) (av : Int) (aw : ByteArray) (ax : Option Addr) (ay : Nat) (ac : List (S89)) (az : Option Addr) (b0 : Nat) (ae : List (S72)) (r : Bool) (w : World) (b1 : Kd.C k89 w an l0_4.length l0_4) (b2 : l0_4.length ≤ ao) (b3 : Kd.C k72 w ap ab.length ab) (b4 : ab.length ≤ aq) (b5 : Kd.C k89 w ax ac.length ac) (b6 : ac.length ≤ ay) (b7 : Kd.C k72 w az ae.length ae) (b8 : ae.length ≤ b0) (h : laws_eqInode.f k aj ak al am l0_4 ab ar au av aw ac ae = some r) :
  Calls Tryz.prog 58 #[.agg #[.int .i64 aj, .int .i64 ak, .int .i64 al, .string am, .slice an l0_4.length ao, .slice ap ab.length aq], .agg #[.int .i64 ar, .int .i64 au, .int .i64 av, .string aw, .slice ax ac.length ay, .slice az ae.length b0]] w fun e w' => e = .returned (.bool r) ∧ Below w.heap.size w w' := by
 have hu69 := Tryz.underlying69
 have HR0_4 := Aside0.mk b1
 have bc := Aside0.mk b2
 clear b1 b2
 have HR0_5 := Aside0.mk b3
 have bd := Aside0.mk b4
 clear b3 b4
 have be := Aside0.mk b5
 have bf := Aside0.mk b6
 clear b5 b6
 have bg := Aside0.mk b7
 have bh := Aside0.mk b8
 clear b7 b8
 have HB := Aside0.mk (Below.refl w.heap.size w)
 unfold laws_eqInode.f at h
 have H := h
 clear h
 have ci := Aside0.mk H
 clear H
 go_enter Tryz.func58, Tryz.ntmps58
 go_upto_if 9 with (first | ((with_reducible refine gate_dst (N := 2) rfl ?_); refine be_ 2 (cs := #[.int .i64 aj, .int .i64 ak, .int .i64 al, .string am, .slice an l0_4.length ao, .slice ap ab.length aq]) 69 ?_; intro cj hg w4 hbox hb; have z_ := bx0_ th_ hb hbox hg; clear HB; obtain ⟨HB, a9, ck, cl⟩ := z_; clear hb hbox hg) | ((with_reducible refine gate_dst (N := 3) rfl ?_); refine be_ 3 (cs := #[.int .i64 ar, .int .i64 au, .int .i64 av, .string aw, .slice ax ac.length ay, .slice az ae.length b0]) 69 ?_; intro cm hg w5 hbox hb; have z_ := bx1_ (kb_ a9) th_ hb hbox hg; clear a9 HB; obtain ⟨a9, HB, aa, cn, co, a7, a8⟩ := z_; clear hb hbox hg; obtain ⟨hnb6, hnc6⟩ := an2_ a7 a8; have cp := bb6_ a9.out; have cq := bb6_ aa.out))
 (try simp only [Act.put, List.setIfInBounds_toArray, List.set_cons_zero, List.set_cons_succ])
 (try clear cp)
 (try clear cq)
 (try clear cp)
 (try clear cq)
 have H := ci.out
 clear ci
 by_cases c9 : aj = ar
 rotate_left
 ·rw [if_neg c9] at H
  have ai := beq_eq_false_iff_ne.mpr c9
  have ch := bne_iff_ne.mpr c9
  (first | rw [ai] | (simp only [i64_w, i32_w]; rw [ai]) | skip)
  obtain rfl := Option.some.inj H
  go_wp2
  go_ret
  exact ⟨tq_1, th_⟩
 rw [if_pos c9] at H
 have ai := beq_iff_eq.mpr c9
 have ch := bne_eq_false_iff_eq.mpr c9
 clear c9
 (first | rw [ai] | (simp only [i64_w, i32_w]; rw [ai]) | skip)
 have bi := Aside0.mk H
 clear H
 obtain ⟨a5, a6⟩ := an2_ a7 a8
 have bj := bb6_ a9.out
 have bl := bb6_ aa.out
 go_upto_if 14 with (fail)
 (try clear a5 a6)
 (try clear bj)
 (try clear bl)
 (try clear bj)
 (try clear bl)
 have H := bi.out
 clear bi
 by_cases b9 : ak = au
 rotate_left
 ·rw [if_neg b9] at H
  have af := beq_eq_false_iff_ne.mpr b9
  have bm := bne_iff_ne.mpr b9
  (first | rw [af] | (simp only [i64_w, i32_w]; rw [af]) | skip)
  obtain rfl := Option.some.inj H
  go_wp2
  go_ret
  exact ⟨tq_1, th_⟩
 rw [if_pos b9] at H
 have af := beq_iff_eq.mpr b9
 have bm := bne_eq_false_iff_eq.mpr b9
 clear b9
 (first | rw [af] | (simp only [i64_w, i32_w]; rw [af]) | skip)
 have bn := Aside0.mk H
 clear H
 obtain ⟨a5, a6⟩ := an2_ a7 a8
 have bo := bb6_ a9.out
 have bp := bb6_ aa.out
 go_upto_if 19 with (fail)
 (try clear a5 a6)
 (try clear bo)
 (try clear bp)
 (try clear bo)
 (try clear bp)
 have H := bn.out
 clear bn
 by_cases ba : al = av
 rotate_left
 ·rw [if_neg ba] at H
  have ag := beq_eq_false_iff_ne.mpr ba
  have bq := bne_iff_ne.mpr ba
  (first | rw [ag] | (simp only [i64_w, i32_w]; rw [ag]) | skip)
  obtain rfl := Option.some.inj H
  go_wp2
  go_ret
  exact ⟨tq_1, th_⟩
 rw [if_pos ba] at H
 have ag := beq_iff_eq.mpr ba
 have bq := bne_eq_false_iff_eq.mpr ba
 clear ba
 (first | rw [ag] | (simp only [i64_w, i32_w]; rw [ag]) | skip)
 have br := Aside0.mk H
 clear H
 obtain ⟨a5, a6⟩ := an2_ a7 a8
 have bs := bb6_ a9.out
 have bu := bb6_ aa.out
 go_upto_if 24 with (fail)
 (try clear a5 a6)
 (try clear bs)
 (try clear bu)
 (try clear bs)
 (try clear bu)
 have H := br.out
 clear br
 by_cases bb : am.toList = aw.toList
 rotate_left
 ·rw [if_neg bb] at H
  have ah := beq_eq_false_iff_ne.mpr bb
  have bv := bne_iff_ne.mpr bb
  (first | rw [ah] | (simp only [i64_w, i32_w]; rw [ah]) | skip)
  obtain rfl := Option.some.inj H
  go_wp2
  go_ret
  exact ⟨tq_1, th_⟩
 rw [if_pos bb] at H
 have ah := beq_iff_eq.mpr bb
 have bv := bne_eq_false_iff_eq.mpr bb
 clear bb
 (first | rw [ah] | (simp only [i64_w, i32_w]; rw [ah]) | skip)
 obtain ⟨bw, cr, H⟩ := bd_ H
 have bx := Aside0.mk H
 clear H
 obtain ⟨a5, a6⟩ := an2_ a7 a8
 have bz := bb6_ a9.out
 have ca := bb6_ aa.out
 go_upto_if 30 with (first | ((with_reducible refine gate_callee (f := 88) rfl ?_); refine goesL_ (some 29) rfl rfl Tryz.func88 (by kernel_rfl) rfl #[.slice an l0_4.length ao, .slice ax ac.length ay] rfl tq_0 ?_; (with_reducible refine (laws_eqRecS.calls k _ _ l0_4 _ _ ac bw _ ?side1 ?side2 ?side3 ?side4 cr.out).mono ?_); (case side1 => exact tq_41); (case side2 => exact bc.out); (case side3 => repeat (first | exact (Kd.C_below be.out HB.out) | (with_reducible refine Kd.C_alloc ?_ _) | (with_reducible refine Kd.C_drewN ?_ _) | (with_reducible refine Kd.C_drew ?_))); (case side4 => exact bf.out); rintro e cu ⟨rfl, hb⟩; refine ⟨_, rfl, ?_⟩; have z_ := bw2_ (kb_ a9) (kb_ aa) th_ hb; clear a9 aa HB; obtain ⟨a9, aa, HB⟩ := z_; (try clear hb)))
 (try simp only [Act.put, List.setIfInBounds_toArray, List.set_cons_zero, List.set_cons_succ])
 (try clear a5 a6)
 (try clear bz)
 (try clear ca)
 (try clear bz)
 (try clear ca)
 have H := bx.out
 clear bx
 by_cases cf : bw = true
 rotate_left
 ·replace cf := Bool.eq_false_iff.mpr cf
  subst cf
  rw [if_neg nf_] at H
  obtain rfl := Option.some.inj H
  go_wp2
  go_ret
  exact ⟨tq_1, th_⟩
 subst cf
 rw [if_pos rfl] at H
 obtain ⟨cb, ct, H⟩ := bd_ H
 have cc := Aside0.mk H
 clear H
 obtain ⟨a5, a6⟩ := an2_ a7 a8
 have cd := bb6_ a9.out
 have ce := bb6_ aa.out
 go_upto_if 36 with (first | ((with_reducible refine gate_callee (f := 89) rfl ?_); refine goesL_ (some 35) rfl rfl Tryz.func89 (by kernel_rfl) rfl #[.slice ap ab.length aq, .slice az ae.length b0] rfl tq_0 ?_; (with_reducible refine (laws_eqEntryS.calls k _ _ ab _ _ ae cb _ ?side1 ?side2 ?side3 ?side4 ct.out).mono ?_); (case side1 => exact tq_40); (case side2 => exact bd.out); (case side3 => repeat (first | exact (Kd.C_below bg.out HB.out) | (with_reducible refine Kd.C_alloc ?_ _) | (with_reducible refine Kd.C_drewN ?_ _) | (with_reducible refine Kd.C_drew ?_))); (case side4 => exact bh.out); rintro e cv ⟨rfl, hb⟩; refine ⟨_, rfl, ?_⟩; have z_ := bw2_ (kb_ a9) (kb_ aa) th_ hb; clear a9 aa HB; obtain ⟨a9, aa, HB⟩ := z_; (try clear hb)))
 (try simp only [Act.put, List.setIfInBounds_toArray, List.set_cons_zero, List.set_cons_succ])
 (try clear a5 a6)
 (try clear cd)
 (try clear ce)
 (try clear cd)
 (try clear ce)
 have H := cc.out
 clear cc
 by_cases cg : cb = true
 ·subst cg
  rw [if_pos rfl] at H
  obtain rfl := Option.some.inj H
  go_wp2
  go_ret
  exact ⟨tq_1, th_⟩
 replace cg := Bool.eq_false_iff.mpr cg
 subst cg
 rw [if_neg nf_] at H
 obtain rfl := Option.some.inj H
 go_wp2
 go_ret
 exact ⟨tq_1, th_⟩

/-! ### laws_eqInodeS: function 29 -/
def laws_eqInodeS.l0 : Nat → List (S69) → List (S69) → Int → Option (Bool)
 | 0, _, _, _ => none
 | k + 1, x0, x1, x5 => if x5 < (x0.length : Int) then (if 0 ≤ x5 then (if x5 < (x1.length : Int) then ((laws_eqInode.f k ((rd_T69 x0 x5).f0) ((rd_T69 x0 x5).f1) ((rd_T69 x0 x5).f2) ((rd_T69 x0 x5).f3) ((rd_T69 x0 x5).f4) ((rd_T69 x0 x5).f5) ((rd_T69 x1 x5).f0) ((rd_T69 x1 x5).f1) ((rd_T69 x1 x5).f2) ((rd_T69 x1 x5).f3) ((rd_T69 x1 x5).f4) ((rd_T69 x1 x5).f5)).bind fun a5 => (if a5 = true then (laws_eqInodeS.l0 k x0 x1 (wrap64 (x5 + 1))) else (some false))) else (none)) else (none)) else (some true)
def laws_eqInodeS.f (k : Nat) (l0 : List (S69)) (l1 : List (S69)) : Option (Bool) := if (l0.length : Int) = (l1.length : Int) then (laws_eqInodeS.l0 k l0 l1 0) else (some false)
def laws_eqInodeS.T6 : Bool × List (List Nat × List Nat) := (true, [([], []), ([], []), ([0, 1], [0, 1]), ([2], [2]), ([], []), ([], []), ([4, 5], [4, 5]), ([6], [6]), ([3, 7], [3, 7]), ([8], [8])])
def laws_eqInodeS.B6 : List Nat := [0, 0, 3, 7, 0, 0, 48, 112, 255, 511]
theorem laws_eqInodeS.tab6 : rtab .any (opsOf Tryz.f29 6) = laws_eqInodeS.T6 := by kernel_rfl
theorem laws_eqInodeS.bits6 : waitsOk laws_eqInodeS.T6.2 laws_eqInodeS.B6 = true := by kernel_rfl
set_option maxHeartbeats 8000000 in
set_option maxRecDepth 100000 in
theorem laws_eqInodeS.calls (k : Nat) (A0 : Option Addr) (c0 : Nat) (l0 : List (S69)) (A1 : Option Addr) (c1 : Nat) (l1 : List (S69)) (r : Bool) (w : World) (hr0 : Kd.C k69 w A0 l0.length l0) (hc0 : l0.length ≤ c0) (hr1 : Kd.C k69 w A1 l1.length l1) (hc1 : l1.length ≤ c1) (h : laws_eqInodeS.f k l0 l1 = some r) :
  Calls Tryz.prog 29 #[.slice A0 l0.length c0, .slice A1 l1.length c1] w fun e w' => e = .returned (.bool r) ∧ Below w.heap.size w w' := by
 have hu69 := Tryz.underlying69
 have HR0 := Aside0.mk hr0
 have bo := Aside0.mk hc0
 clear hr0 hc0
 have bl := Aside0.mk hr1
 have bp := Aside0.mk hc1
 clear hr1 hc1
 have HB := Aside0.mk (Below.refl w.heap.size w)
 unfold laws_eqInodeS.f at h
 have H := h
 clear h
 by_cases c3 : (l0.length : Int) = (l1.length : Int)
 rotate_left
 ·rw [if_neg c3] at H
  have bb := beq_eq_false_iff_ne.mpr c3
  have bc := bne_iff_ne.mpr c3
  have bd : (l0.length == l1.length) = false := by first | simpa using c3 | (simp at c3 ⊢; omega)
  obtain rfl := Option.some.inj H
  go_enter Tryz.func29, Tryz.ntmps29
  go_wp2
  go_ret
  exact ⟨tq_1, th_⟩
 rw [if_pos c3] at H
 have bb := beq_iff_eq.mpr c3
 have bc := bne_eq_false_iff_eq.mpr c3
 have bd : (l0.length == l1.length) = true := by first | simpa using c3 | (simp at c3 ⊢; omega)
 clear c3
 have H' := Aside0.mk H
 clear H
 go_enter Tryz.func29, Tryz.ntmps29
 go_wp2
 go_loopg [5] k (fun kq v5 w' => ∃ (a5 : Int), v5 = .int .i64 a5 ∧ Aside0 (laws_eqInodeS.l0 kq l0 l1 a5 = some r) ∧ Aside0 (kq ≤ k) ∧ Aside0 (Below w.heap.size w w'))
 case atStart => exact ⟨(0), tq_3, H', ⟨Nat.le_refl _⟩, ⟨th_⟩⟩
 case round =>
 clear H'
 try clear c1; try clear c2; try clear p2; try clear c3; try clear bb; try clear bc; try clear bd
 obtain ⟨a5, rfl, HA, HK1, HB⟩ := hrel
 cases gk with
 | zero => exact absurd HA.out (by simp [laws_eqInodeS.l0])
 | succ k1 =>
 have H := HA.out
 clear HA
 simp only [laws_eqInodeS.l0] at H
 by_cases c4 : a5 < (l0.length : Int)
 rotate_left
 ·rw [if_neg c4] at H
  have bg := decide_eq_false c4
  clear c4
  obtain rfl := Option.some.inj H
  go_wp2
  go_ret
  exact ⟨tq_1, th_⟩
 rw [if_pos c4] at H
 have bg := decide_eq_true c4
 clear c4
 obtain ⟨c5, H⟩ := fc_ H
 have bm := decide_eq_true c5
 clear c5
 obtain ⟨c6, H⟩ := fc_ H
 have bn := decide_eq_true c6
 clear c6
 obtain ⟨be, A7, H⟩ := bd_ H
 have bj := Aside0.mk H
 clear H
 try go_wp2
 have n0_ := Aside0.mk (below_drew1 HB.out)
 clear HB
 have HB := n0_
 clear n0_
 have p198 : 0 ≤ (a5 : Int) := of_decide_eq_true tq_2
 have q198 : a5 < (l0.length : Int) := of_decide_eq_true tq_2
 obtain ⟨a6, az, b0, b1, b2, bh, a8, a9, aa, ab, ac, ae, al, am, an, ao⟩ := at_T69 HR0.out a5 p198 q198
 have hw198_5 := ae
 have hw198_4 := ac
 have hw198_3 := ab
 have hw198_2 := aa
 have hw198_1 := a9
 have hw198_0 := a8
 cases bh
 replace a8 := hx_ HB.out a8
 replace a9 := hx_ HB.out a9
 replace aa := hx_ HB.out aa
 replace ab := hx_ HB.out ab
 replace ac := hx_ HB.out ac
 replace ae := hx_ HB.out ae
 have ap := Aside0.mk am
 have b7 := Aside0.mk al
 clear am al
 have aq := Aside0.mk ao
 have b8 := Aside0.mk an
 clear ao an
 replace p198 := eq_true p198
 replace q198 := eq_true q198
 have p199 : 0 ≤ (a5 : Int) := of_decide_eq_true tq_2
 have q199 : a5 < (l1.length : Int) := of_decide_eq_true tq_2
 obtain ⟨a7, b3, b4, b5, b6, bi, af, ag, ah, ai, aj, ak, ar, au, av, aw⟩ := at_T69 bl.out a5 p199 q199
 have hw199_5 := ak
 have hw199_4 := aj
 have hw199_3 := ai
 have hw199_2 := ah
 have hw199_1 := ag
 have hw199_0 := af
 cases bi
 replace af := hx_ HB.out af
 replace ag := hx_ HB.out ag
 replace ah := hx_ HB.out ah
 replace ai := hx_ HB.out ai
 replace aj := hx_ HB.out aj
 replace ak := hx_ HB.out ak
 have ax := Aside0.mk au
 have b9 := Aside0.mk ar
 clear au ar
 have ay := Aside0.mk aw
 have ba := Aside0.mk av
 clear aw av
 replace p199 := eq_true p199
 replace q199 := eq_true q199
 refine start_ (n := 10) (S := fun w' => w'.cell? (a6.add ((a5).toNat * 6)) = some (.int .i64 ((rd_T69 l0 a5).f0)) ∧ w'.cell? ⟨(a6.add ((a5).toNat * 6)).block, (a6.add ((a5).toNat * 6)).off + 1, none⟩ = some (.int .i64 ((rd_T69 l0 a5).f1)) ∧ w'.cell? ⟨(a6.add ((a5).toNat * 6)).block, (a6.add ((a5).toNat * 6)).off + 2, none⟩ = some (.int .i64 ((rd_T69 l0 a5).f2)) ∧ w'.cell? ⟨(a6.add ((a5).toNat * 6)).block, (a6.add ((a5).toNat * 6)).off + 3, none⟩ = some (.string ((rd_T69 l0 a5).f3)) ∧ w'.cell? ⟨(a6.add ((a5).toNat * 6)).block, (a6.add ((a5).toNat * 6)).off + 4, none⟩ = some (.slice az ((rd_T69 l0 a5).f4).length b0) ∧ w'.cell? ⟨(a6.add ((a5).toNat * 6)).block, (a6.add ((a5).toNat * 6)).off + 5, none⟩ = some (.slice b1 ((rd_T69 l0 a5).f5).length b2) ∧ w'.cell? (a7.add ((a5).toNat * 6)) = some (.int .i64 ((rd_T69 l1 a5).f0)) ∧ w'.cell? ⟨(a7.add ((a5).toNat * 6)).block, (a7.add ((a5).toNat * 6)).off + 1, none⟩ = some (.int .i64 ((rd_T69 l1 a5).f1)) ∧ w'.cell? ⟨(a7.add ((a5).toNat * 6)).block, (a7.add ((a5).toNat * 6)).off + 2, none⟩ = some (.int .i64 ((rd_T69 l1 a5).f2)) ∧ w'.cell? ⟨(a7.add ((a5).toNat * 6)).block, (a7.add ((a5).toNat * 6)).off + 3, none⟩ = some (.string ((rd_T69 l1 a5).f3)) ∧ w'.cell? ⟨(a7.add ((a5).toNat * 6)).block, (a7.add ((a5).toNat * 6)).off + 4, none⟩ = some (.slice b3 ((rd_T69 l1 a5).f4).length b4) ∧ w'.cell? ⟨(a7.add ((a5).toNat * 6)).block, (a7.add ((a5).toNat * 6)).off + 5, none⟩ = some (.slice b5 ((rd_T69 l1 a5).f5).length b6)) (ds := []) bq_5 (by kernel_rfl) rfl rfl ⟨((HB.out.cell (World.block_lt_of_cell? w _ hw198_0)).trans hw198_0), ((HB.out.cell (World.block_lt_of_cell? w _ hw198_1)).trans hw198_1), ((HB.out.cell (World.block_lt_of_cell? w _ hw198_2)).trans hw198_2), ((HB.out.cell (World.block_lt_of_cell? w _ hw198_3)).trans hw198_3), ((HB.out.cell (World.block_lt_of_cell? w _ hw198_4)).trans hw198_4), ((HB.out.cell (World.block_lt_of_cell? w _ hw198_5)).trans hw198_5), ((HB.out.cell (World.block_lt_of_cell? w _ hw199_0)).trans hw199_0), ((HB.out.cell (World.block_lt_of_cell? w _ hw199_1)).trans hw199_1), ((HB.out.cell (World.block_lt_of_cell? w _ hw199_2)).trans hw199_2), ((HB.out.cell (World.block_lt_of_cell? w _ hw199_3)).trans hw199_3), ((HB.out.cell (World.block_lt_of_cell? w _ hw199_4)).trans hw199_4), ((HB.out.cell (World.block_lt_of_cell? w _ hw199_5)).trans hw199_5)⟩ (fun hHeld => ?_); refine with_tabW laws_eqInodeS.tab6 laws_eqInodeS.bits6 (fun HT_ HW_ => ?_)
 generalize wr.drew = w9 at HB ap aq ax ay a8 a9 aa ab ac ae af ag ah ai aj ak hHeld ⊢
 refine yr_ 0 17 bq_6 HT_ ?_
 refine yr_ 1 18 bq_7 HT_ ?_
 refine yr_ 2 19 bq_8 HT_ ?_
 refine yr_ 4 21 bq_9 HT_ ?_
 refine yr_ 5 22 bq_10 HT_ ?_
 refine yr_ 6 23 bq_11 HT_ ?_
 refine tr_ 3 20 bq_12 HT_ HW_ hHeld ?_
 refine tr_ 7 24 bq_13 HT_ HW_ hHeld ?_
 refine one_ (i := 8) (N := some 25) bq_14 rfl rfl (one_of HT_.out (by kernel_rfl)) (by decide) (fun K hK => ?_)
 refine goes_ Tryz.func58 (by kernel_rfl) rfl #[.agg #[.int .i64 ((rd_T69 l0 a5).f0), .int .i64 ((rd_T69 l0 a5).f1), .int .i64 ((rd_T69 l0 a5).f2), .string ((rd_T69 l0 a5).f3), .slice az ((rd_T69 l0 a5).f4).length b0, .slice b1 ((rd_T69 l0 a5).f5).length b2], .agg #[.int .i64 ((rd_T69 l1 a5).f0), .int .i64 ((rd_T69 l1 a5).f1), .int .i64 ((rd_T69 l1 a5).f2), .string ((rd_T69 l1 a5).f3), .slice b3 ((rd_T69 l1 a5).f4).length b4, .slice b5 ((rd_T69 l1 a5).f5).length b6]] (by rfl) rfl rfl tq_0 ?_
 with_reducible refine (laws_eqInode.calls k1 ((rd_T69 l0 a5).f0) ((rd_T69 l0 a5).f1) ((rd_T69 l0 a5).f2) ((rd_T69 l0 a5).f3) _ _ ((rd_T69 l0 a5).f4) _ _ ((rd_T69 l0 a5).f5) ((rd_T69 l1 a5).f0) ((rd_T69 l1 a5).f1) ((rd_T69 l1 a5).f2) ((rd_T69 l1 a5).f3) _ _ ((rd_T69 l1 a5).f4) _ _ ((rd_T69 l1 a5).f5) be _ ?side1 ?side2 ?side3 ?side4 ?side5 ?side6 ?side7 ?side8 A7.out).mono ?_
 (case side1 => repeat (first | exact (Kd.C_below ap.out HB.out) | (with_reducible refine Kd.C_alloc ?_ _) | (with_reducible refine Kd.C_drewN ?_ _) | (with_reducible refine Kd.C_drew ?_)))
 (case side2 => exact b7.out)
 (case side3 => repeat (first | exact (Kd.C_below aq.out HB.out) | (with_reducible refine Kd.C_alloc ?_ _) | (with_reducible refine Kd.C_drewN ?_ _) | (with_reducible refine Kd.C_drew ?_)))
 (case side4 => exact b8.out)
 (case side5 => repeat (first | exact (Kd.C_below ax.out HB.out) | (with_reducible refine Kd.C_alloc ?_ _) | (with_reducible refine Kd.C_drewN ?_ _) | (with_reducible refine Kd.C_drew ?_)))
 (case side6 => exact b9.out)
 (case side7 => repeat (first | exact (Kd.C_below ay.out HB.out) | (with_reducible refine Kd.C_alloc ?_ _) | (with_reducible refine Kd.C_drewN ?_ _) | (with_reducible refine Kd.C_drew ?_)))
 (case side8 => exact ba.out)
 rintro e bq ⟨rfl, hb⟩
 refine ⟨_, rfl, ?_⟩
 have n0_ := Aside0.mk (below_step th_ hb)
 clear HB
 have HB := n0_
 clear n0_
 (try clear hb)
 refine hK.out _ _ ⟨((HB.out.cell (World.block_lt_of_cell? w _ hw198_0)).trans hw198_0), ((HB.out.cell (World.block_lt_of_cell? w _ hw198_1)).trans hw198_1), ((HB.out.cell (World.block_lt_of_cell? w _ hw198_2)).trans hw198_2), ((HB.out.cell (World.block_lt_of_cell? w _ hw198_3)).trans hw198_3), ((HB.out.cell (World.block_lt_of_cell? w _ hw198_4)).trans hw198_4), ((HB.out.cell (World.block_lt_of_cell? w _ hw198_5)).trans hw198_5), ((HB.out.cell (World.block_lt_of_cell? w _ hw199_0)).trans hw199_0), ((HB.out.cell (World.block_lt_of_cell? w _ hw199_1)).trans hw199_1), ((HB.out.cell (World.block_lt_of_cell? w _ hw199_2)).trans hw199_2), ((HB.out.cell (World.block_lt_of_cell? w _ hw199_3)).trans hw199_3), ((HB.out.cell (World.block_lt_of_cell? w _ hw199_4)).trans hw199_4), ((HB.out.cell (World.block_lt_of_cell? w _ hw199_5)).trans hw199_5)⟩ (fun hHeld => ?_)
 clear hK K
 refine nm_ (some 25) ?_
 refine yr_ 9 26 bq_15 HT_ ?_
 refine done_ (done_of HT_.out (by kernel_rfl)) ?_
 go_upto_if 26 with (fail)
 (try clear a8 a9 aa ab ac ae)
 (try clear af ag ah ai aj ak)
 have H := bj.out
 clear bj
 by_cases bf : be = true
 rotate_left
 ·replace bf := Bool.eq_false_iff.mpr bf
  subst bf
  rw [if_neg nf_] at H
  obtain rfl := Option.some.inj H
  go_wp2
  go_ret
  exact ⟨tq_1, th_⟩
 subst bf
 rw [if_pos rfl] at H
 have H' := Aside0.mk H
 clear H
 go_wp2
 go_roundg k1
 case measure => have := HK1.out; omega
 case rel => exact ⟨(wrap64 (a5 + 1)), tq_3, H', ⟨tq_22⟩, ⟨th_⟩⟩

/-! ### laws_eqPart: function 11 -/
def laws_eqPart.f (k : Nat) (a5 : Int) (a6 : List Int) (a7 : List (S69)) (a8 : Int) (a9 : List Int) (aa : List (S69)) : Option (Bool) := if a5 = a8 then ((laws_eqIntS.f k a6 a9).bind fun ab => (if ab = true then ((laws_eqInodeS.f k a7 aa).bind fun ac => (if ac = true then (some true) else (some false))) else (some false))) else (some false)
set_option maxHeartbeats 8000000 in
set_option maxRecDepth 100000 in
theorem laws_eqPart.calls (k : Nat) (ah : Int) (ai : Option Addr) (aj : Nat) (ab : List Int) (ak : Option Addr) (al : Nat) (ac : List (S69)) (am : Int) (an : Option Addr) (ao : Nat) (ae : List Int) (ap : Option Addr) (aq : Nat) (af : List (S69)) (r : Bool) (w : World) (ar : Kd.C (Kd.int .i64) w ai ab.length ab) (au : ab.length ≤ aj) (av : Kd.C k69 w ak ac.length ac) (aw : ac.length ≤ al) (ax : Kd.C (Kd.int .i64) w an ae.length ae) (ay : ae.length ≤ ao) (az : Kd.C k69 w ap af.length af) (b0 : af.length ≤ aq) (h : laws_eqPart.f k ah ab ac am ae af = some r) :
  Calls Tryz.prog 11 #[.agg #[.int .i64 ah, .slice ai ab.length aj, .slice ak ac.length al], .agg #[.int .i64 am, .slice an ae.length ao, .slice ap af.length aq]] w fun e w' => e = .returned (.bool r) ∧ Below w.heap.size w w' := by
 have hu35 := Tryz.underlying35
 have HR0_1 := Aside0.mk ar
 have b1 := Aside0.mk au
 clear ar au
 have HR0_2 := Aside0.mk av
 have b2 := Aside0.mk aw
 clear av aw
 have HR1_1 := Aside0.mk ax
 have b3 := Aside0.mk ay
 clear ax ay
 have HR1_2 := Aside0.mk az
 have b4 := Aside0.mk b0
 clear az b0
 have HB := Aside0.mk (Below.refl w.heap.size w)
 unfold laws_eqPart.f at h
 have H := h
 clear h
 have bg := Aside0.mk H
 clear H
 go_enter Tryz.func11, Tryz.ntmps11
 go_upto_if 9 with (first | ((with_reducible refine gate_dst (N := 2) rfl ?_); refine be_ 2 (cs := #[.int .i64 ah, .slice ai ab.length aj, .slice ak ac.length al]) 35 ?_; intro bh hg w4 hbox hb; have z_ := bx0_ th_ hb hbox hg; clear HB; obtain ⟨HB, a5, bi, bj⟩ := z_; clear hb hbox hg) | ((with_reducible refine gate_dst (N := 3) rfl ?_); refine be_ 3 (cs := #[.int .i64 am, .slice an ae.length ao, .slice ap af.length aq]) 35 ?_; intro bl hg w5 hbox hb; have z_ := bx1_ (kb_ a5) th_ hb hbox hg; clear a5 HB; obtain ⟨a5, HB, aa, bm, bn, a6, a7⟩ := z_; clear hb hbox hg; obtain ⟨hnb6, hnc6⟩ := an2_ a6 a7; have bo := bb3_ a5.out; have bp := bb3_ aa.out))
 (try simp only [Act.put, List.setIfInBounds_toArray, List.set_cons_zero, List.set_cons_succ])
 (try clear bo)
 (try clear bp)
 (try clear bo)
 (try clear bp)
 have H := bg.out
 clear bg
 by_cases c9 : ah = am
 rotate_left
 ·rw [if_neg c9] at H
  have ag := beq_eq_false_iff_ne.mpr c9
  have bf := bne_iff_ne.mpr c9
  (first | rw [ag] | (simp only [i64_w, i32_w]; rw [ag]) | skip)
  obtain rfl := Option.some.inj H
  go_wp2
  go_ret
  exact ⟨tq_1, th_⟩
 rw [if_pos c9] at H
 have ag := beq_iff_eq.mpr c9
 have bf := bne_eq_false_iff_eq.mpr c9
 clear c9
 (first | rw [ag] | (simp only [i64_w, i32_w]; rw [ag]) | skip)
 obtain ⟨b5, bq, H⟩ := bd_ H
 have b6 := Aside0.mk H
 clear H
 obtain ⟨a8, a9⟩ := an2_ a6 a7
 have b7 := bb3_ a5.out
 have b8 := bb3_ aa.out
 go_upto_if 15 with (first | ((with_reducible refine gate_callee (f := 28) rfl ?_); refine goesL_ (some 14) rfl rfl Tryz.func28 (by kernel_rfl) rfl #[.slice ai ab.length aj, .slice an ae.length ao] rfl tq_0 ?_; (with_reducible refine (laws_eqIntS.calls k _ _ ab _ _ ae b5 _ ?side1 ?side2 ?side3 ?side4 bq.out).mono ?_); (case side1 => exact tq_21); (case side2 => exact b1.out); (case side3 => exact tq_13); (case side4 => exact b3.out); rintro e w' ⟨rfl, ⟨nd, rfl⟩⟩; refine ⟨_, rfl, ?_⟩))
 (try simp only [Act.put, List.setIfInBounds_toArray, List.set_cons_zero, List.set_cons_succ])
 (try clear a8 a9)
 (try clear b7)
 (try clear b8)
 (try clear b7)
 (try clear b8)
 have H := b6.out
 clear b6
 by_cases bd : b5 = true
 rotate_left
 ·replace bd := Bool.eq_false_iff.mpr bd
  subst bd
  rw [if_neg nf_] at H
  obtain rfl := Option.some.inj H
  go_wp2
  go_ret
  exact ⟨tq_1, th_⟩
 subst bd
 rw [if_pos rfl] at H
 obtain ⟨b9, br, H⟩ := bd_ H
 have ba := Aside0.mk H
 clear H
 obtain ⟨a8, a9⟩ := an2_ a6 a7
 have bb := bb3_ a5.out
 have bc := bb3_ aa.out
 go_upto_if 21 with (first | ((with_reducible refine gate_callee (f := 29) rfl ?_); refine goesL_ (some 20) rfl rfl Tryz.func29 (by kernel_rfl) rfl #[.slice ak ac.length al, .slice ap af.length aq] rfl tq_0 ?_; (with_reducible refine (laws_eqInodeS.calls k _ _ ac _ _ af b9 _ ?side1 ?side2 ?side3 ?side4 br.out).mono ?_); (case side1 => exact tq_68); (case side2 => exact b2.out); (case side3 => exact tq_42); (case side4 => exact b4.out); rintro e bs ⟨rfl, hb⟩; refine ⟨_, rfl, ?_⟩; have z_ := bw2_ (kb_ a5) (kb_ aa) th_ hb; clear a5 aa HB; obtain ⟨a5, aa, HB⟩ := z_; (try clear hb)))
 (try simp only [Act.put, List.setIfInBounds_toArray, List.set_cons_zero, List.set_cons_succ])
 (try clear a8 a9)
 (try clear bb)
 (try clear bc)
 (try clear bb)
 (try clear bc)
 have H := ba.out
 clear ba
 by_cases be : b9 = true
 ·subst be
  rw [if_pos rfl] at H
  obtain rfl := Option.some.inj H
  go_wp2
  go_ret
  exact ⟨tq_1, th_⟩
 replace be := Bool.eq_false_iff.mpr be
 subst be
 rw [if_neg nf_] at H
 obtain rfl := Option.some.inj H
 go_wp2
 go_ret
 exact ⟨tq_1, th_⟩

/-! ### laws_markIntS: function 30 -/
def laws_markIntS.l0 : Nat → List Int → Int → Int → Option (Int × List Int)
 | 0, _, _, _ => none
 | k + 1, x0, x1, x5 => if x5 < (x0.length : Int) then (if 0 ≤ x5 then (laws_markIntS.l0 k (x0.set (x5 : Int).toNat x1) (wrap64 (x1 + 1)) (wrap64 (x5 + 1))) else (none)) else (some (x1, x0))
def laws_markIntS.f (k : Nat) (l0 : List Int) (a1 : Int) : Option (Int × List Int) := laws_markIntS.l0 k l0 a1 0
set_option maxHeartbeats 8000000 in
set_option maxRecDepth 100000 in
theorem laws_markIntS.calls (k : Nat) (P0_ : Nat → Prop) (u9000_ : Value) (l0 : List Int) (a1 : Int) (r1 : Int) (r2 : List Int) (w0 w : World) (hB : Below w0.heap.size w0 w) (ho0 : Kd.R (Kd.int .i64) 3 w w0.heap.size P0_ u9000_ l0) (h : laws_markIntS.f k l0 a1 = some (r1, r2)) :
  Calls Tryz.prog 30 #[u9000_, .int .i64 a1] w fun e w' => e = .returned (.int .i64 r1) ∧ Kd.R (Kd.int .i64) 3 w' w0.heap.size (fun k_ => (P0_ k_ ∨ w.heap.size ≤ k_)) u9000_ r2 ∧ Below w0.heap.size w0 w' ∧ Kept w w' (fun k_ => P0_ k_) := by
 have HO0 := Aside0.mk (show Kd.R (Kd.int .i64) 3 w w0.heap.size (fun k_ => (P0_ k_ ∨ w.heap.size ≤ k_)) u9000_ l0 from Kd.R_mono ho0 (fun k_ hk => (.inl hk)))
 have HK := Aside0.mk (Kept.refl w (fun k_ => P0_ k_))
 have HW0 := Aside0.mk hB.size
 have HB := Aside0.mk hB
 clear hB
 unfold laws_markIntS.f at h
 have H := h
 clear h
 have H' := Aside0.mk H
 clear H
 go_enter Tryz.func30, Tryz.ntmps30
 go_wp2
 go_loopg [1, 5] k (fun kq v1 v5 w' => ∃ (a7 : List Int) (a6 : Int) (a5 : Int), v1 = .int .i64 a6 ∧ v5 = .int .i64 a5 ∧ Aside0 (laws_markIntS.l0 kq a7 a6 a5 = some (r1, r2)) ∧ Aside0 (kq ≤ k) ∧ Aside0 (Kd.R (Kd.int .i64) 3 w' w0.heap.size (fun k_ => (P0_ k_ ∨ w.heap.size ≤ k_)) u9000_ a7) ∧ Aside0 (Kept w w' (fun k_ => P0_ k_)) ∧ Aside0 (Below w0.heap.size w0 w'))
 case atStart => exact ⟨(l0), (a1), (0), tq_3, tq_3, H', ⟨Nat.le_refl _⟩, ⟨(raR_ HO0)⟩, ⟨tq_4⟩, ⟨th_⟩⟩
 case round =>
 clear H'
 try clear p2
 obtain ⟨a7, a6, a5, rfl, rfl, HA, HK1, HO_0, HK, HB⟩ := hrel
 cases gk with
 | zero => exact absurd HA.out (by simp [laws_markIntS.l0])
 | succ k1 =>
 have H := HA.out
 clear HA
 simp only [laws_markIntS.l0] at H
 have ab := Aside0.mk H
 clear H
 obtain ⟨Ao4, ai, aj⟩ := Kd.R_slice HO_0.out
 subst aj
 go_upto_if 9 with (fail)
 have H := ab.out
 clear ab
 by_cases c5 : a5 < (a7.length : Int)
 rotate_left
 ·rw [if_neg c5] at H
  have a8 := decide_eq_false c5
  clear c5
  (first | rw [a8] | (simp only [i64_w, i32_w]; rw [a8]) | skip)
  simp only [Option.some.injEq, Prod.mk.injEq] at H
  obtain ⟨rfl, rfl⟩ := H
  go_wp2
  go_ret
  exact ⟨tq_1, (raR_ HO_0), th_, tq_4⟩
 rw [if_pos c5] at H
 have a8 := decide_eq_true c5
 clear c5
 (first | rw [a8] | (simp only [i64_w, i32_w]; rw [a8]) | skip)
 obtain ⟨c6, H⟩ := fc_ H
 have ak := decide_eq_true c6
 clear c6
 obtain ⟨a9, hy205⟩ : ∃ y_ : List Int, y_ = (a7.set (a5 : Int).toNat a6) := ⟨_, rfl⟩
 replace H : (laws_markIntS.l0 k1 a9 (wrap64 (a6 + 1)) (wrap64 (a5 + 1))) = some (r1, r2) := by first | (rw [hy205]; with_reducible exact H) | (have H2_ := (Option.bind_some _ _).symm.trans H; rw [hy205]; with_reducible exact H2_) | (have H2_ := (Option.bind_some _ _).symm.trans H; with_reducible exact H2_) | with_reducible exact H | (rw [hy205]; exact H) | exact H
 have Ny205 := Aside0.mk hy205
 clear hy205
 have H' := Aside0.mk H
 clear H
 have p7 : 0 ≤ (a5 : Int) := of_decide_eq_true tq_2
 have q7 : (a5 : Int) < ((a7.length : Int) : Int) := of_decide_eq_true tq_2
 obtain ⟨aa, an, ac, ae, al, ao, af⟩ := Kd.R_form HO_0.out (by omega)
 (first | cases ac | (injection ac with ea_ en_ ec_; (first | subst ea_ | (injection ea_ with ea_; subst ea_)); subst ec_; clear en_))
 have am := Aside0.mk ae
 have ap := Aside0.mk af
 clear ae al af
 have HMgo7 := Aside0.mk (show (P0_ aa ∨ w.heap.size ≤ aa) from (HO_0.out.1 _ rfl))
 obtain ⟨ag, ah⟩ := Kd.R_celln 0 HO_0.out (a5 : Int) p7 q7
 replace p7 := eq_true p7
 replace q7 := eq_true q7
 have HP8 := Kd.R_putg HO_0.out (a5 : Int) a6
 go_wp2_with (first | ((with_reducible refine gate_store (t := 3) (p := 15) rfl ?_); refine store_event (t := 3) (p := 15) (v := ?vo_w9) (w1 := (wr.setCell ⟨aa, (a5 : Int).toNat, none⟩ (.int .i64 a6))) ?hg ?ho ?hn ?hr ?_; (case ho => rfl); (case hg => rfl); (case hn => rfl); (case hr => first | (go_simp; done) | (go_simp; rfl)); intro w9 hw; have hg : wr.grownBy w9 (some aa) := (by rw [hw]; exact HP8.2); have hp_ : Kd.R (Kd.int .i64) 3 w9 w0.heap.size (fun k_ => (P0_ k_ ∨ w.heap.size ≤ k_)) (.slice (some ⟨aa, 0, none⟩) a7.length ai) a9 := (by rw [hw, Ny205.out]; exact HP8.1); clear HP8; have z_ := p_ (hp_) <| p_ ((by rw [hw]; exact below_set (HB.out) am.out : Below w0.heap.size w0 w9)) <| a_ (Kept.of_grown (S := (fun k_ => P0_ k_)) hg tq_4 (fun k_ e_ => (HO_0.out.1 k_ e_))); clear HO_0 HB HK; obtain ⟨HO_0, HB, HK⟩ := z_; clear hg hw hp_))
 go_roundg k1
 case measure => have := HK1.out; omega
 case rel => exact ⟨(a9), (wrap64 (a6 + 1)), (wrap64 (a5 + 1)), tq_3, tq_3, H', ⟨tq_22⟩, ⟨(raR_ HO_0)⟩, ⟨tq_4⟩, ⟨th_⟩⟩

end Go.Proofs.YtleoknilacjakaaGreat.PFnExactChanged
