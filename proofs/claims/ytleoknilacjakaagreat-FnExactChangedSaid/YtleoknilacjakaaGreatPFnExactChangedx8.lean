/- Contracts of Go functions: each call returns what the Lean function beside it computes. Conditions: as each theorem states them. -/
import Derived.Test.YtleoknilacjakaaGreatPkFnExactChanged
import Derived.Test.YtleoknilacjakaaGreatPFnExactChangedx1
import Derived.Test.YtleoknilacjakaaGreatPFnExactChangedx6
namespace Go.Proofs.YtleoknilacjakaaGreat.PFnExactChanged
open Go.RowKit Go.Proofs.YtleoknilacjakaaGreatW.PrintWords Go.Proofs.YtleoknilacjakaaGreatW.PrintLast Go.Proofs.YtleoknilacjakaaGreatW.PrintMore
attribute [local go_sem] max2_int min2_int max_two min_two max_three min_three max_four min_four   -- for this text's walks alone
set_option linter.unusedVariables false
set_option linter.unusedSimpArgs false

/-! ### laws_heldWriteS: function 14 -/
def laws_heldWriteS.l0 : Nat → List (S53) → Int → Int → Option (Int)
 | 0, _, _, _ => none
 | k + 1, x0, x1, x5 => if x5 < (x0.length : Int) then (if 0 ≤ x5 then (if ((rd_T53 x0 x5).f0) = x1 then ((laws_markText.f k (wrap64 (x1 + 1))).bind fun a5 => (if ((rd_T53 x0 x5).f1).toList = a5.toList then (laws_heldWriteS.l0 k x0 (wrap64 ((wrap64 (x1 + 1)) + 1)) (wrap64 (x5 + 1))) else (some (-1)))) else (some (-1))) else (none)) else (some x1)
def laws_heldWriteS.f (k : Nat) (l0 : List (S53)) (a1 : Int) : Option (Int) := laws_heldWriteS.l0 k l0 a1 0
def laws_heldWriteS.T7 : Bool × List (List Nat × List Nat) := (true, [([], []), ([], []), ([0, 1], [0, 1]), ([2], [2]), ([3], [3]), ([], []), ([5], [5]), ([4, 6], [4, 6])])
def laws_heldWriteS.B7 : List Nat := [0, 0, 3, 7, 15, 0, 32, 127]
theorem laws_heldWriteS.tab7 : rtab .any (opsOf Tryz.f14 7) = laws_heldWriteS.T7 := by kernel_rfl
theorem laws_heldWriteS.bits7 : waitsOk laws_heldWriteS.T7.2 laws_heldWriteS.B7 = true := by kernel_rfl
set_option maxHeartbeats 8000000 in
set_option maxRecDepth 100000 in
theorem laws_heldWriteS.calls (k : Nat) (A0 : Option Addr) (c0 : Nat) (l0 : List (S53)) (a1 : Int) (r : Int) (w : World) (hr0 : Kd.C k53 w A0 l0.length l0) (hc0 : l0.length ≤ c0) (h : laws_heldWriteS.f k l0 a1 = some r) :
  Calls Tryz.prog 14 #[.slice A0 l0.length c0, .int .i64 a1] w fun e w' => e = .returned (.int .i64 r) ∧ Below w.heap.size w w' := by
 have HR0 := Aside0.mk hr0
 have aq := Aside0.mk hc0
 clear hr0 hc0
 have HB := Aside0.mk (Below.refl w.heap.size w)
 unfold laws_heldWriteS.f at h
 have H := h
 clear h
 have H' := Aside0.mk H
 clear H
 go_enter Tryz.func14, Tryz.ntmps14
 go_wp2
 go_loopg [1, 5] k (fun kq v1 v5 w' => ∃ (ab : Int) (a5 : Int), v1 = .int .i64 ab ∧ v5 = .int .i64 a5 ∧ Aside0 (laws_heldWriteS.l0 kq l0 ab a5 = some r) ∧ Aside0 (kq ≤ k) ∧ Aside0 (Below w.heap.size w w'))
 case atStart => exact ⟨(a1), (0), tq_3, tq_3, H', ⟨Nat.le_refl _⟩, ⟨th_⟩⟩
 case round =>
 clear H'
 try clear c1; try clear p2
 obtain ⟨ab, a5, rfl, rfl, HA, HK1, HB⟩ := hrel
 cases gk with
 | zero => exact absurd HA.out (by simp [laws_heldWriteS.l0])
 | succ k1 =>
 have H := HA.out
 clear HA
 simp only [laws_heldWriteS.l0] at H
 by_cases c3 : a5 < (l0.length : Int)
 rotate_left
 ·rw [if_neg c3] at H
  have aj := decide_eq_false c3
  clear c3
  obtain rfl := Option.some.inj H
  go_wp2
  go_ret
  exact ⟨tq_1, th_⟩
 rw [if_pos c3] at H
 have aj := decide_eq_true c3
 clear c3
 obtain ⟨c4, H⟩ := fc_ H
 have ap := decide_eq_true c4
 clear c4
 have an := Aside0.mk H
 clear H
 have p229 : 0 ≤ (a5 : Int) := of_decide_eq_true tq_2
 have q229 : a5 < (l0.length : Int) := of_decide_eq_true tq_2
 obtain ⟨ac, ak, a8, a9⟩ := at_T53 HR0.out a5 p229 q229
 cases ak
 replace a8 := hx_ HB.out a8
 replace a9 := hx_ HB.out a9
 replace p229 := eq_true p229
 replace q229 := eq_true q229
 go_upto_if 18 with (fail)
 (try clear a8 a9)
 have H := an.out
 clear an
 by_cases c6 : ((rd_T53 l0 a5).f0) = ab
 rotate_left
 ·rw [if_neg c6] at H
  have ae := beq_eq_false_iff_ne.mpr c6
  have al := bne_iff_ne.mpr c6
  (first | rw [ae] | (simp only [i64_w, i32_w]; rw [ae]) | skip)
  obtain rfl := Option.some.inj H
  go_wp2
  go_ret
  exact ⟨tq_1, th_⟩
 rw [if_pos c6] at H
 have ae := beq_iff_eq.mpr c6
 have al := bne_eq_false_iff_eq.mpr c6
 clear c6
 (first | rw [ae] | (simp only [i64_w, i32_w]; rw [ae]) | skip)
 obtain ⟨ag, A7, H⟩ := bd_ H
 have ao := Aside0.mk H
 clear H
 try go_wp2
 have n0_ := Aside0.mk (below_drew1 HB.out)
 clear HB
 have HB := n0_
 clear n0_
 have p230 : 0 ≤ (a5 : Int) := of_decide_eq_true tq_2
 have q230 : a5 < (l0.length : Int) := of_decide_eq_true tq_2
 obtain ⟨ah, am, a6, a7⟩ := at_T53 HR0.out a5 p230 q230
 have hw230_1 := a7
 have hw230_0 := a6
 obtain rfl : ac = ah := (by injection am)
 replace a6 := hx_ HB.out a6
 replace a7 := hx_ HB.out a7
 replace p230 := eq_true p230
 replace q230 := eq_true q230
 refine start_ (n := 8) (S := fun w' => w'.cell? (ac.add ((a5).toNat * 2)) = some (.int .i64 ((rd_T53 l0 a5).f0)) ∧ w'.cell? ⟨(ac.add ((a5).toNat * 2)).block, (ac.add ((a5).toNat * 2)).off + 1, none⟩ = some (.string ((rd_T53 l0 a5).f1))) (ds := []) bq_0 (by kernel_rfl) rfl rfl ⟨((HB.out.cell (World.block_lt_of_cell? w _ hw230_0)).trans hw230_0), ((HB.out.cell (World.block_lt_of_cell? w _ hw230_1)).trans hw230_1)⟩ (fun hHeld => ?_); refine with_tabW laws_heldWriteS.tab7 laws_heldWriteS.bits7 (fun HT_ HW_ => ?_)
 generalize wr.drew = w9 at HB a6 a7 hHeld ⊢
 refine yr_ 0 21 bq_1 HT_ ?_
 refine yr_ 1 22 bq_82 HT_ ?_
 refine yr_ 2 23 bq_83 HT_ ?_
 refine yr_ 3 24 bq_84 HT_ ?_
 refine yr_ 5 26 #[true, true, true, true, false, true, false, false] HT_ ?_
 refine tr_ 4 25 bq_2 HT_ HW_ hHeld ?_
 refine one_ (i := 6) (N := some 27) bq_3 rfl rfl (one_of HT_.out (by kernel_rfl)) (by decide) (fun K hK => ?_)
 refine goes_ Tryz.func32 (by kernel_rfl) rfl #[.int .i64 (wrap64 (ab + 1))] (by rfl) rfl rfl tq_0 ?_
 with_reducible refine (laws_markText.calls k1 (wrap64 (ab + 1)) ag _ A7.out).mono ?_
 rintro e ar ⟨rfl, hb⟩
 refine ⟨_, rfl, ?_⟩
 have n0_ := Aside0.mk (below_step th_ hb)
 clear HB
 have HB := n0_
 clear n0_
 (try clear hb)
 refine hK.out _ _ ⟨((HB.out.cell (World.block_lt_of_cell? w _ hw230_0)).trans hw230_0), ((HB.out.cell (World.block_lt_of_cell? w _ hw230_1)).trans hw230_1)⟩ (fun hHeld => ?_)
 clear hK K
 refine nm_ (some 27) ?_
 refine yr_ 7 28 bq_4 HT_ ?_
 refine done_ (done_of HT_.out (by kernel_rfl)) ?_
 go_upto_if 28 with (fail)
 (try clear a6 a7)
 have H := ao.out
 clear ao
 by_cases af : ((rd_T53 l0 a5).f1).toList = ag.toList
 rotate_left
 ·rw [if_neg af] at H
  have aa := beq_eq_false_iff_ne.mpr af
  have ai := bne_iff_ne.mpr af
  (first | rw [aa] | (simp only [i64_w, i32_w]; rw [aa]) | skip)
  obtain rfl := Option.some.inj H
  go_wp2
  go_ret
  exact ⟨tq_1, th_⟩
 rw [if_pos af] at H
 have aa := beq_iff_eq.mpr af
 have ai := bne_eq_false_iff_eq.mpr af
 clear af
 (first | rw [aa] | (simp only [i64_w, i32_w]; rw [aa]) | skip)
 have H' := Aside0.mk H
 clear H
 go_wp2
 go_roundg k1
 case measure => have := HK1.out; omega
 case rel => exact ⟨(wrap64 ((wrap64 (ab + 1)) + 1)), (wrap64 (a5 + 1)), tq_3, tq_3, H', ⟨tq_22⟩, ⟨th_⟩⟩

/-! ### spec_l01In: function 36 -/
def spec_l01In.f (a0 : Int) (a1 : Int) (a2 : Int) : Option (Bool) := if a0 ≥ a1 then (some (decide (a0 ≤ a2))) else (some false)
set_option maxHeartbeats 8000000 in
set_option maxRecDepth 100000 in
theorem spec_l01In.calls (a0 : Int) (a1 : Int) (a2 : Int) (r : Bool) (w : World) (h : spec_l01In.f a0 a1 a2 = some r) :
  Calls Tryz.prog 36 #[.int .i64 a0, .int .i64 a1, .int .i64 a2] w fun e w' => e = .returned (.bool r) ∧ Drawn0 w w' := by
 unfold spec_l01In.f at h
 have H := h
 clear h
 by_cases c4 : a0 ≥ a1
 ·rw [if_pos c4] at H
  have a5 := decide_eq_true c4
  clear c4
  obtain rfl := Option.some.inj H
  go_enter Tryz.func36, Tryz.ntmps36
  go_wp2
  go_ret
  exact ⟨tq_3, tq_9⟩
 rw [if_neg c4] at H
 have a5 := decide_eq_false c4
 clear c4
 obtain rfl := Option.some.inj H
 go_enter Tryz.func36, Tryz.ntmps36
 go_wp2
 go_ret
 exact ⟨tq_3, tq_9⟩

/-! ### spec_GeoOk: function 35 -/
def spec_GeoOk.f (a6 : Int) (a5 : Int) (a7 : Int) (a8 : Int) : Option (Bool) := (spec_l01In.f a6 1 3).bind fun a9 => (if a9 = true then ((spec_l01In.f a5 5 12).bind fun aa => (if aa = true then ((spec_l01In.f a7 2 6).bind fun ab => (if ab = true then ((spec_l01In.f a8 1 (wrap64 (a5 - 4))).bind fun ac => (some ac)) else (some false))) else (some false))) else (some false))
set_option maxHeartbeats 8000000 in
set_option maxRecDepth 100000 in
theorem spec_GeoOk.calls (a5 : Int) (a7 : Int) (a8 : Int) (a9 : Int) (r : Bool) (w : World) (h : spec_GeoOk.f a5 a7 a8 a9 = some r) :
  Calls Tryz.prog 35 #[.agg #[.int .i64 a5, .int .i64 a7, .int .i64 a8, .int .i64 a9]] w fun e w' => e = .returned (.bool r) ∧ Below w.heap.size w w' := by
 have hu31 := Tryz.underlying31
 have HB := Aside0.mk (Below.refl w.heap.size w)
 unfold spec_GeoOk.f at h
 have H := h
 clear h
 obtain ⟨ae, A2, H⟩ := bd_ H
 by_cases c3 : ae = true
 rotate_left
 ·replace c3 := Bool.eq_false_iff.mpr c3
  subst c3
  rw [if_neg nf_] at H
  obtain rfl := Option.some.inj H
  go_enter Tryz.func35, Tryz.ntmps35
  go_wp2_with (first | ((with_reducible refine gate_dst (N := 1) rfl ?_); refine be_ 1 (cs := #[.int .i64 a5, .int .i64 a7, .int .i64 a8, .int .i64 a9]) 31 ?_; intro aa hg am hbox hb; have z_ := bx0_ th_ hb hbox hg; clear HB; obtain ⟨HB, a6, ab, ac⟩ := z_; clear hb hbox hg; have ai := bb4_ a6.out) | ((with_reducible refine gate_callee (f := 36) rfl ?_); refine goesL_ (some 5) rfl rfl Tryz.func36 (by kernel_rfl) rfl #[.int .i64 a5, .int .i64 1, .int .i64 3] rfl tq_0 ?_; (with_reducible refine (spec_l01In.calls a5 1 3 false _ A2.out).mono ?_); rintro e w' ⟨rfl, ⟨nd, rfl⟩⟩; refine ⟨_, rfl, ?_⟩))
  go_ret
  exact ⟨tq_1, th_⟩
 subst c3
 rw [if_pos rfl] at H
 obtain ⟨af, A4, H⟩ := bd_ H
 by_cases c5 : af = true
 rotate_left
 ·replace c5 := Bool.eq_false_iff.mpr c5
  subst c5
  rw [if_neg nf_] at H
  obtain rfl := Option.some.inj H
  go_enter Tryz.func35, Tryz.ntmps35
  go_wp2_with (first | ((with_reducible refine gate_dst (N := 1) rfl ?_); refine be_ 1 (cs := #[.int .i64 a5, .int .i64 a7, .int .i64 a8, .int .i64 a9]) 31 ?_; intro aa hg an hbox hb; have z_ := bx0_ th_ hb hbox hg; clear HB; obtain ⟨HB, a6, ab, ac⟩ := z_; clear hb hbox hg; have aj := bb4_ a6.out) | ((with_reducible refine gate_callee (f := 36) rfl ?_); refine goesL_ (some 5) rfl rfl Tryz.func36 (by kernel_rfl) rfl #[.int .i64 a5, .int .i64 1, .int .i64 3] rfl tq_0 ?_; (with_reducible refine (spec_l01In.calls a5 1 3 true _ A2.out).mono ?_); rintro e w' ⟨rfl, ⟨nd, rfl⟩⟩; refine ⟨_, rfl, ?_⟩) | (go_at_call 36; (with_reducible refine (spec_l01In.calls a7 5 12 false _ A4.out).mono ?_); rintro e w' ⟨rfl, ⟨nd, rfl⟩⟩))
  go_ret
  exact ⟨tq_1, th_⟩
 subst c5
 rw [if_pos rfl] at H
 obtain ⟨ag, A6, H⟩ := bd_ H
 by_cases c7 : ag = true
 rotate_left
 ·replace c7 := Bool.eq_false_iff.mpr c7
  subst c7
  rw [if_neg nf_] at H
  obtain rfl := Option.some.inj H
  go_enter Tryz.func35, Tryz.ntmps35
  go_wp2_with (first | ((with_reducible refine gate_dst (N := 1) rfl ?_); refine be_ 1 (cs := #[.int .i64 a5, .int .i64 a7, .int .i64 a8, .int .i64 a9]) 31 ?_; intro aa hg ao hbox hb; have z_ := bx0_ th_ hb hbox hg; clear HB; obtain ⟨HB, a6, ab, ac⟩ := z_; clear hb hbox hg; have ak := bb4_ a6.out) | ((with_reducible refine gate_callee (f := 36) rfl ?_); refine goesL_ (some 5) rfl rfl Tryz.func36 (by kernel_rfl) rfl #[.int .i64 a5, .int .i64 1, .int .i64 3] rfl tq_0 ?_; (with_reducible refine (spec_l01In.calls a5 1 3 true _ A2.out).mono ?_); rintro e w' ⟨rfl, ⟨nd, rfl⟩⟩; refine ⟨_, rfl, ?_⟩) | (go_at_call 36; (with_reducible refine (spec_l01In.calls a7 5 12 true _ A4.out).mono ?_); rintro e w' ⟨rfl, ⟨nd, rfl⟩⟩) | (go_at_call 36; (with_reducible refine (spec_l01In.calls a8 2 6 false _ A6.out).mono ?_); rintro e w' ⟨rfl, ⟨nd, rfl⟩⟩))
  go_ret
  exact ⟨tq_1, th_⟩
 subst c7
 rw [if_pos rfl] at H
 obtain ⟨ah, A8, H⟩ := bd_ H
 obtain rfl := Option.some.inj H
 go_enter Tryz.func35, Tryz.ntmps35
 go_wp2_with (first | ((with_reducible refine gate_dst (N := 1) rfl ?_); refine be_ 1 (cs := #[.int .i64 a5, .int .i64 a7, .int .i64 a8, .int .i64 a9]) 31 ?_; intro aa hg w9 hbox hb; have z_ := bx0_ th_ hb hbox hg; clear HB; obtain ⟨HB, a6, ab, ac⟩ := z_; clear hb hbox hg; have al := bb4_ a6.out) | ((with_reducible refine gate_callee (f := 36) rfl ?_); refine goesL_ (some 5) rfl rfl Tryz.func36 (by kernel_rfl) rfl #[.int .i64 a5, .int .i64 1, .int .i64 3] rfl tq_0 ?_; (with_reducible refine (spec_l01In.calls a5 1 3 true _ A2.out).mono ?_); rintro e w' ⟨rfl, ⟨nd, rfl⟩⟩; refine ⟨_, rfl, ?_⟩) | (go_at_call 36; (with_reducible refine (spec_l01In.calls a7 5 12 true _ A4.out).mono ?_); rintro e w' ⟨rfl, ⟨nd, rfl⟩⟩) | (go_at_call 36; (with_reducible refine (spec_l01In.calls a8 2 6 true _ A6.out).mono ?_); rintro e w' ⟨rfl, ⟨nd, rfl⟩⟩) | (go_at_call 36; (with_reducible refine (spec_l01In.calls a9 1 (wrap64 (a7 - 4)) ah _ A8.out).mono ?_); rintro e w' ⟨rfl, ⟨nd, rfl⟩⟩))
 go_ret
 exact ⟨tq_1, th_⟩

/-! ### spec_StatesOk: function 37 -/
def spec_StatesOk.l0 : Nat → List Int → Int → Int → Option (Bool)
 | 0, _, _, _ => none
 | k + 1, x0, x1, x5 => if x5 < (x0.length : Int) then (if 0 ≤ x5 then ((spec_l01In.f (rd x0 x5) 0 2).bind fun a5 => (if a5 = true then (spec_StatesOk.l0 k x0 x1 (wrap64 (x5 + 1))) else (some false))) else (none)) else (if (x0.length : Int) = x1 then ((spec_l01In.f x1 1 12).bind fun a6 => (some a6)) else (some false))
def spec_StatesOk.f (k : Nat) (l0 : List Int) (a1 : Int) : Option (Bool) := spec_StatesOk.l0 k l0 a1 0
set_option maxHeartbeats 8000000 in
set_option maxRecDepth 100000 in
theorem spec_StatesOk.calls (k : Nat) (A0 : Option Addr) (c0 : Nat) (l0 : List Int) (a1 : Int) (r : Bool) (w : World) (hr0 : Kd.C (Kd.int .i64) w A0 l0.length l0) (hc0 : l0.length ≤ c0) (h : spec_StatesOk.f k l0 a1 = some r) :
  Calls Tryz.prog 37 #[.slice A0 l0.length c0, .int .i64 a1] w fun e w' => e = .returned (.bool r) ∧ Drawn0 w w' := by
 have HR0 := Aside0.mk hr0
 have ah := Aside0.mk hc0
 clear hr0 hc0
 unfold spec_StatesOk.f at h
 have H := h
 clear h
 have H' := Aside0.mk H
 clear H
 go_enter Tryz.func37, Tryz.ntmps37
 go_wp2
 go_loopg [5] k (fun kq v5 w' => ∃ (a5 : Int), v5 = .int .i64 a5 ∧ Aside0 (spec_StatesOk.l0 kq l0 a1 a5 = some r) ∧ Aside0 (kq ≤ k) ∧ Drawn0 w w')
 case atStart => exact ⟨(0), tq_3, H', ⟨Nat.le_refl _⟩, tq_9⟩
 case round =>
 clear H'
 try clear p2
 obtain ⟨a5, rfl, HA, HK1, ⟨m1, rfl⟩⟩ := hrel
 cases gk with
 | zero => exact absurd HA.out (by simp [spec_StatesOk.l0])
 | succ k1 =>
 have H := HA.out
 clear HA
 simp only [spec_StatesOk.l0] at H
 by_cases c3 : a5 < (l0.length : Int)
 rotate_left
 ·rw [if_neg c3] at H
  have a8 := decide_eq_false c3
  clear c3
  by_cases c8 : (l0.length : Int) = a1
  rotate_left
  ·rw [if_neg c8] at H
   have a9 := beq_eq_false_iff_ne.mpr c8
   have aa := bne_iff_ne.mpr c8
   obtain rfl := Option.some.inj H
   go_wp2
   go_ret
   exact ⟨tq_3, tq_9⟩
  rw [if_pos c8] at H
  have a9 := beq_iff_eq.mpr c8
  have aa := bne_eq_false_iff_eq.mpr c8
  clear c8
  obtain ⟨ab, A9, H⟩ := bd_ H
  obtain rfl := Option.some.inj H
  go_wp2_with (first | (go_at_call 36; (with_reducible refine (spec_l01In.calls a1 1 12 ab _ A9.out).mono ?_); rintro e w' ⟨rfl, ⟨nd, rfl⟩⟩))
  go_ret
  exact ⟨tq_3, tq_9⟩
 rw [if_pos c3] at H
 have a8 := decide_eq_true c3
 clear c3
 obtain ⟨c4, H⟩ := fc_ H
 have ag := decide_eq_true c4
 clear c4
 obtain ⟨a7, A5, H⟩ := bd_ H
 have ae := Aside0.mk H
 clear H
 have p237 : 0 ≤ (a5 : Int) := of_decide_eq_true tq_2
 have q237 : a5 < (l0.length : Int) := of_decide_eq_true tq_2
 obtain ⟨af, ac, a6⟩ := Kd.at_int HR0.out a5 p237 q237
 cases ac
 replace p237 := eq_true p237
 replace q237 := eq_true q237
 go_upto_if 17 with (first | ((with_reducible refine gate_callee (f := 36) rfl ?_); refine goesL_ (some 16) rfl rfl Tryz.func36 (by kernel_rfl) rfl #[.int .i64 (rd l0 a5), .int .i64 0, .int .i64 2] rfl tq_0 ?_; (with_reducible refine (spec_l01In.calls (rd l0 a5) 0 2 a7 _ A5.out).mono ?_); rintro e w' ⟨rfl, ⟨nd, rfl⟩⟩; refine ⟨_, rfl, ?_⟩))
 (try simp only [Act.put, List.setIfInBounds_toArray, List.set_cons_zero, List.set_cons_succ])
 (try clear a6)
 have H := ae.out
 clear ae
 by_cases c7 : a7 = true
 rotate_left
 ·replace c7 := Bool.eq_false_iff.mpr c7
  subst c7
  rw [if_neg nf_] at H
  obtain rfl := Option.some.inj H
  go_wp2
  go_ret
  exact ⟨tq_3, tq_9⟩
 subst c7
 rw [if_pos rfl] at H
 have H' := Aside0.mk H
 clear H
 go_wp2
 go_roundg k1
 case measure => have := HK1.out; omega
 case rel => exact ⟨(wrap64 (a5 + 1)), tq_3, H', ⟨tq_22⟩, tq_9⟩

/-! ### spec_LinksTo: function 38 -/
mutual
def spec_LinksTo.l0 : Nat → Int → Int → Int → Int → List Int → List (S69) → Option (Int)
 | 0, _, _, _, _, _, _ => none
 | k + 1, x1, x5, x6, a6, a7, a5 => if x6 < (a5.length : Int) then (spec_LinksTo.l1 k x1 x5 x6 0 a6 a7 a5) else (some x5)
def spec_LinksTo.l1 : Nat → Int → Int → Int → Int → Int → List Int → List (S69) → Option (Int)
 | 0, _, _, _, _, _, _, _ => none
 | k + 1, x1, x5, x6, x7, a6, a7, a5 => if 0 ≤ x6 then (if x6 < (a5.length : Int) then (if x7 < (((rd_T69 a5 x6).f5).length : Int) then (spec_LinksTo.j2 k x1 x5 x6 x7 (((rd_T69 a5 x6).f0) == 2) a6 a7 a5) else (spec_LinksTo.j2 k x1 x5 x6 x7 false a6 a7 a5)) else (none)) else (none)
def spec_LinksTo.j2 : Nat → Int → Int → Int → Int → Bool → Int → List Int → List (S69) → Option (Int)
 | 0, _, _, _, _, _, _, _, _ => none
 | k + 1, x1, x5, x6, x7, a8, a6, a7, a5 => if a8 = true then (if 0 ≤ x6 then (if x6 < (a5.length : Int) then (if 0 ≤ x7 then (if x7 < (((rd_T69 a5 x6).f5).length : Int) then (if ((rd_T72 ((rd_T69 a5 x6).f5) x7).f0) = x1 then (spec_LinksTo.l1 k x1 (wrap64 (x5 + 1)) x6 (wrap64 (x7 + 1)) a6 a7 a5) else (spec_LinksTo.l1 k x1 x5 x6 (wrap64 (x7 + 1)) a6 a7 a5)) else (none)) else (none)) else (none)) else (none)) else (spec_LinksTo.l0 k x1 x5 (wrap64 (x6 + 1)) a6 a7 a5)
end
def spec_LinksTo.f (k : Nat) (a5 : Int) (a6 : List Int) (a7 : List (S69)) (a1 : Int) : Option (Int) := spec_LinksTo.l0 k a1 0 0 a5 a6 a7
set_option maxHeartbeats 8000000 in
set_option maxRecDepth 100000 in
theorem spec_LinksTo.calls (k : Nat) (an : Int) (be : Option Addr) (bf : Nat) (aj : List Int) (bg : Option Addr) (bh : Nat) (a7 : List (S69)) (a1 : Int) (r : Int) (w : World) (bq : Kd.C (Kd.int .i64) w be aj.length aj) (br : aj.length ≤ bf) (bs : Kd.C k69 w bg a7.length a7) (bu : a7.length ≤ bh) (h : spec_LinksTo.f k an aj a7 a1 = some r) :
  Calls Tryz.prog 38 #[.agg #[.int .i64 an, .slice be aj.length bf, .slice bg a7.length bh], .int .i64 a1] w fun e w' => e = .returned (.int .i64 r) ∧ Below w.heap.size w w' := by
 have hu35 := Tryz.underlying35
 have HR0_1 := Aside0.mk bq
 have d9 := Aside0.mk br
 clear bq br
 have HR0_2 := Aside0.mk bs
 have da := Aside0.mk bu
 clear bs bu
 have HB := Aside0.mk (Below.refl w.heap.size w)
 unfold spec_LinksTo.f at h
 have H := h
 clear h
 have H' := Aside0.mk H
 clear H
 go_enter Tryz.func38, Tryz.ntmps38
 go_wp2_with (first | ((with_reducible refine gate_dst (N := 2) rfl ?_); refine be_ 2 (cs := #[.int .i64 an, .slice be aj.length bf, .slice bg a7.length bh]) 35 ?_; intro bi hg w3 hbox hb; have z_ := bx0_ th_ hb hbox hg; clear HB; obtain ⟨HB, a6, db, dc⟩ := z_; clear hb hbox hg))
 go_loopg [5, 6] k (fun kq v5 v6 w' => ∃ (bj : Int) (a5 : Int), v5 = .int .i64 bj ∧ v6 = .int .i64 a5 ∧ Aside0 (spec_LinksTo.l0 kq a1 bj a5 an aj a7 = some r) ∧ Aside0 (kq ≤ k) ∧ Aside0 (w'.heap[bi]? = some (.cells #[.int .i64 an, (.slice be aj.length bf), (.slice bg a7.length bh)] 35 (0, 0))) ∧ Aside0 (Below w.heap.size w w'))
 case atStart => exact ⟨(0), (0), tq_3, tq_3, H', ⟨Nat.le_refl _⟩, ⟨(kb_ a6)⟩, ⟨th_⟩⟩
 case round =>
 clear H'
 try clear p2; try clear c3
 obtain ⟨bj, a5, rfl, rfl, HA, HK1, a6, HB⟩ := hrel
 cases gk with
 | zero => exact absurd HA.out (by simp [spec_LinksTo.l0])
 | succ k1 =>
 have H := HA.out
 clear HA
 simp only [spec_LinksTo.l0] at H
 have dd := Aside0.mk H
 clear H
 have cl := bb3_ a6.out
 go_upto_if 12 with (fail)
 (try clear cl)
 have H := dd.out
 clear dd
 by_cases c6 : a5 < (a7.length : Int)
 rotate_left
 ·rw [if_neg c6] at H
  have b3 := decide_eq_false c6
  clear c6
  (first | rw [b3] | (simp only [i64_w, i32_w]; rw [b3]) | skip)
  obtain rfl := Option.some.inj H
  go_wp2
  go_ret
  exact ⟨tq_1, th_⟩
 rw [if_pos c6] at H
 have b3 := decide_eq_true c6
 clear c6
 (first | rw [b3] | (simp only [i64_w, i32_w]; rw [b3]) | skip)
 have H' := Aside0.mk H
 clear H
 go_wp2
 go_loopg [5, 7] k1 (fun kq v5 v7 w' => ∃ (b4 : Int) (am : Int), v5 = .int .i64 b4 ∧ v7 = .int .i64 am ∧ Aside0 (spec_LinksTo.l1 kq a1 b4 a5 am an aj a7 = some r) ∧ Aside0 (kq ≤ k1) ∧ Aside0 (w'.heap[bi]? = some (.cells #[.int .i64 an, (.slice be aj.length bf), (.slice bg a7.length bh)] 35 (0, 0))) ∧ Aside0 (Below w.heap.size w w'))
 case atStart => exact ⟨(bj), (0), tq_3, tq_3, H', ⟨Nat.le_refl _⟩, ⟨(kb_ a6)⟩, ⟨th_⟩⟩
 case round =>
 clear H'
 try clear p2; try clear c3; try clear c6; try clear b3; try clear cl; try clear p2
 obtain ⟨b4, am, rfl, rfl, HA, HK2, a6, HB⟩ := hrel
 cases gk with
 | zero => exact absurd HA.out (by simp [spec_LinksTo.l1])
 | succ k2 =>
 have H := HA.out
 clear HA
 simp only [spec_LinksTo.l1] at H
 have cv := Aside0.mk H
 clear H
 go_upto_region 6 with (fail)
 go_cut [32] (fun v32 wc => ∃ (kq : Nat) (b5 : Bool), v32 = .bool b5 ∧ Aside0 (spec_LinksTo.j2 kq a1 b4 a5 am b5 an aj a7 = some r) ∧ Aside0 (kq ≤ k2) ∧ Aside0 (wc.heap[bi]? = some (.cells #[.int .i64 an, (.slice be aj.length bf), (.slice bg a7.length bh)] 35 (0, 0))) ∧ Aside0 (Below w.heap.size w wc))
 case first =>
  have H := cv.out
  clear cv
  obtain ⟨c8, H⟩ := fc_ H
  have bx := decide_eq_true c8
  clear c8
  (first | rw [bx] | (simp only [i64_w, i32_w]; rw [bx]) | skip)
  obtain ⟨c9, H⟩ := fc_ H
  have cw := decide_eq_true c9
  clear c9
  by_cases bz : am < (((rd_T69 a7 a5).f5).length : Int)
  rotate_left
  ·rw [if_neg bz] at H
   have bv := decide_eq_false bz
   clear bz
   have H' := Aside0.mk H
   clear H
   have cg := bb3_ a6.out
   have p241 : 0 ≤ (a5 : Int) := of_decide_eq_true tq_2
   have q241 : a5 < (a7.length : Int) := of_decide_eq_true tq_2
   obtain ⟨bw, ca, cb, cc, cd, ce, aa, ab, ac, ae, a8, a9, af, ag, ah, ai⟩ := at_T69 HR0_2.out a5 p241 q241
   cases ce
   replace aa := hx_ HB.out aa
   replace ab := hx_ HB.out ab
   replace ac := hx_ HB.out ac
   replace ae := hx_ HB.out ae
   replace a8 := hx_ HB.out a8
   replace a9 := hx_ HB.out a9
   have bl := Aside0.mk ag
   have bm := Aside0.mk af
   clear ag af
   have bn := Aside0.mk ai
   have bo := Aside0.mk ah
   clear ai ah
   replace p241 := eq_true p241
   replace q241 := eq_true q241
   go_wp2
   go_meet
   case rel => exact ⟨_, (false), tq_3, H', ⟨tq_37⟩, ⟨(kb_ a6)⟩, ⟨th_⟩⟩
  rw [if_pos bz] at H
  have bv := decide_eq_true bz
  clear bz
  have H' := Aside0.mk H
  clear H
  have ch := bb3_ a6.out
  have p241 : 0 ≤ (a5 : Int) := of_decide_eq_true tq_2
  have q241 : a5 < (a7.length : Int) := of_decide_eq_true tq_2
  obtain ⟨bw, ca, cb, cc, cd, ce, aa, ab, ac, ae, a8, a9, af, ag, ah, ai⟩ := at_T69 HR0_2.out a5 p241 q241
  cases ce
  replace aa := hx_ HB.out aa
  replace ab := hx_ HB.out ab
  replace ac := hx_ HB.out ac
  replace ae := hx_ HB.out ae
  replace a8 := hx_ HB.out a8
  replace a9 := hx_ HB.out a9
  have bl := Aside0.mk ag
  have bm := Aside0.mk af
  clear ag af
  have bn := Aside0.mk ai
  have bo := Aside0.mk ah
  clear ai ah
  replace p241 := eq_true p241
  replace q241 := eq_true q241
  have p242 : 0 ≤ (a5 : Int) := of_decide_eq_true tq_2
  have q242 : a5 < (a7.length : Int) := of_decide_eq_true tq_2
  obtain ⟨ci, cx, cy, cz, d0, d1, ao, ap, aq, ar, ak, al, b6, b7, b8, b9⟩ := at_T69 HR0_2.out a5 p242 q242
  obtain rfl : bw = ci := (by injection d1)
  replace ao := hx_ HB.out ao
  replace ap := hx_ HB.out ap
  replace aq := hx_ HB.out aq
  replace ar := hx_ HB.out ar
  replace ak := hx_ HB.out ak
  replace al := hx_ HB.out al
  have cm := Aside0.mk b7
  have cn := Aside0.mk b6
  clear b7 b6
  have co := Aside0.mk b9
  have cp := Aside0.mk b8
  clear b9 b8
  replace p242 := eq_true p242
  replace q242 := eq_true q242
  have ea_ := Option.some.inj (a8.symm.trans ak)
  injection ea_ with ea_ en_ ec_
  subst ea_
  subst ec_
  clear en_
  have ea_ := Option.some.inj (a9.symm.trans al)
  injection ea_ with ea_ en_ ec_
  subst ea_
  subst ec_
  clear en_
  go_wp2
  go_meet
  case rel => exact ⟨_, ((((rd_T69 a7 a5).f0) == 2)), tq_3, H', ⟨tq_37⟩, ⟨(kb_ a6)⟩, ⟨th_⟩⟩
 case rest =>
 clear cv
 try clear c1; try clear c2; try clear p2; try clear q2; try clear hx2; try clear c3; try clear c6; try clear b3; try clear c8; try clear bx; try clear c9; try clear cw; try clear bz; try clear bv; try clear ch; try clear cg; try clear cl; try clear ch; try clear cg; try clear cl; try clear aa; try clear ab; try clear ac; try clear ae; try clear a8; try clear a9; try clear ao; try clear ap; try clear aq; try clear ar; try clear ak; try clear al; try clear p2; try clear p241; try clear p242; try clear q241; try clear q242
 obtain ⟨kq, b5, rfl, HA, HJ6, a6, HB⟩ := hcut
 cases kq with
 | zero => exact absurd HA.out (by simp [spec_LinksTo.j2])
 | succ kj6 =>
 have H := HA.out
 clear HA
 simp only [spec_LinksTo.j2] at H
 by_cases cq : b5 = true
 rotate_left
 ·replace cq := Bool.eq_false_iff.mpr cq
  subst cq
  rw [if_neg nf_] at H
  have H' := Aside0.mk H
  clear H
  go_wp2
  go_roundg kj6
  case measure => have := HK1.out; have := HK2.out; have := HJ6.out; omega
  case rel => exact ⟨(b4), (wrap64 (a5 + 1)), tq_3, tq_3, H', ⟨tq_35⟩, ⟨(kb_ a6)⟩, ⟨th_⟩⟩
 subst cq
 rw [if_pos rfl] at H
 obtain ⟨de, H⟩ := fc_ H
 have df := decide_eq_true de
 clear de
 obtain ⟨dg, H⟩ := fc_ H
 have dh := decide_eq_true dg
 clear dg
 obtain ⟨di, H⟩ := fc_ H
 have dj := decide_eq_true di
 clear di
 obtain ⟨dk, H⟩ := fc_ H
 have dl := decide_eq_true dk
 clear dk
 have cj := Aside0.mk H
 clear H
 have d2 := bb3_ a6.out
 have p243 : 0 ≤ (a5 : Int) := of_decide_eq_true tq_2
 have q243 : a5 < (a7.length : Int) := of_decide_eq_true tq_2
 obtain ⟨dm, d3, d4, d5, d6, d7, au, av, aw, ax, ay, az, ba, bb, bc, bd⟩ := at_T69 HR0_2.out a5 p243 q243
 cases d7
 replace au := hx_ HB.out au
 replace av := hx_ HB.out av
 replace aw := hx_ HB.out aw
 replace ax := hx_ HB.out ax
 replace ay := hx_ HB.out ay
 replace az := hx_ HB.out az
 have cr := Aside0.mk bb
 have ct := Aside0.mk ba
 clear bb ba
 have bp := Aside0.mk bd
 have cu := Aside0.mk bc
 clear bd bc
 replace p243 := eq_true p243
 replace q243 := eq_true q243
 have p244 : 0 ≤ (am : Int) := of_decide_eq_true tq_2
 have q244 : am < (((rd_T69 a7 a5).f5).length : Int) := of_decide_eq_true tq_2
 obtain ⟨dn, d8, b0, b1⟩ := at_T72 bp.out am p244 q244
 cases d8
 replace b0 := hx_ HB.out b0
 replace b1 := hx_ HB.out b1
 replace p244 := eq_true p244
 replace q244 := eq_true q244
 go_upto_if 46 with (fail)
 (try clear d2)
 (try clear au av aw ax ay az)
 (try clear b0 b1)
 have H := cj.out
 clear cj
 by_cases cf : ((rd_T72 ((rd_T69 a7 a5).f5) am).f0) = a1
 rotate_left
 ·rw [if_neg cf] at H
  have b2 := beq_eq_false_iff_ne.mpr cf
  have ck := bne_iff_ne.mpr cf
  (first | rw [b2] | (simp only [i64_w, i32_w]; rw [b2]) | skip)
  have H' := Aside0.mk H
  clear H
  go_wp2
  go_roundg kj6
  case measure => have := HK1.out; have := HK2.out; have := HJ6.out; omega
  case rel => exact ⟨(b4), (wrap64 (am + 1)), tq_3, tq_3, H', ⟨tq_35⟩, ⟨(kb_ a6)⟩, ⟨th_⟩⟩
 rw [if_pos cf] at H
 have b2 := beq_iff_eq.mpr cf
 have ck := bne_eq_false_iff_eq.mpr cf
 clear cf
 (first | rw [b2] | (simp only [i64_w, i32_w]; rw [b2]) | skip)
 have H' := Aside0.mk H
 clear H
 go_wp2
 go_roundg kj6
 case measure => have := HK1.out; have := HK2.out; have := HJ6.out; omega
 case rel => exact ⟨(wrap64 (b4 + 1)), (wrap64 (am + 1)), tq_3, tq_3, H', ⟨tq_35⟩, ⟨(kb_ a6)⟩, ⟨th_⟩⟩

/-! ### spec_PagesFor: function 63 -/
def spec_PagesFor.f (a0 : Int) : Option (Int) := if a0 ≤ 0 then (some 0) else (some (wrap64 ((wrap64 (Int.tdiv (wrap64 (a0 - 1)) 32)) + 1)))
set_option maxHeartbeats 8000000 in
set_option maxRecDepth 100000 in
theorem spec_PagesFor.calls (a0 : Int) (r : Int) (w : World) (h : spec_PagesFor.f a0 = some r) :
  Calls Tryz.prog 63 #[.int .i64 a0] w fun e w' => e = .returned (.int .i64 r) ∧ Drawn0 w w' := by
 unfold spec_PagesFor.f at h
 have H := h
 clear h
 by_cases c2 : a0 ≤ 0
 ·rw [if_pos c2] at H
  have a5 := decide_eq_true c2
  clear c2
  obtain rfl := Option.some.inj H
  go_enter Tryz.func63, Tryz.ntmps63
  go_wp2
  go_ret
  exact ⟨tq_3, tq_9⟩
 rw [if_neg c2] at H
 have a5 := decide_eq_false c2
 clear c2
 obtain rfl := Option.some.inj H
 go_enter Tryz.func63, Tryz.ntmps63
 go_wp2
 go_ret
 exact ⟨tq_3, tq_9⟩

/-! ### spec_NumText: function 69 -/
mutual
def spec_NumText.j0 : Nat → Int → Int → Bool → Option (ByteArray)
 | 0, _, _, _ => none
 | k + 1, x0, x1, a5 => if a5 = true then (some (⟨#[]⟩ : ByteArray)) else (spec_NumText.l0 k x0 (([] : List Int)) (wrap64 (x1 - 1)))
def spec_NumText.l0 : Nat → Int → List Int → Int → Option (ByteArray)
 | 0, _, _, _ => none
 | k + 1, x0, x5, x6 => if x6 ≥ 0 then (if 0 ≤ (IntKind.u64.wrap (8 * (IntKind.u64.wrap (x6)))) then (if x5.length < 140737488355328 then (spec_NumText.l0 k x0 (x5 ++ [(shr .i64 x0 (IntKind.u64.wrap (8 * (IntKind.u64.wrap (x6))))) % 256]) (wrap64 (x6 - 1))) else (none)) else (none)) else (some (strOfNums x5))
end
def spec_NumText.f (k : Nat) (a0 : Int) (a1 : Int) : Option (ByteArray) := if a0 < 0 then (spec_NumText.j0 k a0 a1 true) else ((spec_l01In.f a1 1 7).bind fun a5 => (if a5 = true then (if 0 ≤ (IntKind.u64.wrap (8 * (IntKind.u64.wrap (a1)))) then (spec_NumText.j0 k a0 a1 (decide ((shr .i64 a0 (IntKind.u64.wrap (8 * (IntKind.u64.wrap (a1))))) > 0))) else (none)) else (spec_NumText.j0 k a0 a1 true)))
set_option maxHeartbeats 8000000 in
set_option maxRecDepth 100000 in
theorem spec_NumText.calls (k : Nat) (a0 : Int) (a1 : Int) (r : ByteArray) (w : World) (h : spec_NumText.f k a0 a1 = some r) :
  Calls Tryz.prog 69 #[.int .i64 a0, .int .i64 a1] w fun e w' => e = .returned (.string r) ∧ Below w.heap.size w w' := by
 have HB := Aside0.mk (Below.refl w.heap.size w)
 unfold spec_NumText.f at h
 have H := h
 clear h
 have ai := Aside0.mk H
 clear H
 go_enter Tryz.func69, Tryz.ntmps69
 go_upto_region 1 with (fail)
 go_cut [21] (fun v21 wc => ∃ (kq : Nat) (a8 : Bool), v21 = .bool a8 ∧ Aside0 (spec_NumText.j0 kq a0 a1 a8 = some r) ∧ Aside0 (kq ≤ k) ∧ Aside0 (Below w.heap.size w wc))
 case first =>
  have H := ai.out
  clear ai
  by_cases c4 : a0 < 0
  ·rw [if_pos c4] at H
   have a7 := decide_eq_true c4
   clear c4
   (first | rw [a7] | (simp only [i64_w, i32_w]; rw [a7]) | skip)
   have H' := Aside0.mk H
   clear H
   go_wp2
   go_meet
   case rel => exact ⟨_, (true), tq_3, H', ⟨tq_18⟩, ⟨th_⟩⟩
  rw [if_neg c4] at H
  have a7 := decide_eq_false c4
  clear c4
  (first | rw [a7] | (simp only [i64_w, i32_w]; rw [a7]) | skip)
  obtain ⟨aj, A5, H⟩ := bd_ H
  by_cases c6 : aj = true
  rotate_left
  ·replace c6 := Bool.eq_false_iff.mpr c6
   subst c6
   rw [if_neg nf_] at H
   have H' := Aside0.mk H
   clear H
   go_wp2_with (first | (go_at_call 36; (with_reducible refine (spec_l01In.calls a1 1 7 false _ A5.out).mono ?_); rintro e w' ⟨rfl, ⟨nd, rfl⟩⟩))
   go_meet
   case rel => exact ⟨_, (true), tq_3, H', ⟨tq_18⟩, ⟨th_⟩⟩
  subst c6
  rw [if_pos rfl] at H
  obtain ⟨ji7, hji7⟩ : ∃ j_ : Int, (IntKind.u64.wrap (8 * (IntKind.u64.wrap (a1)))) = j_ := ⟨_, rfl⟩
  replace H : (if 0 ≤ (ji7) then (spec_NumText.j0 k a0 a1 (decide ((shr .i64 a0 (ji7)) > 0))) else (none)) = some r := by first | (rw [hji7] at H; exact H) | (simp only [hji7] at H ⊢; exact H)
  (try rw [hji7] at A5)
  obtain ⟨c8, H⟩ := fc_ H
  have ab := eq_true c8
  have ac := decide_eq_true c8
  clear c8
  obtain ⟨ji9, hji9⟩ : ∃ j_ : Int, (shr .i64 a0 (ji7)) = j_ := ⟨_, rfl⟩
  replace H : (spec_NumText.j0 k a0 a1 (decide ((ji9) > 0))) = some r := by first | (rw [hji9] at H; exact H) | (simp only [hji9] at H ⊢; exact H)
  (try rw [hji9] at A5)
  have hji9_ : (a0 / 2 ^ min (ji7).toNat 64) = ji9 := hji9
  have hji9z : (ji7) ≤ 64 → (a0 / 2 ^ (ji7).toNat) = ji9 := shr_small hji9
  have H' := Aside0.mk H
  clear H
  go_wp2_with (first | (go_at_call 36; (with_reducible refine (spec_l01In.calls a1 1 7 true _ A5.out).mono ?_); rintro e w' ⟨rfl, ⟨nd, rfl⟩⟩))
  go_meet
  case rel => exact ⟨_, (decide ((ji9) > 0)), (by first | rfl | (simp; done) | (simp only [← hji9] <;> (first | rfl | simp)) | (simp [*]; done)), H', ⟨tq_18⟩, ⟨th_⟩⟩
 case rest =>
 clear ai
 try clear p2; try clear c4; try clear a7; try clear c6; try clear c8; try clear ab; try clear ac
 obtain ⟨kq, a8, rfl, HA, HJ2, HB⟩ := hcut
 cases kq with
 | zero => exact absurd HA.out (by simp [spec_NumText.j0])
 | succ kj2 =>
 have H := HA.out
 clear HA
 simp only [spec_NumText.j0] at H
 by_cases ae : a8 = true
 ·subst ae
  rw [if_pos rfl] at H
  obtain rfl := Option.some.inj H
  go_wp2
  go_ret
  exact ⟨tq_1, th_⟩
 replace ae := Bool.eq_false_iff.mpr ae
 subst ae
 rw [if_neg nf_] at H
 obtain ⟨af, hy246⟩ : ∃ y_ : List Int, y_ = (([] : List Int)) := ⟨_, rfl⟩
 replace H : (spec_NumText.l0 kj2 a0 af (wrap64 (a1 - 1))) = some r := by first | (rw [hy246]; with_reducible exact H) | (have H2_ := (Option.bind_some _ _).symm.trans H; rw [hy246]; with_reducible exact H2_) | (have H2_ := (Option.bind_some _ _).symm.trans H; with_reducible exact H2_) | with_reducible exact H | (rw [hy246]; exact H) | exact H
 have Ny246 := Aside0.mk hy246
 clear hy246
 have H' := Aside0.mk H
 clear H
 go_wp2_with (first | ((with_reducible refine gate_dst (N := 22) rfl ?_); refine Kd.R_lit (Kd.int .u8) _ 5 ?hg (N := 22) ?hd (xs := ([] : List Int)) (inner := []) (ok := fun _ => True) (okp := fun _ => True) ?hr ?hp (fun _ hk => hk) trivial (Below.refl _ _) (Nat.le_refl _) (by simp) ?_; (case hd => rfl); (case hg => rfl); (case hr => first | (go_simp; done) | (go_simp; rfl)); (case hp => exact (Reps.none _ _)); intro v247 ao ho12 hb hg_ hnew_; clear hg_ hnew_; (first | rw [← Ny246.out] at ho12 | (simp only [Int.reduceToNat] at ho12; rw [← Ny246.out] at ho12)); have z_ := p_ (Kd.R_lower ho12 (below_size th_)) <| a_ (below_step th_ hb); clear HB; obtain ⟨HO248, HB⟩ := z_; clear hb ho12))
 go_loopg [5, 6] kj2 (fun kq v5 v6 w' => ∃ (a5 : List Int) (a6 : Int), v6 = .int .i64 a6 ∧ Aside0 (spec_NumText.l0 kq a0 a5 a6 = some r) ∧ Aside0 (kq ≤ kj2) ∧ Aside0 (Kd.R (Kd.int .u8) 5 w' w.heap.size (fun _ => True) v5 a5) ∧ Aside0 (Below w.heap.size w w'))
 case atStart => exact ⟨(af), (wrap64 (a1 - 1)), tq_3, H', ⟨Nat.le_refl _⟩, ⟨(raR_ HO248)⟩, ⟨th_⟩⟩
 case round =>
 clear H'
 try clear c1; try clear p2; try clear c4; try clear a7; try clear c6; try clear p6; try clear c8; try clear ab; try clear ac; try clear ae; try clear p2
 obtain ⟨a5, a6, rfl, HA, HK2, a9, HB⟩ := hrel
 cases gk with
 | zero => exact absurd HA.out (by simp [spec_NumText.l0])
 | succ k2 =>
 have H := HA.out
 clear HA
 simp only [spec_NumText.l0] at H
 by_cases aa : a6 ≥ 0
 rotate_left
 ·rw [if_neg aa] at H
  have ag := decide_eq_false aa
  clear aa
  obtain rfl := Option.some.inj H
  have hcv19 := own_string (P := Tryz.prog) Tryz.underlying83 Tryz.underlying5 Tryz.underlying9 (Kd.own_of_R a9.out)
  go_wp2
  go_ret
  exact ⟨tq_1, th_⟩
 rw [if_pos aa] at H
 have ag := decide_eq_true aa
 clear aa
 obtain ⟨ji14, hji14⟩ : ∃ j_ : Int, (IntKind.u64.wrap (8 * (IntKind.u64.wrap (a6)))) = j_ := ⟨_, rfl⟩
 replace H : (if 0 ≤ (ji14) then (if a5.length < 140737488355328 then (spec_NumText.l0 k2 a0 (a5 ++ [(shr .i64 a0 (ji14)) % 256]) (wrap64 (a6 - 1))) else (none)) else (none)) = some r := by first | (rw [hji14] at H; exact H) | (simp only [hji14] at H ⊢; exact H)
 obtain ⟨ak, H⟩ := fc_ H
 have al := eq_true ak
 have am := decide_eq_true ak
 clear ak
 obtain ⟨ji16, hji16⟩ : ∃ j_ : Int, (shr .i64 a0 (ji14)) = j_ := ⟨_, rfl⟩
 replace H : (if a5.length < 140737488355328 then (spec_NumText.l0 k2 a0 (a5 ++ [(ji16) % 256]) (wrap64 (a6 - 1))) else (none)) = some r := by first | (rw [hji16] at H; exact H) | (simp only [hji16] at H ⊢; exact H)
 have hji16_ : (a0 / 2 ^ min (ji14).toNat 64) = ji16 := hji16
 have hji16z : (ji14) ≤ 64 → (a0 / 2 ^ (ji14).toNat) = ji16 := shr_small hji16
 obtain ⟨an, H⟩ := fc_ H
 have LMc17 := Aside0.mk an
 clear an
 obtain ⟨ah, hy249⟩ : ∃ y_ : List Int, y_ = (a5 ++ [(ji16) % 256]) := ⟨_, rfl⟩
 replace H : (spec_NumText.l0 k2 a0 ah (wrap64 (a6 - 1))) = some r := by first | (rw [hy249]; with_reducible exact H) | (have H2_ := (Option.bind_some _ _).symm.trans H; rw [hy249]; with_reducible exact H2_) | (have H2_ := (Option.bind_some _ _).symm.trans H; with_reducible exact H2_) | with_reducible exact H | (rw [hy249]; exact H) | exact H
 have Ny249 := Aside0.mk hy249
 clear hy249
 have H' := Aside0.mk H
 clear H
 go_wp2_with (first | ((with_reducible refine gate_builtin (b := .append) (xs := #[.tmp 29, .tmp 36]) rfl ?_); at_builtin; refine Kd.R_append (Kd.int .u8) (w0 := w) w.heap.size rfl (.tmp 29) (.tmp 36) 83 5 (.int .u8 0) 1 rfl Tryz.underlying83 info5 rfl (by decide) (by omega) u5 a5 ((ji16) % 256) [.int .u8 ((ji16) % 256)] (fun _ => True) (fun _ => False) rfl rfl ?aP (fun _ hk => hk.elim) ?aF ?aO ?aB ?aS ?aL ?_; (case aP => exact rfl); (case aB => exact th_); (case aF => exact (fun _ _ => trivial)); (case aO => exact (raR_ a9)); (case aS => exact (below_size th_)); (case aL => have := LMc17.out; omega); intro v250 ap ho hb hg hat; rw [← Ny249.out] at ho; have z_ := p_ (hb) <| a_ (ho); clear HB a9; obtain ⟨HB, HO251⟩ := z_; clear ho hb hg hat))
 go_roundg k2
 case measure => have := HJ2.out; have := HK2.out; omega
 case rel => exact ⟨(ah), (wrap64 (a6 - 1)), tq_3, H', ⟨(by have := HJ2.out; have := HK2.out; omega)⟩, ⟨(raR_ HO251)⟩, ⟨th_⟩⟩

/-! ### spec_RecWord: function 64 -/
def spec_RecWord.j0 : Nat → Bool → Int → Int → ByteArray → Option (ByteArray)
 | 0, _, _, _, _ => none
 | k + 1, aa, a6, a7, a5 => if aa = true then (some (⟨#[]⟩ : ByteArray)) else ((spec_NumText.f k a6 1).bind fun a8 => ((spec_NumText.f k a7 3).bind fun a9 => (if a8.size + a9.size ≤ 9223372036854775807 then (if (a8 ++ a9).size + a5.size ≤ 9223372036854775807 then (some ((a8 ++ a9) ++ a5)) else (none)) else (none))))
def spec_RecWord.f (k : Nat) (a5 : Int) (a6 : Int) (a7 : ByteArray) : Option (ByteArray) := (spec_l01In.f a5 1 12).bind fun a8 => (if a8 = true then ((spec_l01In.f a6 1 16777215).bind fun a9 => (if a9 = true then (spec_RecWord.j0 k ((a7.size : Int) != 4) a5 a6 a7) else (spec_RecWord.j0 k true a5 a6 a7))) else (spec_RecWord.j0 k true a5 a6 a7))
def spec_RecWord.T3 : Bool × List (List Nat × List Nat) := (true, [([], []), ([0], [0]), ([1], [1]), ([], []), ([3], [3]), ([4, 2], [4]), ([2, 5], [2, 5]), ([], []), ([7], [7]), ([6, 8], [6, 8]), ([9, 5, 0, 1, 2, 3, 4, 5, 6, 7, 8, 9], [9])])
def spec_RecWord.B3 : List Nat := [0, 1, 3, 0, 8, 31, 63, 0, 128, 511, 1023]
theorem spec_RecWord.tab3 : rtab .any (opsOf Tryz.f64 3) = spec_RecWord.T3 := by kernel_rfl
theorem spec_RecWord.bits3 : waitsOk spec_RecWord.T3.2 spec_RecWord.B3 = true := by kernel_rfl
set_option maxHeartbeats 8000000 in
set_option maxRecDepth 100000 in
theorem spec_RecWord.calls (k : Nat) (a6 : Int) (a7 : Int) (a8 : ByteArray) (r : ByteArray) (w : World) (h : spec_RecWord.f k a6 a7 a8 = some r) :
  Calls Tryz.prog 64 #[.agg #[.int .i64 a6, .int .i64 a7, .string a8]] w fun e w' => e = .returned (.string r) ∧ Below w.heap.size w w' := by
 have hu89 := Tryz.underlying89
 have HB := Aside0.mk (Below.refl w.heap.size w)
 unfold spec_RecWord.f at h
 have H := h
 clear h
 have ah := Aside0.mk H
 clear H
 go_enter Tryz.func64, Tryz.ntmps64
 go_upto_region 1 with (first | ((with_reducible refine gate_dst (N := 1) rfl ?_); (try (refine gate_guard (by rfl) ?_; dsimp only)); refine be_ 1 (cs := #[.int .i64 a6, .int .i64 a7, .string a8]) 89 ?_; intro a9 hg w3 hbox hb; have z_ := bx0_ th_ hb hbox hg; clear HB; obtain ⟨HB, a5, am, an⟩ := z_; clear hb hbox hg))
 (try simp only [Act.put, List.setIfInBounds_toArray, List.set_cons_zero, List.set_cons_succ])
 go_cut [18] (fun v18 wc => ∃ (kq : Nat) (aa : Bool), v18 = .bool aa ∧ Aside0 (spec_RecWord.j0 kq aa a6 a7 a8 = some r) ∧ Aside0 (kq ≤ k) ∧ Aside0 (wc.heap[a9]? = some (.cells #[.int .i64 a6, .int .i64 a7, .string a8] 89 (0, 0))) ∧ Aside0 (Below w.heap.size w wc))
 case first =>
  have H := ah.out
  clear ah
  obtain ⟨ai, A4, H⟩ := bd_ H
  by_cases c5 : ai = true
  rotate_left
  ·replace c5 := Bool.eq_false_iff.mpr c5
   subst c5
   rw [if_neg nf_] at H
   have H' := Aside0.mk H
   clear H
   have ae := bb3_ a5.out
   go_wp2_with (first | ((with_reducible refine gate_callee (f := 36) rfl ?_); refine goesL_ (some 5) rfl rfl Tryz.func36 (by kernel_rfl) rfl #[.int .i64 a6, .int .i64 1, .int .i64 12] rfl tq_0 ?_; (with_reducible refine (spec_l01In.calls a6 1 12 false _ A4.out).mono ?_); rintro e w' ⟨rfl, ⟨nd, rfl⟩⟩; refine ⟨_, rfl, ?_⟩))
   go_meet
   case rel => exact ⟨_, (true), tq_3, H', ⟨tq_18⟩, ⟨(kb_ a5)⟩, ⟨th_⟩⟩
  subst c5
  rw [if_pos rfl] at H
  obtain ⟨aj, A6, H⟩ := bd_ H
  by_cases c7 : aj = true
  ·subst c7
   rw [if_pos rfl] at H
   have H' := Aside0.mk H
   clear H
   have ao := bb3_ a5.out
   go_wp2_with (first | ((with_reducible refine gate_callee (f := 36) rfl ?_); refine goesL_ (some 5) rfl rfl Tryz.func36 (by kernel_rfl) rfl #[.int .i64 a6, .int .i64 1, .int .i64 12] rfl tq_0 ?_; (with_reducible refine (spec_l01In.calls a6 1 12 true _ A4.out).mono ?_); rintro e w' ⟨rfl, ⟨nd, rfl⟩⟩; refine ⟨_, rfl, ?_⟩) | (go_at_call 36; (with_reducible refine (spec_l01In.calls a7 1 16777215 true _ A6.out).mono ?_); rintro e w' ⟨rfl, ⟨nd, rfl⟩⟩))
   go_meet
   case rel => exact ⟨_, (((a8.size : Int) != 4)), tq_3, H', ⟨tq_18⟩, ⟨(kb_ a5)⟩, ⟨th_⟩⟩
  replace c7 := Bool.eq_false_iff.mpr c7
  subst c7
  rw [if_neg nf_] at H
  have H' := Aside0.mk H
  clear H
  have ap := bb3_ a5.out
  go_wp2_with (first | ((with_reducible refine gate_callee (f := 36) rfl ?_); refine goesL_ (some 5) rfl rfl Tryz.func36 (by kernel_rfl) rfl #[.int .i64 a6, .int .i64 1, .int .i64 12] rfl tq_0 ?_; (with_reducible refine (spec_l01In.calls a6 1 12 true _ A4.out).mono ?_); rintro e w' ⟨rfl, ⟨nd, rfl⟩⟩; refine ⟨_, rfl, ?_⟩) | (go_at_call 36; (with_reducible refine (spec_l01In.calls a7 1 16777215 false _ A6.out).mono ?_); rintro e w' ⟨rfl, ⟨nd, rfl⟩⟩))
  go_meet
  case rel => exact ⟨_, (true), tq_3, H', ⟨tq_18⟩, ⟨(kb_ a5)⟩, ⟨th_⟩⟩
 case rest =>
 clear ah
 try clear p2; try clear c3; try clear c5; try clear c6; try clear c7; try clear ae; try clear ao; try clear ap; try clear ae; try clear ao; try clear ap
 obtain ⟨kq, aa, rfl, HA, HJ1, a5, HB⟩ := hcut
 cases kq with
 | zero => exact absurd HA.out (by simp [spec_RecWord.j0])
 | succ kj1 =>
 have H := HA.out
 clear HA
 simp only [spec_RecWord.j0] at H
 by_cases ag : aa = true
 ·subst ag
  rw [if_pos rfl] at H
  obtain rfl := Option.some.inj H
  go_wp2
  go_ret
  exact ⟨tq_1, th_⟩
 replace ag := Bool.eq_false_iff.mpr ag
 subst ag
 rw [if_neg nf_] at H
 obtain ⟨ab, ax, H⟩ := bd_ H
 obtain ⟨ac, ay, H⟩ := bd_ H
 obtain ⟨ak, H⟩ := fc_ H
 have aq := eq_true ak
 have ar := decide_eq_true ak
 try have au : (9223372036854775807 < ab.size + ac.size) = False := eq_false (Nat.not_lt.2 ak)
 obtain ⟨al, H⟩ := fc_ H
 have av := eq_true al
 have aw := decide_eq_true al
 try have af : (9223372036854775807 < (ab ++ ac).size + a8.size) = False := eq_false (Nat.not_lt.2 al)
 try have c15b2s : (9223372036854775807 < ab.size + ac.size + a8.size) = False := by rw [← ByteArray.size_append]; exact af
 obtain rfl := Option.some.inj H
 try go_wp2
 have z_ := dw1_ a5 HB
 clear a5 HB
 obtain ⟨a5, HB⟩ := z_
 refine start_ (n := 11) (S := fun w' => w'.cell? ⟨a9, 0, none⟩ = some (.int .i64 a6) ∧ w'.cell? ⟨a9, 1, none⟩ = some (.int .i64 a7) ∧ w'.cell? ⟨a9, 2, none⟩ = some (.string a8)) (ds := []) bq_85 (by kernel_rfl) rfl rfl (bk3_ a5.out) (fun hHeld => ?_); refine with_tabW spec_RecWord.tab3 spec_RecWord.bits3 (fun HT_ HW_ => ?_)
 generalize wc.drew = az at a5 HB hHeld ⊢
 refine yr_ 0 19 bq_86 HT_ ?_
 refine yr_ 3 22 bq_87 HT_ ?_
 refine yr_ 7 26 bq_88 HT_ ?_
 refine tr_ 1 20 bq_89 HT_ HW_ hHeld ?_
 refine tr_ 4 23 bq_90 HT_ HW_ hHeld ?_
 refine tr_ 8 27 bq_91 HT_ HW_ hHeld ?_
 refine one_ (i := 2) (N := some 21) bq_92 rfl rfl (one_of HT_.out (by kernel_rfl)) (by decide) (fun K hK => ?_)
 refine goes_ Tryz.func69 (by kernel_rfl) rfl #[.int .i64 a6, .int .i64 1] (by rfl) rfl rfl tq_0 ?_
 with_reducible refine (spec_NumText.calls kj1 a6 1 ab _ ax.out).mono ?_
 rintro e b0 ⟨rfl, hb⟩
 refine ⟨_, rfl, ?_⟩
 have z_ := bw1_ (kb_ a5) th_ hb
 clear a5 HB
 obtain ⟨a5, HB⟩ := z_
 (try clear hb)
 refine hK.out _ _ (bk3_ a5.out) (fun hHeld => ?_)
 clear hK K
 refine nm_ (some 21) ?_
 refine one_ (i := 5) (N := some 24) bq_93 rfl rfl (one_of HT_.out (by kernel_rfl)) (by decide) (fun K hK => ?_)
 refine goes_ Tryz.func69 (by kernel_rfl) rfl #[.int .i64 a7, .int .i64 3] (by rfl) rfl rfl tq_0 ?_
 with_reducible refine (spec_NumText.calls kj1 a7 3 ac _ ay.out).mono ?_
 rintro e b1 ⟨rfl, hb⟩
 refine ⟨_, rfl, ?_⟩
 have z_ := bw1_ (kb_ a5) th_ hb
 clear a5 HB
 obtain ⟨a5, HB⟩ := z_
 (try clear hb)
 refine hK.out _ _ (bk3_ a5.out) (fun hHeld => ?_)
 clear hK K
 refine nm_ (some 24) ?_
 refine yr_ 6 25 bq_94 HT_ ?_
 refine yr_ 9 28 bq_95 HT_ ?_
 refine yr_ 10 2 bq_96 HT_ ?_
 refine done_ (done_of HT_.out (by kernel_rfl)) ?_
 try go_wp2
 go_ret
 exact ⟨tq_1, th_⟩

/-! ### spec_l01Long: function 93 -/
def spec_l01Long.l0 : Nat → Int → Int → List Int → Int → Option (ByteArray)
 | 0, _, _, _, _ => none
 | k + 1, x0, x1, x5, x6 => if x6 < x0 then (if 0 ≤ x6 then (if x6 < (x5.length : Int) then (spec_l01Long.l0 k x0 x1 (x5.set (x6 : Int).toNat x1) (wrap64 (x6 + 1))) else (none)) else (none)) else (some (strOfNums x5))
def spec_l01Long.f (k : Nat) (a0 : Int) (a1 : Int) : Option (ByteArray) := if 0 ≤ a0 then (if (a0 : Int).toNat ≤ 281474976710656 then (spec_l01Long.l0 k a0 a1 (List.replicate (a0 : Int).toNat 0) 0) else (none)) else (none)
set_option maxHeartbeats 8000000 in
set_option maxRecDepth 100000 in
theorem spec_l01Long.calls (k : Nat) (a0 : Int) (a1 : Int) (r : ByteArray) (w : World) (h : spec_l01Long.f k a0 a1 = some r) :
  Calls Tryz.prog 93 #[.int .i64 a0, .int .u8 a1] w fun e w' => e = .returned (.string r) ∧ Below w.heap.size w w' := by
 have HB := Aside0.mk (Below.refl w.heap.size w)
 unfold spec_l01Long.f at h
 have H := h
 clear h
 obtain ⟨c3, H⟩ := fc_ H
 have af := eq_true c3
 have ag := decide_eq_true c3
 clear c3
 obtain ⟨c4, H⟩ := fc_ H
 have ah := eq_true c4
 have ai := decide_eq_true c4
 clear c4
 obtain ⟨aa, hy257⟩ : ∃ y_ : List Int, y_ = (List.replicate (a0 : Int).toNat 0) := ⟨_, rfl⟩
 replace H : (spec_l01Long.l0 k a0 a1 aa 0) = some r := by first | (rw [hy257]; with_reducible exact H) | (have H2_ := (Option.bind_some _ _).symm.trans H; rw [hy257]; with_reducible exact H2_) | (have H2_ := (Option.bind_some _ _).symm.trans H; with_reducible exact H2_) | with_reducible exact H | (rw [hy257]; exact H) | exact H
 have Ny257 := Aside0.mk hy257
 clear hy257
 have H' := Aside0.mk H
 clear H
 go_enter Tryz.func93, Tryz.ntmps93
 go_wp2_with (first | ((with_reducible refine gate_dst (N := 8) rfl ?_); refine Kd.R_make (Kd.int .u8) _ 5 rfl (N := 8) rfl 83 _ _ rfl a0 rfl rfl Tryz.underlying83 (.int .u8 0) 1 info5 rfl (by decide) (by omega) 0 (ok := fun _ => True) (okp := fun _ => True) rfl (fun _ hk => hk) trivial (of_decide_eq_true tq_2) (Nat.le_trans (Nat.mul_le_mul_right _ (of_decide_eq_true tq_2 : a0.toNat ≤ 281474976710656)) (by omega)) (Below.refl _ _) (Nat.le_refl _) ?_; intro v258 w5 ho6 hb hg_ hnew_; clear hg_ hnew_; (first | rw [← Ny257.out] at ho6 | (simp only [Int.reduceToNat] at ho6; rw [← Ny257.out] at ho6)); have z_ := p_ (Kd.R_lower ho6 (below_size th_)) <| a_ (below_step th_ hb); clear HB; obtain ⟨HO259, HB⟩ := z_; clear hb ho6))
 go_loopg [6] k (fun kq v6 w' => ∃ (a7 : List Int) (a5 : Int), v6 = .int .i64 a5 ∧ Aside0 (spec_l01Long.l0 kq a0 a1 a7 a5 = some r) ∧ Aside0 (kq ≤ k) ∧ Aside0 (Kd.R (Kd.int .u8) 5 w' w.heap.size (fun _ => True) v258 a7) ∧ Aside0 (Below w.heap.size w w'))
 case atStart => exact ⟨(aa), (0), tq_3, H', ⟨Nat.le_refl _⟩, ⟨(raR_ HO259)⟩, ⟨th_⟩⟩
 case round =>
 clear H'
 try clear p2; try clear c3; try clear af; try clear ag; try clear c4; try clear ah; try clear ai
 obtain ⟨a7, a5, rfl, HA, HK1, a6, HB⟩ := hrel
 cases gk with
 | zero => exact absurd HA.out (by simp [spec_l01Long.l0])
 | succ k1 =>
 have H := HA.out
 clear HA
 simp only [spec_l01Long.l0] at H
 by_cases c7 : a5 < a0
 rotate_left
 ·rw [if_neg c7] at H
  have aj := decide_eq_false c7
  clear c7
  obtain rfl := Option.some.inj H
  have hcv13 := own_string (P := Tryz.prog) Tryz.underlying83 Tryz.underlying5 Tryz.underlying9 (Kd.own_of_R a6.out)
  go_wp2
  go_ret
  exact ⟨tq_1, th_⟩
 rw [if_pos c7] at H
 have aj := decide_eq_true c7
 clear c7
 obtain ⟨c8, H⟩ := fc_ H
 have aq := decide_eq_true c8
 clear c8
 obtain ⟨c9, H⟩ := fc_ H
 have ar := decide_eq_true c9
 clear c9
 obtain ⟨a8, hy260⟩ : ∃ y_ : List Int, y_ = (a7.set (a5 : Int).toNat a1) := ⟨_, rfl⟩
 replace H : (spec_l01Long.l0 k1 a0 a1 a8 (wrap64 (a5 + 1))) = some r := by first | (rw [hy260]; with_reducible exact H) | (have H2_ := (Option.bind_some _ _).symm.trans H; rw [hy260]; with_reducible exact H2_) | (have H2_ := (Option.bind_some _ _).symm.trans H; with_reducible exact H2_) | with_reducible exact H | (rw [hy260]; exact H) | exact H
 have Ny260 := Aside0.mk hy260
 clear hy260
 have H' := Aside0.mk H
 clear H
 have p10 : 0 ≤ (a5 : Int) := of_decide_eq_true tq_2
 have q10 : (a5 : Int) < ((a7.length : Int) : Int) := of_decide_eq_true tq_2
 obtain ⟨a9, ak, ab, ac, al, au, ae⟩ := Kd.R_form a6.out (by omega)
 (first | cases ab | (injection ab with ea_ en_ ec_; (first | subst ea_ | (injection ea_ with ea_; subst ea_)); subst ec_; clear en_))
 have am := Aside0.mk ac
 have av := Aside0.mk ae
 clear ac al ae
 obtain ⟨an, ao⟩ := Kd.R_celln 0 a6.out (a5 : Int) p10 q10
 replace p10 := eq_true p10
 replace q10 := eq_true q10
 have HP11 := Kd.R_putg a6.out (a5 : Int) a1
 go_wp2_with (first | ((with_reducible refine gate_store (t := 5) (p := 17) rfl ?_); refine store_event (t := 5) (p := 17) (v := ?vo_w12) (w1 := (wr.setCell ⟨a9, (a5 : Int).toNat, none⟩ (.int .u8 a1))) ?hg ?ho ?hn ?hr ?_; (case ho => rfl); (case hg => rfl); (case hn => rfl); (case hr => first | (go_simp; done) | (go_simp; rfl)); intro ap hw; have hg : wr.grownBy ap (some a9) := (by rw [hw]; exact HP11.2); have hp_ : Kd.R (Kd.int .u8) 5 ap w.heap.size (fun _ => True) (.slice (some ⟨a9, 0, none⟩) a7.length ak) a8 := (by rw [hw, Ny260.out]; exact HP11.1); clear HP11; have z_ := p_ (hp_) <| a_ ((by rw [hw]; exact below_set (HB.out) am.out : Below w.heap.size w ap)); clear a6 HB; obtain ⟨a6, HB⟩ := z_; clear hg hw hp_))
 go_roundg k1
 case measure => have := HK1.out; omega
 case rel => exact ⟨(a8), (wrap64 (a5 + 1)), tq_3, H', ⟨tq_22⟩, ⟨(raR_ a6)⟩, ⟨th_⟩⟩

/-! ### spec_ZeroText: function 70 -/
def spec_ZeroText.f (k : Nat) (a0 : Int) : Option (ByteArray) := (spec_l01In.f a0 0 20000).bind fun a5 => (if a5 = true then ((spec_l01Long.f k a0 0).bind fun a6 => (some a6)) else (some (⟨#[]⟩ : ByteArray)))
set_option maxHeartbeats 8000000 in
set_option maxRecDepth 100000 in
theorem spec_ZeroText.calls (k : Nat) (a0 : Int) (r : ByteArray) (w : World) (h : spec_ZeroText.f k a0 = some r) :
  Calls Tryz.prog 70 #[.int .i64 a0] w fun e w' => e = .returned (.string r) ∧ Below w.heap.size w w' := by
 have HB := Aside0.mk (Below.refl w.heap.size w)
 unfold spec_ZeroText.f at h
 have H := h
 clear h
 obtain ⟨a5, A2, H⟩ := bd_ H
 have a7 := Aside0.mk H
 clear H
 go_enter Tryz.func70, Tryz.ntmps70
 go_upto_if 5 with (first | ((with_reducible refine gate_callee (f := 36) rfl ?_); refine goesL_ (some 4) rfl rfl Tryz.func36 (by kernel_rfl) rfl #[.int .i64 a0, .int .i64 0, .int .i64 20000] rfl tq_0 ?_; (with_reducible refine (spec_l01In.calls a0 0 20000 a5 _ A2.out).mono ?_); rintro e w' ⟨rfl, ⟨nd, rfl⟩⟩; refine ⟨_, rfl, ?_⟩))
 (try simp only [Act.put, List.setIfInBounds_toArray, List.set_cons_zero, List.set_cons_succ])
 have H := a7.out
 clear a7
 by_cases c4 : a5 = true
 rotate_left
 ·replace c4 := Bool.eq_false_iff.mpr c4
  subst c4
  rw [if_neg nf_] at H
  obtain rfl := Option.some.inj H
  go_wp2
  go_ret
  exact ⟨tq_1, th_⟩
 subst c4
 rw [if_pos rfl] at H
 obtain ⟨a6, A5, H⟩ := bd_ H
 obtain rfl := Option.some.inj H
 go_wp2_with (first | ((with_reducible refine gate_callee (f := 93) rfl ?_); refine goesL_ (some 7) rfl rfl Tryz.func93 (by kernel_rfl) rfl #[.int .i64 a0, .int .u8 0] rfl tq_0 ?_; (with_reducible refine (spec_l01Long.calls k a0 0 a6 _ A5.out).mono ?_); rintro e w6 ⟨rfl, hb⟩; refine ⟨_, rfl, ?_⟩; have n0_ := Aside0.mk (below_step th_ hb); clear HB; have HB := n0_; clear n0_; (try clear hb)))
 go_ret
 exact ⟨tq_1, th_⟩

/-! ### spec_WordText: function 68 -/
def spec_WordText.f (k : Nat) (a0 : ByteArray) : Option (ByteArray) := if (a0.size : Int) > 8 then (some (⟨#[]⟩ : ByteArray)) else ((spec_ZeroText.f k ((8 - (a0.size : Int)))).bind fun a5 => (if a0.size + a5.size ≤ 9223372036854775807 then (some (a0 ++ a5)) else (none)))
set_option maxHeartbeats 8000000 in
set_option maxRecDepth 100000 in
theorem spec_WordText.calls (k : Nat) (a0 : ByteArray) (r : ByteArray) (w : World) (h : spec_WordText.f k a0 = some r) :
  Calls Tryz.prog 68 #[.string a0] w fun e w' => e = .returned (.string r) ∧ Below w.heap.size w w' := by
 have HB := Aside0.mk (Below.refl w.heap.size w)
 unfold spec_WordText.f at h
 have H := h
 clear h
 by_cases c2 : (a0.size : Int) > 8
 ·rw [if_pos c2] at H
  have a6 := decide_eq_true c2
  have a7 : decide (8 < a0.size) = true := decide_eq_true (by omega)
  clear c2
  obtain rfl := Option.some.inj H
  go_enter Tryz.func68, Tryz.ntmps68
  go_wp2
  go_ret
  exact ⟨tq_1, th_⟩
 rw [if_neg c2] at H
 have a6 := decide_eq_false c2
 have a7 : decide (8 < a0.size) = false := decide_eq_false (by omega)
 clear c2
 obtain ⟨a5, A3, H⟩ := bd_ H
 obtain ⟨c4, H⟩ := fc_ H
 have a8 := eq_true c4
 have a9 := decide_eq_true c4
 try have aa : (9223372036854775807 < a0.size + a5.size) = False := eq_false (Nat.not_lt.2 c4)
 obtain rfl := Option.some.inj H
 go_enter Tryz.func68, Tryz.ntmps68
 go_wp2_with (first | ((with_reducible refine gate_callee (f := 70) rfl ?_); refine goesL_ (some 10) rfl rfl Tryz.func70 (by kernel_rfl) rfl #[.int .i64 ((8 - (a0.size : Int)))] rfl tq_0 ?_; (with_reducible refine (spec_ZeroText.calls k ((8 - (a0.size : Int))) a5 _ A3.out).mono ?_); rintro e w5 ⟨rfl, hb⟩; refine ⟨_, rfl, ?_⟩; have n0_ := Aside0.mk (below_step th_ hb); clear HB; have HB := n0_; clear n0_; (try clear hb)))
 go_ret
 exact ⟨tq_1, th_⟩

/-! ### spec_NameOk: function 92 -/
def spec_NameOk.l0 : Nat → ByteArray → Int → Option (Bool)
 | 0, _, _ => none
 | k + 1, x0, x3 => if x3 < (x0.size : Int) then (if 0 ≤ x3 then ((spec_l01In.f (wrap64 (bt x0 x3)) 97 122).bind fun a5 => (if a5 = true then (spec_NameOk.l0 k x0 (wrap64 (x3 + 1))) else ((spec_l01In.f (wrap64 (bt x0 x3)) 48 57).bind fun a6 => (if a6 = true then (spec_NameOk.l0 k x0 (wrap64 (x3 + 1))) else (some false))))) else (none)) else ((spec_l01In.f (x0.size : Int) 1 7).bind fun a7 => (some a7))
def spec_NameOk.f (k : Nat) (a0 : ByteArray) : Option (Bool) := spec_NameOk.l0 k a0 0
set_option maxHeartbeats 8000000 in
set_option maxRecDepth 100000 in
theorem spec_NameOk.calls (k : Nat) (a0 : ByteArray) (r : Bool) (w : World) (h : spec_NameOk.f k a0 = some r) :
  Calls Tryz.prog 92 #[.string a0] w fun e w' => e = .returned (.bool r) ∧ Drawn0 w w' := by
 unfold spec_NameOk.f at h
 have H := h
 clear h
 have H' := Aside0.mk H
 clear H
 go_enter Tryz.func92, Tryz.ntmps92
 go_wp2
 go_loopg [3] k (fun kq v3 w' => ∃ (a5 : Int), v3 = .int .i64 a5 ∧ Aside0 (spec_NameOk.l0 kq a0 a5 = some r) ∧ Aside0 (kq ≤ k) ∧ Drawn0 w w')
 case atStart => exact ⟨(0), tq_3, H', ⟨Nat.le_refl _⟩, tq_9⟩
 case round =>
 clear H'
 obtain ⟨a5, rfl, HA, HK1, ⟨m1, rfl⟩⟩ := hrel
 cases gk with
 | zero => exact absurd HA.out (by simp [spec_NameOk.l0])
 | succ k1 =>
 have H := HA.out
 clear HA
 simp only [spec_NameOk.l0] at H
 by_cases c2 : a5 < (a0.size : Int)
 rotate_left
 ·rw [if_neg c2] at H
  have a8 := decide_eq_false c2
  clear c2
  obtain ⟨a9, ac, H⟩ := bd_ H
  obtain rfl := Option.some.inj H
  go_wp2_with (first | ((with_reducible refine gate_callee (f := 36) rfl ?_); refine goesL_ (some 26) rfl rfl Tryz.func36 (by kernel_rfl) rfl #[.int .i64 (a0.size : Int), .int .i64 1, .int .i64 7] rfl tq_0 ?_; (with_reducible refine (spec_l01In.calls (a0.size : Int) 1 7 a9 _ ac.out).mono ?_); rintro e w' ⟨rfl, ⟨nd, rfl⟩⟩; refine ⟨_, rfl, ?_⟩))
  go_ret
  exact ⟨tq_3, tq_9⟩
 rw [if_pos c2] at H
 have a8 := decide_eq_true c2
 clear c2
 obtain ⟨c3, H⟩ := fc_ H
 have ae := decide_eq_true c3
 clear c3
 obtain ⟨aa, A5, H⟩ := bd_ H
 by_cases c6 : aa = true
 ·subst c6
  rw [if_pos rfl] at H
  have H' := Aside0.mk H
  clear H
  have p4 : 0 ≤ (a5 : Int) := of_decide_eq_true tq_2
  have q4 : a5 < (a0.size : Int) := of_decide_eq_true tq_2
  have hx4 := bt_at a0 a5
  replace p4 := eq_true p4
  replace q4 := eq_true q4
  go_wp2_with (first | ((with_reducible refine gate_callee (f := 36) rfl ?_); refine goesL_ (some 14) rfl rfl Tryz.func36 (by kernel_rfl) rfl #[.int .i64 (wrap64 (bt a0 a5)), .int .i64 97, .int .i64 122] rfl tq_0 ?_; (with_reducible refine (spec_l01In.calls (wrap64 (bt a0 a5)) 97 122 true _ A5.out).mono ?_); rintro e w' ⟨rfl, ⟨nd, rfl⟩⟩; refine ⟨_, rfl, ?_⟩))
  go_roundg k1
  case measure => have := HK1.out; omega
  case rel => exact ⟨(wrap64 (a5 + 1)), tq_3, H', ⟨tq_22⟩, tq_9⟩
 replace c6 := Bool.eq_false_iff.mpr c6
 subst c6
 rw [if_neg nf_] at H
 obtain ⟨a6, A8, H⟩ := bd_ H
 have ab := Aside0.mk H
 clear H
 have p4 : 0 ≤ (a5 : Int) := of_decide_eq_true tq_2
 have q4 : a5 < (a0.size : Int) := of_decide_eq_true tq_2
 have hx4 := bt_at a0 a5
 replace p4 := eq_true p4
 replace q4 := eq_true q4
 go_upto_if 23 with (first | ((with_reducible refine gate_callee (f := 36) rfl ?_); refine goesL_ (some 14) rfl rfl Tryz.func36 (by kernel_rfl) rfl #[.int .i64 (wrap64 (bt a0 a5)), .int .i64 97, .int .i64 122] rfl tq_0 ?_; (with_reducible refine (spec_l01In.calls (wrap64 (bt a0 a5)) 97 122 false _ A5.out).mono ?_); rintro e w' ⟨rfl, ⟨nd, rfl⟩⟩; refine ⟨_, rfl, ?_⟩; have p7 : 0 ≤ (a5 : Int) := of_decide_eq_true tq_2; have q7 : a5 < (a0.size : Int) := of_decide_eq_true tq_2; have hx7 := bt_at a0 a5; replace p7 := eq_true p7; replace q7 := eq_true q7) | (go_at_call 36; (with_reducible refine (spec_l01In.calls (wrap64 (bt a0 a5)) 48 57 a6 _ A8.out).mono ?_); rintro e w' ⟨rfl, ⟨nd, rfl⟩⟩))
 (try simp only [Act.put, List.setIfInBounds_toArray, List.set_cons_zero, List.set_cons_succ])
 have H := ab.out
 clear ab
 by_cases a7 : a6 = true
 rotate_left
 ·replace a7 := Bool.eq_false_iff.mpr a7
  subst a7
  rw [if_neg nf_] at H
  obtain rfl := Option.some.inj H
  go_wp2
  go_ret
  exact ⟨tq_3, tq_9⟩
 subst a7
 rw [if_pos rfl] at H
 have H' := Aside0.mk H
 clear H
 go_wp2
 go_roundg k1
 case measure => have := HK1.out; omega
 case rel => exact ⟨(wrap64 (a5 + 1)), tq_3, H', ⟨tq_22⟩, tq_9⟩

end Go.Proofs.YtleoknilacjakaaGreat.PFnExactChanged
