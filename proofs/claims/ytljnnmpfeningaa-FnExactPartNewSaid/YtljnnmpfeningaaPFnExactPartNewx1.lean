/- Contracts of Go functions, written by a program of ours over the print of the kit: each says that the call returns what the Lean function beside it computes. Conditions: as each theorem states them. -/
import Derived.Test.YtljnnmpfeningaaPkFnExactPartNew
import Derived.Test.YtljnnmpfeningaaPFnExactPartNewx0
namespace Go.Proofs.Ytljnnmpfeningaa.PFnExactPartNew
open Go.RowKit Go.Proofs.YtljnnmpfeningaaW.PrintWords Go.Proofs.YtljnnmpfeningaaW.PrintLast Go.Proofs.YtljnnmpfeningaaW.PrintMore
attribute [local go_sem] max2_int min2_int max_two min_two max_three min_three max_four min_four   -- for this text's walks alone
set_option linter.unusedVariables false
set_option linter.unusedSimpArgs false

/-! ### laws_toGeo: function 8 -/
def laws_toGeo.f (a0_0 : Int) (a0_1 : Int) (a0_2 : Int) (a0_3 : Int) : Option (Int × Int × Int × Int) := some (a0_0, a0_1, a0_2, a0_3)
set_option maxHeartbeats 8000000 in
set_option maxRecDepth 100000 in
theorem laws_toGeo.calls (a0_0 : Int) (a0_1 : Int) (a0_2 : Int) (a0_3 : Int) (r1 : Int) (r2 : Int) (r3 : Int) (r4 : Int) (w : World) (h : laws_toGeo.f a0_0 a0_1 a0_2 a0_3 = some (r1, r2, r3, r4)) :
  Calls Try.prog 8 #[.agg #[.int .i64 a0_0, .int .i64 a0_1, .int .i64 a0_2, .int .i64 a0_3]] w fun e w' => e = .returned (.agg #[.int .i64 r1, .int .i64 r2, .int .i64 r3, .int .i64 r4]) ∧ Below w.heap.size w w' := by
 have hu23 := Try.underlying23
 have hu30 := Try.underlying30
 have HB := Aside0.mk (Below.refl w.heap.size w)
 unfold laws_toGeo.f at h
 have H := h
 clear h
 simp only [Option.some.injEq, Prod.mk.injEq] at H
 obtain ⟨rfl, rfl, rfl, rfl⟩ := H
 go_enter Try.func8, Try.ntmps8
 go_wp2_with (first | ((with_reducible refine gate_dst (N := 1) rfl ?_); refine be_ 1 (cs := #[.int .i64 a0_0, .int .i64 a0_1, .int .i64 a0_2, .int .i64 a0_3]) 23 ?_; intro gb101 hg w2 hbox hb; have z_ := bx0_ th_ hb hbox hg; clear HB; obtain ⟨HB, BK101, GW101, GE101⟩ := z_; clear hb hbox hg) | ((with_reducible refine gate_dst (N := 2) rfl ?_); refine be_ 2 (cs := #[.int .i64 0, .int .i64 0, .int .i64 0, .int .i64 0]) 30 ?_; intro gb102 hg w3 hbox hb; have z_ := bx1_ (kb_ BK101) th_ hb hbox hg; clear BK101 HB; obtain ⟨BK101, HB, BK102, GW102, GE102, NB101_102, NB102_101⟩ := z_; clear hb hbox hg) | ((with_reducible refine gate_dst (N := 3) rfl ?_); refine be_ 3 (cs := #[.int .i64 0, .int .i64 0, .int .i64 0, .int .i64 0]) 30 ?_; intro gb103 hg w4 hbox hb; have z_ := bx2_ (kb_ BK101) (kb_ BK102) th_ hb hbox hg; clear BK101 BK102 HB; obtain ⟨BK101, BK102, HB, BK103, GW103, GE103, NB101_103, NB103_101, NB102_103, NB103_102⟩ := z_; clear hb hbox hg; obtain ⟨n101_102, n102_101, n101_103, n103_101⟩ := an4_ NB101_102 NB102_101 NB101_103 NB103_101; obtain ⟨hcz7_0, hcz7_1, hcz7_2, hcz7_3⟩ := bk4_ BK101.out; obtain ⟨hfz7_0, hfz7_1, hfz7_2, hfz7_3⟩ := bf4_ BK101.out; obtain ⟨hnb8, hnc8⟩ := an2_ NB103_102 NB102_103; obtain ⟨hcz9_0, hcz9_1, hcz9_2, hcz9_3⟩ := bk4_ BK103.out; obtain ⟨hfz9_0, hfz9_1, hfz9_2, hfz9_3⟩ := bf4_ BK103.out; obtain ⟨hcz10_0, hcz10_1, hcz10_2, hcz10_3⟩ := bk4_ BK102.out; obtain ⟨hfz10_0, hfz10_1, hfz10_2, hfz10_3⟩ := bf4_ BK102.out))
 refine bodyPost_ret (results_cell_row rfl _ _ gb102 30 #[.int .i64 a0_0, .int .i64 a0_1, .int .i64 a0_2, .int .i64 a0_3] (0, 0) _ rfl tb_ Try.underlying30 rfl (by kernel_rfl)) rfl ?_
 exact ⟨tq_2, th_⟩

/-! ### laws_eqIntS: function 45 -/
def laws_eqIntS.l0 : Nat → List Int → List Int → Int → Option (Bool)
 | 0, _, _, _ => none
 | k + 1, x0, x1, x5 => if x5 < (x0.length : Int) then (if 0 ≤ x5 then (if x5 < (x1.length : Int) then (if (rd x0 x5) = (rd x1 x5) then (laws_eqIntS.l0 k x0 x1 (wrap64 (x5 + 1))) else (some false)) else (none)) else (none)) else (some true)
def laws_eqIntS.f (k : Nat) (l0 : List Int) (l1 : List Int) : Option (Bool) := if (l0.length : Int) = (l1.length : Int) then (laws_eqIntS.l0 k l0 l1 0) else (some false)
theorem laws_eqIntS.mono_l : ∀ k, (∀ y0 y1 y2, LeO (laws_eqIntS.l0 k y0 y1 y2) (laws_eqIntS.l0 (k + 1) y0 y1 y2))
 | 0 => fun _ _ _ r h => by simp [laws_eqIntS.l0] at h
 | k + 1 => by
  have ih0 := laws_eqIntS.mono_l k
  ·intro y0 y1 y2
   unfold laws_eqIntS.l0
   exact mo_0
theorem laws_eqIntS.mono : ∀ a0 a1 k, LeO (laws_eqIntS.f k a0 a1) (laws_eqIntS.f (k + 1) a0 a1) := by
 intro a0 a1 k
 have ih0 := laws_eqIntS.mono_l k
 unfold laws_eqIntS.f
 repeat' first
   | (with_reducible exact ih0 ..)
   | (with_reducible exact LeO.refl _)
   | (with_reducible exact LeO.none _)
   | (with_reducible refine LeO.ite ?_ ?_)
   | (with_reducible refine LeO.bind ?_ (fun _ => ?_))
   | exact ih0 ..
   | exact LeO.none _
   | refine LeO.ite ?_ ?_
   | refine LeO.bind ?_ (fun _ => ?_)
set_option maxHeartbeats 8000000 in
set_option maxRecDepth 100000 in
theorem laws_eqIntS.calls (k : Nat) (A0 : Option Addr) (c0 : Nat) (l0 : List Int) (A1 : Option Addr) (c1 : Nat) (l1 : List Int) (r : Bool) (w : World) (hr0 : Kd.C (Kd.int .i64) w A0 l0.length l0) (hc0 : l0.length ≤ c0) (hr1 : Kd.C (Kd.int .i64) w A1 l1.length l1) (hc1 : l1.length ≤ c1) (h : laws_eqIntS.f k l0 l1 = some r) :
  Calls Try.prog 45 #[.slice A0 l0.length c0, .slice A1 l1.length c1] w fun e w' => e = .returned (.bool r) ∧ Drawn0 w w' := by
 have HR0 := Aside0.mk hr0
 have HC0 := Aside0.mk hc0
 clear hr0 hc0
 have HR1 := Aside0.mk hr1
 have HC1 := Aside0.mk hc1
 clear hr1 hc1
 unfold laws_eqIntS.f at h
 have H := h
 clear h
 by_cases c3 : (l0.length : Int) = (l1.length : Int)
 rotate_left
 ·rw [if_neg c3] at H
  have c3b0 := beq_eq_false_iff_ne.mpr c3
  have c3b1 := bne_iff_ne.mpr c3
  have c3b2 : (l0.length == l1.length) = false := by first | simpa using c3 | (simp at c3 ⊢; omega)
  obtain rfl := Option.some.inj H
  go_enter Try.func45, Try.ntmps45
  go_wp2
  repeat (go_quiet (fail); try go_wp2)
  go_ret
  exact ⟨tq_13, tq_29⟩
 rw [if_pos c3] at H
 have c3b0 := beq_iff_eq.mpr c3
 have c3b1 := bne_eq_false_iff_eq.mpr c3
 have c3b2 : (l0.length == l1.length) = true := by first | simpa using c3 | (simp at c3 ⊢; omega)
 clear c3
 have H' := Aside0.mk H
 clear H
 go_enter Try.func45, Try.ntmps45
 go_wp2
 repeat (go_quiet (fail); try go_wp2)
 go_loopg [5] k (fun kq v5 w' => ∃ (x5_1 : Int), v5 = .int .i64 x5_1 ∧ Aside0 (laws_eqIntS.l0 kq l0 l1 x5_1 = some r) ∧ Aside0 (kq ≤ k) ∧ Drawn0 w w')
 case atStart => exact ⟨(0), tq_13, H', ⟨Nat.le_refl _⟩, tq_29⟩
 case round =>
 clear H'
 try clear c1; try clear p2; try clear c3; try clear c3b0; try clear c3b1; try clear c3b2
 obtain ⟨x5_1, rfl, HA, HK1, ⟨m1, rfl⟩⟩ := hrel
 cases gk with
 | zero => exact absurd HA.out (by simp [laws_eqIntS.l0])
 | succ k1 =>
 have H := HA.out
 clear HA
 simp only [laws_eqIntS.l0] at H
 by_cases c4 : x5_1 < (l0.length : Int)
 rotate_left
 ·rw [if_neg c4] at H
  have c4b0 := decide_eq_false c4
  clear c4
  obtain rfl := Option.some.inj H
  go_wp2
  repeat (go_quiet (fail); try go_wp2)
  go_ret
  exact ⟨tq_13, tq_29⟩
 rw [if_pos c4] at H
 have c4b0 := decide_eq_true c4
 clear c4
 obtain ⟨c5, H⟩ := fc_ H
 have c5b0 := decide_eq_true c5
 clear c5
 obtain ⟨c6, H⟩ := fc_ H
 have c6b0 := decide_eq_true c6
 clear c6
 by_cases c7 : (rd l0 x5_1) = (rd l1 x5_1)
 rotate_left
 ·rw [if_neg c7] at H
  have c7b0 := beq_eq_false_iff_ne.mpr c7
  have c7b1 := bne_iff_ne.mpr c7
  obtain rfl := Option.some.inj H
  have p104 : 0 ≤ (x5_1 : Int) := of_decide_eq_true tq_1
  have q104 : x5_1 < (l0.length : Int) := of_decide_eq_true tq_1
  obtain ⟨ad104, e104, hx104_0⟩ := Kd.at_int HR0.out x5_1 p104 q104
  cases e104
  replace p104 := eq_true p104
  replace q104 := eq_true q104
  have p105 : 0 ≤ (x5_1 : Int) := of_decide_eq_true tq_1
  have q105 : x5_1 < (l1.length : Int) := of_decide_eq_true tq_1
  obtain ⟨ad105, e105, hx105_0⟩ := Kd.at_int HR1.out x5_1 p105 q105
  cases e105
  replace p105 := eq_true p105
  replace q105 := eq_true q105
  go_wp2
  repeat (go_quiet (fail); try go_wp2)
  go_ret
  exact ⟨tq_13, tq_29⟩
 rw [if_pos c7] at H
 have c7b0 := beq_iff_eq.mpr c7
 have c7b1 := bne_eq_false_iff_eq.mpr c7
 clear c7
 have H' := Aside0.mk H
 clear H
 have p104 : 0 ≤ (x5_1 : Int) := of_decide_eq_true tq_1
 have q104 : x5_1 < (l0.length : Int) := of_decide_eq_true tq_1
 obtain ⟨ad104, e104, hx104_0⟩ := Kd.at_int HR0.out x5_1 p104 q104
 cases e104
 replace p104 := eq_true p104
 replace q104 := eq_true q104
 have p105 : 0 ≤ (x5_1 : Int) := of_decide_eq_true tq_1
 have q105 : x5_1 < (l1.length : Int) := of_decide_eq_true tq_1
 obtain ⟨ad105, e105, hx105_0⟩ := Kd.at_int HR1.out x5_1 p105 q105
 cases e105
 replace p105 := eq_true p105
 replace q105 := eq_true q105
 go_wp2
 repeat (go_quiet (fail); try go_wp2)
 go_roundg k1
 case measure => have := HK1.out; omega
 case rel => exact ⟨(wrap64 (x5_1 + 1)), tq_13, H', ⟨tq_40⟩, tq_29⟩

/-! ### laws_eqRec: function 121 -/
def laws_eqRec.f (a0_0 : Int) (a0_1 : Int) (a0_2 : ByteArray) (a1_0 : Int) (a1_1 : Int) (a1_2 : ByteArray) : Option (Bool) := if a0_0 = a1_0 then (if a0_1 = a1_1 then (if a0_2.toList = a1_2.toList then (some true) else (some false)) else (some false)) else (some false)
set_option maxHeartbeats 8000000 in
set_option maxRecDepth 100000 in
theorem laws_eqRec.calls (a0_0 : Int) (a0_1 : Int) (a0_2 : ByteArray) (a1_0 : Int) (a1_1 : Int) (a1_2 : ByteArray) (r : Bool) (w : World) (h : laws_eqRec.f a0_0 a0_1 a0_2 a1_0 a1_1 a1_2 = some r) :
  Calls Try.prog 121 #[.agg #[.int .i64 a0_0, .int .i64 a0_1, .string a0_2], .agg #[.int .i64 a1_0, .int .i64 a1_1, .string a1_2]] w fun e w' => e = .returned (.bool r) ∧ Below w.heap.size w w' := by
 have hu96 := Try.underlying96
 have HB := Aside0.mk (Below.refl w.heap.size w)
 unfold laws_eqRec.f at h
 have H := h
 clear h
 by_cases c3 : a0_0 = a1_0
 rotate_left
 ·rw [if_neg c3] at H
  have c3b0 := beq_eq_false_iff_ne.mpr c3
  have c3b1 := bne_iff_ne.mpr c3
  obtain rfl := Option.some.inj H
  go_enter Try.func121, Try.ntmps121
  go_wp2_with (first | ((with_reducible refine gate_dst (N := 2) rfl ?_); refine be_ 2 (cs := #[.int .i64 a0_0, .int .i64 a0_1, .string a0_2]) 96 ?_; intro gb106 hg w21 hbox hb; have z_ := bx0_ th_ hb hbox hg; clear HB; obtain ⟨HB, BK106, GW106, GE106⟩ := z_; clear hb hbox hg) | ((with_reducible refine gate_dst (N := 3) rfl ?_); refine be_ 3 (cs := #[.int .i64 a1_0, .int .i64 a1_1, .string a1_2]) 96 ?_; intro gb107 hg w22 hbox hb; have z_ := bx1_ (kb_ BK106) th_ hb hbox hg; clear BK106 HB; obtain ⟨BK106, HB, BK107, GW107, GE107, NB106_107, NB107_106⟩ := z_; clear hb hbox hg; obtain ⟨n106_107, n107_106⟩ := an2_ NB106_107 NB107_106; obtain ⟨hcz24_0, hcz24_1, hcz24_2⟩ := bk3_ BK106.out; obtain ⟨hfz24_0, hfz24_1, hfz24_2⟩ := bf3_ BK106.out; obtain ⟨hcz25_0, hcz25_1, hcz25_2⟩ := bk3_ BK107.out; obtain ⟨hfz25_0, hfz25_1, hfz25_2⟩ := bf3_ BK107.out))
  go_ret
  exact ⟨tq_2, th_⟩
 rw [if_pos c3] at H
 have c3b0 := beq_iff_eq.mpr c3
 have c3b1 := bne_eq_false_iff_eq.mpr c3
 clear c3
 by_cases c4 : a0_1 = a1_1
 rotate_left
 ·rw [if_neg c4] at H
  have c4b0 := beq_eq_false_iff_ne.mpr c4
  have c4b1 := bne_iff_ne.mpr c4
  obtain rfl := Option.some.inj H
  go_enter Try.func121, Try.ntmps121
  go_wp2_with (first | ((with_reducible refine gate_dst (N := 2) rfl ?_); refine be_ 2 (cs := #[.int .i64 a0_0, .int .i64 a0_1, .string a0_2]) 96 ?_; intro gb106 hg w16 hbox hb; have z_ := bx0_ th_ hb hbox hg; clear HB; obtain ⟨HB, BK106, GW106, GE106⟩ := z_; clear hb hbox hg) | ((with_reducible refine gate_dst (N := 3) rfl ?_); refine be_ 3 (cs := #[.int .i64 a1_0, .int .i64 a1_1, .string a1_2]) 96 ?_; intro gb107 hg w17 hbox hb; have z_ := bx1_ (kb_ BK106) th_ hb hbox hg; clear BK106 HB; obtain ⟨BK106, HB, BK107, GW107, GE107, NB106_107, NB107_106⟩ := z_; clear hb hbox hg; obtain ⟨n106_107, n107_106⟩ := an2_ NB106_107 NB107_106; obtain ⟨hcz19_0, hcz19_1, hcz19_2⟩ := bk3_ BK106.out; obtain ⟨hfz19_0, hfz19_1, hfz19_2⟩ := bf3_ BK106.out; obtain ⟨hcz20_0, hcz20_1, hcz20_2⟩ := bk3_ BK107.out; obtain ⟨hfz20_0, hfz20_1, hfz20_2⟩ := bf3_ BK107.out))
  go_ret
  exact ⟨tq_2, th_⟩
 rw [if_pos c4] at H
 have c4b0 := beq_iff_eq.mpr c4
 have c4b1 := bne_eq_false_iff_eq.mpr c4
 clear c4
 by_cases c5 : a0_2.toList = a1_2.toList
 ·rw [if_pos c5] at H
  have c5b0 := beq_iff_eq.mpr c5
  have c5b1 := bne_eq_false_iff_eq.mpr c5
  clear c5
  obtain rfl := Option.some.inj H
  go_enter Try.func121, Try.ntmps121
  go_wp2_with (first | ((with_reducible refine gate_dst (N := 2) rfl ?_); refine be_ 2 (cs := #[.int .i64 a0_0, .int .i64 a0_1, .string a0_2]) 96 ?_; intro gb106 hg w6 hbox hb; have z_ := bx0_ th_ hb hbox hg; clear HB; obtain ⟨HB, BK106, GW106, GE106⟩ := z_; clear hb hbox hg) | ((with_reducible refine gate_dst (N := 3) rfl ?_); refine be_ 3 (cs := #[.int .i64 a1_0, .int .i64 a1_1, .string a1_2]) 96 ?_; intro gb107 hg w7 hbox hb; have z_ := bx1_ (kb_ BK106) th_ hb hbox hg; clear BK106 HB; obtain ⟨BK106, HB, BK107, GW107, GE107, NB106_107, NB107_106⟩ := z_; clear hb hbox hg; obtain ⟨hnb8, hnc8⟩ := an2_ NB106_107 NB107_106; obtain ⟨hcz9_0, hcz9_1, hcz9_2⟩ := bk3_ BK106.out; obtain ⟨hfz9_0, hfz9_1, hfz9_2⟩ := bf3_ BK106.out; obtain ⟨hcz10_0, hcz10_1, hcz10_2⟩ := bk3_ BK107.out; obtain ⟨hfz10_0, hfz10_1, hfz10_2⟩ := bf3_ BK107.out))
  go_ret
  exact ⟨tq_2, th_⟩
 rw [if_neg c5] at H
 have c5b0 := beq_eq_false_iff_ne.mpr c5
 have c5b1 := bne_iff_ne.mpr c5
 obtain rfl := Option.some.inj H
 go_enter Try.func121, Try.ntmps121
 go_wp2_with (first | ((with_reducible refine gate_dst (N := 2) rfl ?_); refine be_ 2 (cs := #[.int .i64 a0_0, .int .i64 a0_1, .string a0_2]) 96 ?_; intro gb106 hg w11 hbox hb; have z_ := bx0_ th_ hb hbox hg; clear HB; obtain ⟨HB, BK106, GW106, GE106⟩ := z_; clear hb hbox hg) | ((with_reducible refine gate_dst (N := 3) rfl ?_); refine be_ 3 (cs := #[.int .i64 a1_0, .int .i64 a1_1, .string a1_2]) 96 ?_; intro gb107 hg w12 hbox hb; have z_ := bx1_ (kb_ BK106) th_ hb hbox hg; clear BK106 HB; obtain ⟨BK106, HB, BK107, GW107, GE107, NB106_107, NB107_106⟩ := z_; clear hb hbox hg; obtain ⟨n106_107, n107_106⟩ := an2_ NB106_107 NB107_106; obtain ⟨hcz14_0, hcz14_1, hcz14_2⟩ := bk3_ BK106.out; obtain ⟨hfz14_0, hfz14_1, hfz14_2⟩ := bf3_ BK106.out; obtain ⟨hcz15_0, hcz15_1, hcz15_2⟩ := bk3_ BK107.out; obtain ⟨hfz15_0, hfz15_1, hfz15_2⟩ := bf3_ BK107.out))
 go_ret
 exact ⟨tq_2, th_⟩

/-! ### laws_eqRecS: function 105 -/
def laws_eqRecS.l0 : Nat → List (S96) → List (S96) → Int → Option (Bool)
 | 0, _, _, _ => none
 | k + 1, x0, x1, x5 => if x5 < (x0.length : Int) then (if 0 ≤ x5 then (if x5 < (x1.length : Int) then ((laws_eqRec.f ((rd_T96 x0 x5).f0) ((rd_T96 x0 x5).f1) ((rd_T96 x0 x5).f2) ((rd_T96 x1 x5).f0) ((rd_T96 x1 x5).f1) ((rd_T96 x1 x5).f2)).bind fun t110 => (if t110 = true then (laws_eqRecS.l0 k x0 x1 (wrap64 (x5 + 1))) else (some false))) else (none)) else (none)) else (some true)
def laws_eqRecS.f (k : Nat) (l0 : List (S96)) (l1 : List (S96)) : Option (Bool) := if (l0.length : Int) = (l1.length : Int) then (laws_eqRecS.l0 k l0 l1 0) else (some false)
theorem laws_eqRecS.mono_l : ∀ k, (∀ y0 y1 y2, LeO (laws_eqRecS.l0 k y0 y1 y2) (laws_eqRecS.l0 (k + 1) y0 y1 y2))
 | 0 => fun _ _ _ r h => by simp [laws_eqRecS.l0] at h
 | k + 1 => by
  have ih0 := laws_eqRecS.mono_l k
  ·intro y0 y1 y2
   unfold laws_eqRecS.l0
   exact mo_0
theorem laws_eqRecS.mono : ∀ a0 a1 k, LeO (laws_eqRecS.f k a0 a1) (laws_eqRecS.f (k + 1) a0 a1) := by
 intro a0 a1 k
 have ih0 := laws_eqRecS.mono_l k
 unfold laws_eqRecS.f
 repeat' first
   | (with_reducible exact ih0 ..)
   | (with_reducible exact LeO.refl _)
   | (with_reducible exact LeO.none _)
   | (with_reducible refine LeO.ite ?_ ?_)
   | (with_reducible refine LeO.bind ?_ (fun _ => ?_))
   | exact ih0 ..
   | exact LeO.none _
   | refine LeO.ite ?_ ?_
   | refine LeO.bind ?_ (fun _ => ?_)
def laws_eqRecS.T6 : Bool × List (List Nat × List Nat) := (true, [([], []), ([], []), ([0, 1], [0, 1]), ([2], [2]), ([], []), ([], []), ([4, 5], [4, 5]), ([6], [6]), ([3, 7], [3, 7]), ([8], [8])])
def laws_eqRecS.B6 : List Nat := [0, 0, 3, 7, 0, 0, 48, 112, 255, 511]
theorem laws_eqRecS.tab6 : rtab .any (opsOf Try.f105 6) = laws_eqRecS.T6 := by kernel_rfl
theorem laws_eqRecS.bits6 : waitsOk laws_eqRecS.T6.2 laws_eqRecS.B6 = true := by kernel_rfl
set_option maxHeartbeats 8000000 in
set_option maxRecDepth 100000 in
theorem laws_eqRecS.calls (k : Nat) (A0 : Option Addr) (c0 : Nat) (l0 : List (S96)) (A1 : Option Addr) (c1 : Nat) (l1 : List (S96)) (r : Bool) (w : World) (hr0 : Kd.C k96 w A0 l0.length l0) (hc0 : l0.length ≤ c0) (hr1 : Kd.C k96 w A1 l1.length l1) (hc1 : l1.length ≤ c1) (h : laws_eqRecS.f k l0 l1 = some r) :
  Calls Try.prog 105 #[.slice A0 l0.length c0, .slice A1 l1.length c1] w fun e w' => e = .returned (.bool r) ∧ Below w.heap.size w w' := by
 have hu96 := Try.underlying96
 have HR0 := Aside0.mk hr0
 have HC0 := Aside0.mk hc0
 clear hr0 hc0
 have HR1 := Aside0.mk hr1
 have HC1 := Aside0.mk hc1
 clear hr1 hc1
 have HB := Aside0.mk (Below.refl w.heap.size w)
 unfold laws_eqRecS.f at h
 have H := h
 clear h
 by_cases c3 : (l0.length : Int) = (l1.length : Int)
 rotate_left
 ·rw [if_neg c3] at H
  have c3b0 := beq_eq_false_iff_ne.mpr c3
  have c3b1 := bne_iff_ne.mpr c3
  have c3b2 : (l0.length == l1.length) = false := by first | simpa using c3 | (simp at c3 ⊢; omega)
  obtain rfl := Option.some.inj H
  go_enter Try.func105, Try.ntmps105
  go_wp2
  go_ret
  exact ⟨tq_2, th_⟩
 rw [if_pos c3] at H
 have c3b0 := beq_iff_eq.mpr c3
 have c3b1 := bne_eq_false_iff_eq.mpr c3
 have c3b2 : (l0.length == l1.length) = true := by first | simpa using c3 | (simp at c3 ⊢; omega)
 clear c3
 have H' := Aside0.mk H
 clear H
 go_enter Try.func105, Try.ntmps105
 go_wp2
 go_loopg [5] k (fun kq v5 w' => ∃ (x5_1 : Int), v5 = .int .i64 x5_1 ∧ Aside0 (laws_eqRecS.l0 kq l0 l1 x5_1 = some r) ∧ Aside0 (kq ≤ k) ∧ Aside0 (Below w.heap.size w w'))
 case atStart => exact ⟨(0), tq_13, H', ⟨Nat.le_refl _⟩, ⟨th_⟩⟩
 case round =>
 clear H'
 try clear c1; try clear p2; try clear c3; try clear c3b0; try clear c3b1; try clear c3b2
 obtain ⟨x5_1, rfl, HA, HK1, HB⟩ := hrel
 cases gk with
 | zero => exact absurd HA.out (by simp [laws_eqRecS.l0])
 | succ k1 =>
 have H := HA.out
 clear HA
 simp only [laws_eqRecS.l0] at H
 by_cases c4 : x5_1 < (l0.length : Int)
 rotate_left
 ·rw [if_neg c4] at H
  have c4b0 := decide_eq_false c4
  clear c4
  obtain rfl := Option.some.inj H
  go_wp2
  go_ret
  exact ⟨tq_2, th_⟩
 rw [if_pos c4] at H
 have c4b0 := decide_eq_true c4
 clear c4
 obtain ⟨c5, H⟩ := fc_ H
 have c5b0 := decide_eq_true c5
 clear c5
 obtain ⟨c6, H⟩ := fc_ H
 have c6b0 := decide_eq_true c6
 clear c6
 obtain ⟨t110, A7, H⟩ := bd_ H
 by_cases c8 : t110 = true
 rotate_left
 ·replace c8 := Bool.eq_false_iff.mpr c8
  subst c8
  rw [if_neg nf_] at H
  obtain rfl := Option.some.inj H
  try go_wp2
  have n0_ := Aside0.mk (below_drew1 HB.out)
  clear HB
  have HB := n0_
  clear n0_
  have p108 : 0 ≤ (x5_1 : Int) := of_decide_eq_true tq_1
  have q108 : x5_1 < (l0.length : Int) := of_decide_eq_true tq_1
  obtain ⟨ad108, e108, hx108_0, hx108_1, hx108_2⟩ := at_T96 HR0.out x5_1 p108 q108
  have hw108_2 := hx108_2
  have hw108_1 := hx108_1
  have hw108_0 := hx108_0
  cases e108
  replace hx108_0 := hx_ HB.out hx108_0
  replace hx108_1 := hx_ HB.out hx108_1
  replace hx108_2 := hx_ HB.out hx108_2
  replace p108 := eq_true p108
  replace q108 := eq_true q108
  have p109 : 0 ≤ (x5_1 : Int) := of_decide_eq_true tq_1
  have q109 : x5_1 < (l1.length : Int) := of_decide_eq_true tq_1
  obtain ⟨ad109, e109, hx109_0, hx109_1, hx109_2⟩ := at_T96 HR1.out x5_1 p109 q109
  have hw109_2 := hx109_2
  have hw109_1 := hx109_1
  have hw109_0 := hx109_0
  cases e109
  replace hx109_0 := hx_ HB.out hx109_0
  replace hx109_1 := hx_ HB.out hx109_1
  replace hx109_2 := hx_ HB.out hx109_2
  replace p109 := eq_true p109
  replace q109 := eq_true q109
  refine start_ (n := 10) (S := fun w' => w'.cell? (ad108.add ((x5_1).toNat * 3)) = some (.int .i64 ((rd_T96 l0 x5_1).f0)) ∧ w'.cell? ⟨(ad108.add ((x5_1).toNat * 3)).block, (ad108.add ((x5_1).toNat * 3)).off + 1, none⟩ = some (.int .i64 ((rd_T96 l0 x5_1).f1)) ∧ w'.cell? ⟨(ad108.add ((x5_1).toNat * 3)).block, (ad108.add ((x5_1).toNat * 3)).off + 2, none⟩ = some (.string ((rd_T96 l0 x5_1).f2)) ∧ w'.cell? (ad109.add ((x5_1).toNat * 3)) = some (.int .i64 ((rd_T96 l1 x5_1).f0)) ∧ w'.cell? ⟨(ad109.add ((x5_1).toNat * 3)).block, (ad109.add ((x5_1).toNat * 3)).off + 1, none⟩ = some (.int .i64 ((rd_T96 l1 x5_1).f1)) ∧ w'.cell? ⟨(ad109.add ((x5_1).toNat * 3)).block, (ad109.add ((x5_1).toNat * 3)).off + 2, none⟩ = some (.string ((rd_T96 l1 x5_1).f2))) (ds := []) bq_10 (by kernel_rfl) rfl rfl ⟨((HB.out.cell (World.block_lt_of_cell? w _ hw108_0)).trans hw108_0), ((HB.out.cell (World.block_lt_of_cell? w _ hw108_1)).trans hw108_1), ((HB.out.cell (World.block_lt_of_cell? w _ hw108_2)).trans hw108_2), ((HB.out.cell (World.block_lt_of_cell? w _ hw109_0)).trans hw109_0), ((HB.out.cell (World.block_lt_of_cell? w _ hw109_1)).trans hw109_1), ((HB.out.cell (World.block_lt_of_cell? w _ hw109_2)).trans hw109_2)⟩ (fun hHeld => ?_); refine with_tabW laws_eqRecS.tab6 laws_eqRecS.bits6 (fun HT_ HW_ => ?_)
  generalize wr.drew = w11 at HB hx108_0 hx108_1 hx108_2 hx109_0 hx109_1 hx109_2 hHeld ⊢
  refine yr_ 0 17 bq_11 HT_ ?_
  refine yr_ 1 18 bq_12 HT_ ?_
  refine yr_ 2 19 bq_13 HT_ ?_
  refine yr_ 4 21 bq_14 HT_ ?_
  refine yr_ 5 22 bq_15 HT_ ?_
  refine yr_ 6 23 bq_16 HT_ ?_
  refine tr_ 3 20 bq_17 HT_ HW_ hHeld ?_
  refine tr_ 7 24 bq_18 HT_ HW_ hHeld ?_
  refine one_ (i := 8) (N := some 25) bq_19 rfl rfl (one_of HT_.out (by kernel_rfl)) (by decide) (fun K hK => ?_)
  refine goes_ Try.func121 (by kernel_rfl) rfl #[.agg #[.int .i64 ((rd_T96 l0 x5_1).f0), .int .i64 ((rd_T96 l0 x5_1).f1), .string ((rd_T96 l0 x5_1).f2)], .agg #[.int .i64 ((rd_T96 l1 x5_1).f0), .int .i64 ((rd_T96 l1 x5_1).f1), .string ((rd_T96 l1 x5_1).f2)]] (by rfl) rfl rfl tq_0 ?_
  with_reducible refine (laws_eqRec.calls ((rd_T96 l0 x5_1).f0) ((rd_T96 l0 x5_1).f1) ((rd_T96 l0 x5_1).f2) ((rd_T96 l1 x5_1).f0) ((rd_T96 l1 x5_1).f1) ((rd_T96 l1 x5_1).f2) false _ A7.out).mono ?_
  rintro e w12 ⟨rfl, hb⟩
  refine ⟨_, rfl, ?_⟩
  have n0_ := Aside0.mk (below_step th_ hb)
  clear HB
  have HB := n0_
  clear n0_
  (try clear hb)
  refine hK.out _ _ ⟨((HB.out.cell (World.block_lt_of_cell? w _ hw108_0)).trans hw108_0), ((HB.out.cell (World.block_lt_of_cell? w _ hw108_1)).trans hw108_1), ((HB.out.cell (World.block_lt_of_cell? w _ hw108_2)).trans hw108_2), ((HB.out.cell (World.block_lt_of_cell? w _ hw109_0)).trans hw109_0), ((HB.out.cell (World.block_lt_of_cell? w _ hw109_1)).trans hw109_1), ((HB.out.cell (World.block_lt_of_cell? w _ hw109_2)).trans hw109_2)⟩ (fun hHeld => ?_)
  clear hK K
  refine nm_ (some 25) ?_
  refine yr_ 9 26 bq_20 HT_ ?_
  refine done_ (done_of HT_.out (by kernel_rfl)) ?_
  try go_wp2
  go_ret
  exact ⟨tq_2, th_⟩
 subst c8
 rw [if_pos rfl] at H
 have H' := Aside0.mk H
 clear H
 try go_wp2
 have n0_ := Aside0.mk (below_drew1 HB.out)
 clear HB
 have HB := n0_
 clear n0_
 have p108 : 0 ≤ (x5_1 : Int) := of_decide_eq_true tq_1
 have q108 : x5_1 < (l0.length : Int) := of_decide_eq_true tq_1
 obtain ⟨ad108, e108, hx108_0, hx108_1, hx108_2⟩ := at_T96 HR0.out x5_1 p108 q108
 have hw108_2 := hx108_2
 have hw108_1 := hx108_1
 have hw108_0 := hx108_0
 cases e108
 replace hx108_0 := hx_ HB.out hx108_0
 replace hx108_1 := hx_ HB.out hx108_1
 replace hx108_2 := hx_ HB.out hx108_2
 replace p108 := eq_true p108
 replace q108 := eq_true q108
 have p109 : 0 ≤ (x5_1 : Int) := of_decide_eq_true tq_1
 have q109 : x5_1 < (l1.length : Int) := of_decide_eq_true tq_1
 obtain ⟨ad109, e109, hx109_0, hx109_1, hx109_2⟩ := at_T96 HR1.out x5_1 p109 q109
 have hw109_2 := hx109_2
 have hw109_1 := hx109_1
 have hw109_0 := hx109_0
 cases e109
 replace hx109_0 := hx_ HB.out hx109_0
 replace hx109_1 := hx_ HB.out hx109_1
 replace hx109_2 := hx_ HB.out hx109_2
 replace p109 := eq_true p109
 replace q109 := eq_true q109
 refine start_ (n := 10) (S := fun w' => w'.cell? (ad108.add ((x5_1).toNat * 3)) = some (.int .i64 ((rd_T96 l0 x5_1).f0)) ∧ w'.cell? ⟨(ad108.add ((x5_1).toNat * 3)).block, (ad108.add ((x5_1).toNat * 3)).off + 1, none⟩ = some (.int .i64 ((rd_T96 l0 x5_1).f1)) ∧ w'.cell? ⟨(ad108.add ((x5_1).toNat * 3)).block, (ad108.add ((x5_1).toNat * 3)).off + 2, none⟩ = some (.string ((rd_T96 l0 x5_1).f2)) ∧ w'.cell? (ad109.add ((x5_1).toNat * 3)) = some (.int .i64 ((rd_T96 l1 x5_1).f0)) ∧ w'.cell? ⟨(ad109.add ((x5_1).toNat * 3)).block, (ad109.add ((x5_1).toNat * 3)).off + 1, none⟩ = some (.int .i64 ((rd_T96 l1 x5_1).f1)) ∧ w'.cell? ⟨(ad109.add ((x5_1).toNat * 3)).block, (ad109.add ((x5_1).toNat * 3)).off + 2, none⟩ = some (.string ((rd_T96 l1 x5_1).f2))) (ds := []) bq_10 (by kernel_rfl) rfl rfl ⟨((HB.out.cell (World.block_lt_of_cell? w _ hw108_0)).trans hw108_0), ((HB.out.cell (World.block_lt_of_cell? w _ hw108_1)).trans hw108_1), ((HB.out.cell (World.block_lt_of_cell? w _ hw108_2)).trans hw108_2), ((HB.out.cell (World.block_lt_of_cell? w _ hw109_0)).trans hw109_0), ((HB.out.cell (World.block_lt_of_cell? w _ hw109_1)).trans hw109_1), ((HB.out.cell (World.block_lt_of_cell? w _ hw109_2)).trans hw109_2)⟩ (fun hHeld => ?_); refine with_tabW laws_eqRecS.tab6 laws_eqRecS.bits6 (fun HT_ HW_ => ?_)
 generalize wr.drew = w9 at HB hx108_0 hx108_1 hx108_2 hx109_0 hx109_1 hx109_2 hHeld ⊢
 refine yr_ 0 17 bq_11 HT_ ?_
 refine yr_ 1 18 bq_12 HT_ ?_
 refine yr_ 2 19 bq_13 HT_ ?_
 refine yr_ 4 21 bq_14 HT_ ?_
 refine yr_ 5 22 bq_15 HT_ ?_
 refine yr_ 6 23 bq_16 HT_ ?_
 refine tr_ 3 20 bq_17 HT_ HW_ hHeld ?_
 refine tr_ 7 24 bq_18 HT_ HW_ hHeld ?_
 refine one_ (i := 8) (N := some 25) bq_19 rfl rfl (one_of HT_.out (by kernel_rfl)) (by decide) (fun K hK => ?_)
 refine goes_ Try.func121 (by kernel_rfl) rfl #[.agg #[.int .i64 ((rd_T96 l0 x5_1).f0), .int .i64 ((rd_T96 l0 x5_1).f1), .string ((rd_T96 l0 x5_1).f2)], .agg #[.int .i64 ((rd_T96 l1 x5_1).f0), .int .i64 ((rd_T96 l1 x5_1).f1), .string ((rd_T96 l1 x5_1).f2)]] (by rfl) rfl rfl tq_0 ?_
 with_reducible refine (laws_eqRec.calls ((rd_T96 l0 x5_1).f0) ((rd_T96 l0 x5_1).f1) ((rd_T96 l0 x5_1).f2) ((rd_T96 l1 x5_1).f0) ((rd_T96 l1 x5_1).f1) ((rd_T96 l1 x5_1).f2) true _ A7.out).mono ?_
 rintro e w10 ⟨rfl, hb⟩
 refine ⟨_, rfl, ?_⟩
 have n0_ := Aside0.mk (below_step th_ hb)
 clear HB
 have HB := n0_
 clear n0_
 (try clear hb)
 refine hK.out _ _ ⟨((HB.out.cell (World.block_lt_of_cell? w _ hw108_0)).trans hw108_0), ((HB.out.cell (World.block_lt_of_cell? w _ hw108_1)).trans hw108_1), ((HB.out.cell (World.block_lt_of_cell? w _ hw108_2)).trans hw108_2), ((HB.out.cell (World.block_lt_of_cell? w _ hw109_0)).trans hw109_0), ((HB.out.cell (World.block_lt_of_cell? w _ hw109_1)).trans hw109_1), ((HB.out.cell (World.block_lt_of_cell? w _ hw109_2)).trans hw109_2)⟩ (fun hHeld => ?_)
 clear hK K
 refine nm_ (some 25) ?_
 refine yr_ 9 26 bq_20 HT_ ?_
 refine done_ (done_of HT_.out (by kernel_rfl)) ?_
 try go_wp2
 go_roundg k1
 case measure => have := HK1.out; omega
 case rel => exact ⟨(wrap64 (x5_1 + 1)), tq_13, H', ⟨tq_40⟩, ⟨th_⟩⟩

/-! ### laws_eqEntry: function 122 -/
def laws_eqEntry.f (a0_0 : Int) (a0_1 : ByteArray) (a1_0 : Int) (a1_1 : ByteArray) : Option (Bool) := if a0_0 = a1_0 then (if a0_1.toList = a1_1.toList then (some true) else (some false)) else (some false)
set_option maxHeartbeats 8000000 in
set_option maxRecDepth 100000 in
theorem laws_eqEntry.calls (a0_0 : Int) (a0_1 : ByteArray) (a1_0 : Int) (a1_1 : ByteArray) (r : Bool) (w : World) (h : laws_eqEntry.f a0_0 a0_1 a1_0 a1_1 = some r) :
  Calls Try.prog 122 #[.agg #[.int .i64 a0_0, .string a0_1], .agg #[.int .i64 a1_0, .string a1_1]] w fun e w' => e = .returned (.bool r) ∧ Below w.heap.size w w' := by
 have hu67 := Try.underlying67
 have HB := Aside0.mk (Below.refl w.heap.size w)
 unfold laws_eqEntry.f at h
 have H := h
 clear h
 by_cases c3 : a0_0 = a1_0
 rotate_left
 ·rw [if_neg c3] at H
  have c3b0 := beq_eq_false_iff_ne.mpr c3
  have c3b1 := bne_iff_ne.mpr c3
  obtain rfl := Option.some.inj H
  go_enter Try.func122, Try.ntmps122
  go_wp2_with (first | ((with_reducible refine gate_dst (N := 2) rfl ?_); refine be_ 2 (cs := #[.int .i64 a0_0, .string a0_1]) 67 ?_; intro gb111 hg w15 hbox hb; have z_ := bx0_ th_ hb hbox hg; clear HB; obtain ⟨HB, BK111, GW111, GE111⟩ := z_; clear hb hbox hg) | ((with_reducible refine gate_dst (N := 3) rfl ?_); refine be_ 3 (cs := #[.int .i64 a1_0, .string a1_1]) 67 ?_; intro gb112 hg w16 hbox hb; have z_ := bx1_ (kb_ BK111) th_ hb hbox hg; clear BK111 HB; obtain ⟨BK111, HB, BK112, GW112, GE112, NB111_112, NB112_111⟩ := z_; clear hb hbox hg; obtain ⟨n111_112, n112_111⟩ := an2_ NB111_112 NB112_111; obtain ⟨hcz18_0, hcz18_1⟩ := bk2_ BK111.out; obtain ⟨hfz18_0, hfz18_1⟩ := bf2_ BK111.out; obtain ⟨hcz19_0, hcz19_1⟩ := bk2_ BK112.out; obtain ⟨hfz19_0, hfz19_1⟩ := bf2_ BK112.out))
  go_ret
  exact ⟨tq_2, th_⟩
 rw [if_pos c3] at H
 have c3b0 := beq_iff_eq.mpr c3
 have c3b1 := bne_eq_false_iff_eq.mpr c3
 clear c3
 by_cases c4 : a0_1.toList = a1_1.toList
 rotate_left
 ·rw [if_neg c4] at H
  have c4b0 := beq_eq_false_iff_ne.mpr c4
  have c4b1 := bne_iff_ne.mpr c4
  obtain rfl := Option.some.inj H
  go_enter Try.func122, Try.ntmps122
  go_wp2_with (first | ((with_reducible refine gate_dst (N := 2) rfl ?_); refine be_ 2 (cs := #[.int .i64 a0_0, .string a0_1]) 67 ?_; intro gb111 hg w10 hbox hb; have z_ := bx0_ th_ hb hbox hg; clear HB; obtain ⟨HB, BK111, GW111, GE111⟩ := z_; clear hb hbox hg) | ((with_reducible refine gate_dst (N := 3) rfl ?_); refine be_ 3 (cs := #[.int .i64 a1_0, .string a1_1]) 67 ?_; intro gb112 hg w11 hbox hb; have z_ := bx1_ (kb_ BK111) th_ hb hbox hg; clear BK111 HB; obtain ⟨BK111, HB, BK112, GW112, GE112, NB111_112, NB112_111⟩ := z_; clear hb hbox hg; obtain ⟨n111_112, n112_111⟩ := an2_ NB111_112 NB112_111; obtain ⟨hcz13_0, hcz13_1⟩ := bk2_ BK111.out; obtain ⟨hfz13_0, hfz13_1⟩ := bf2_ BK111.out; obtain ⟨hcz14_0, hcz14_1⟩ := bk2_ BK112.out; obtain ⟨hfz14_0, hfz14_1⟩ := bf2_ BK112.out))
  go_ret
  exact ⟨tq_2, th_⟩
 rw [if_pos c4] at H
 have c4b0 := beq_iff_eq.mpr c4
 have c4b1 := bne_eq_false_iff_eq.mpr c4
 clear c4
 obtain rfl := Option.some.inj H
 go_enter Try.func122, Try.ntmps122
 go_wp2_with (first | ((with_reducible refine gate_dst (N := 2) rfl ?_); refine be_ 2 (cs := #[.int .i64 a0_0, .string a0_1]) 67 ?_; intro gb111 hg w5 hbox hb; have z_ := bx0_ th_ hb hbox hg; clear HB; obtain ⟨HB, BK111, GW111, GE111⟩ := z_; clear hb hbox hg) | ((with_reducible refine gate_dst (N := 3) rfl ?_); refine be_ 3 (cs := #[.int .i64 a1_0, .string a1_1]) 67 ?_; intro gb112 hg w6 hbox hb; have z_ := bx1_ (kb_ BK111) th_ hb hbox hg; clear BK111 HB; obtain ⟨BK111, HB, BK112, GW112, GE112, NB111_112, NB112_111⟩ := z_; clear hb hbox hg; obtain ⟨n111_112, n112_111⟩ := an2_ NB111_112 NB112_111; obtain ⟨hcz8_0, hcz8_1⟩ := bk2_ BK111.out; obtain ⟨hfz8_0, hfz8_1⟩ := bf2_ BK111.out; obtain ⟨hcz9_0, hcz9_1⟩ := bk2_ BK112.out; obtain ⟨hfz9_0, hfz9_1⟩ := bf2_ BK112.out))
 go_ret
 exact ⟨tq_2, th_⟩

end Go.Proofs.Ytljnnmpfeningaa.PFnExactPartNew
