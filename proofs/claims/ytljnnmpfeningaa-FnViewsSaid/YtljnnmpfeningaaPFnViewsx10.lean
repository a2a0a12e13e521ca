/- Contracts of Go functions, written by a program of ours over the print of the kit: each says that the call returns what the Lean function beside it computes. Conditions: as each theorem states them. -/
import Derived.Test.YtljnnmpfeningaaPkFnViews
import Derived.Test.YtljnnmpfeningaaPFnViewsx0
import Derived.Test.YtljnnmpfeningaaPFnViewsx4
namespace Go.Proofs.Ytljnnmpfeningaa.PFnViews
open Go.RowKit Go.Proofs.YtljnnmpfeningaaW.PrintWords Go.Proofs.YtljnnmpfeningaaW.PrintLast Go.Proofs.YtljnnmpfeningaaW.PrintMore
attribute [local go_sem] max2_int min2_int max_two min_two max_three min_three max_four min_four   -- for this text's walks alone
set_option linter.unusedVariables false
set_option linter.unusedSimpArgs false

/-! ### spec_Brought: function 145 -/
def spec_Brought.j0 : Nat → Int → Int → Int → Bool → Option (Int)
 | 0, _, _, _, _ => none
 | k + 1, x0, x1, x2, x14 => if x14 = true then (some x1) else (if x0 > x2 then (some x2) else (some x0))
def spec_Brought.f (k : Nat) (a0 : Int) (a1 : Int) (a2 : Int) : Option (Int) := if a2 < a1 then (spec_Brought.j0 k a0 a1 a2 true) else (spec_Brought.j0 k a0 a1 a2 (decide (a0 < a1)))
theorem spec_Brought.mono_l : ∀ k, (∀ y0 y1 y2 y3, LeO (spec_Brought.j0 k y0 y1 y2 y3) (spec_Brought.j0 (k + 1) y0 y1 y2 y3))
 | 0 => fun _ _ _ _ r h => by simp [spec_Brought.j0] at h
 | k + 1 => by
  have ih0 := spec_Brought.mono_l k
  ·intro y0 y1 y2 y3
   unfold spec_Brought.j0
   exact mo_0
theorem spec_Brought.mono : ∀ a0 a1 a2 k, LeO (spec_Brought.f k a0 a1 a2) (spec_Brought.f (k + 1) a0 a1 a2) := by
 intro a0 a1 a2 k
 have ih0 := spec_Brought.mono_l k
 unfold spec_Brought.f
 repeat' first
   | (with_reducible exact ih0 ..)
   | (with_reducible exact LeO.refl _)
   | (with_reducible exact LeO.none _)
   | (with_reducible refine LeO.ite ?_ ?_)
   | (with_reducible refine LeO.bind ?_ (fun _ => ?_))
   | exact ih0 ..
   | exact LeO.none _
   | refine LeO.ite ?_ ?_
   | refine LeO.bind ?_ (fun _ => ?_)
set_option maxHeartbeats 8000000 in
set_option maxRecDepth 100000 in
theorem spec_Brought.calls (k : Nat) (a0 : Int) (a1 : Int) (a2 : Int) (r : Int) (w : World) (h : spec_Brought.f k a0 a1 a2 = some r) :
  Calls Try.prog 145 #[.int .i64 a0, .int .i64 a1, .int .i64 a2] w fun e w' => e = .returned (.int .i64 r) ∧ Drawn0 w w' := by
 unfold spec_Brought.f at h
 have H := h
 clear h
 have HC4 := Aside0.mk H
 clear H
 go_enter Try.func145, Try.ntmps145
 go_upto_region 1 with (fail)
 go_cut [14] (fun v14 wc => ∃ (kq : Nat) (x14_3 : Bool), v14 = .bool x14_3 ∧ Aside0 (spec_Brought.j0 kq a0 a1 a2 x14_3 = some r) ∧ Aside0 (kq ≤ k) ∧ Drawn0 w wc)
 case first =>
  have H := HC4.out
  clear HC4
  by_cases c5 : a2 < a1
  ·rw [if_pos c5] at H
   have c5b0 := decide_eq_true c5
   clear c5
   (first | rw [c5b0] | (simp only [i64_w, i32_w]; rw [c5b0]) | skip)
   have H' := Aside0.mk H
   clear H
   go_wp2
   go_meet
   case rel => exact ⟨_, (true), tq_5, H', ⟨tq_38⟩, tq_34⟩
  rw [if_neg c5] at H
  have c5b0 := decide_eq_false c5
  clear c5
  (first | rw [c5b0] | (simp only [i64_w, i32_w]; rw [c5b0]) | skip)
  have H' := Aside0.mk H
  clear H
  go_wp2
  go_meet
  case rel => exact ⟨_, (decide (a0 < a1)), tq_5, H', ⟨tq_38⟩, tq_34⟩
 case rest =>
 clear HC4
 try clear c1; try clear p2; try clear c5; try clear c5b0
 obtain ⟨kq, x14_3, rfl, HA, HJ3, ⟨mc3, rfl⟩⟩ := hcut
 cases kq with
 | zero => exact absurd HA.out (by simp [spec_Brought.j0])
 | succ kj3 =>
 have H := HA.out
 clear HA
 simp only [spec_Brought.j0] at H
 by_cases c6 : x14_3 = true
 ·subst c6
  rw [if_pos rfl] at H
  obtain rfl := Option.some.inj H
  go_wp2
  go_ret
  exact ⟨tq_5, tq_34⟩
 replace c6 := Bool.eq_false_iff.mpr c6
 subst c6
 rw [if_neg nf_] at H
 by_cases c7 : a0 > a2
 ·rw [if_pos c7] at H
  have c7b0 := decide_eq_true c7
  clear c7
  obtain rfl := Option.some.inj H
  go_wp2
  go_ret
  exact ⟨tq_5, tq_34⟩
 rw [if_neg c7] at H
 have c7b0 := decide_eq_false c7
 clear c7
 obtain rfl := Option.some.inj H
 go_wp2
 go_ret
 exact ⟨tq_5, tq_34⟩

/-! ### spec_PagesFor: function 20 -/
def spec_PagesFor.f (a0 : Int) : Option (Int) := if a0 ≤ 0 then (some 0) else (some (wrap64 ((wrap64 (Int.tdiv (wrap64 (a0 - 1)) 32)) + 1)))
set_option maxHeartbeats 8000000 in
set_option maxRecDepth 100000 in
theorem spec_PagesFor.calls (a0 : Int) (r : Int) (w : World) (h : spec_PagesFor.f a0 = some r) :
  Calls Try.prog 20 #[.int .i64 a0] w fun e w' => e = .returned (.int .i64 r) ∧ Drawn0 w w' := by
 unfold spec_PagesFor.f at h
 have H := h
 clear h
 by_cases c2 : a0 ≤ 0
 ·rw [if_pos c2] at H
  have c2b0 := decide_eq_true c2
  clear c2
  obtain rfl := Option.some.inj H
  go_enter Try.func20, Try.ntmps20
  go_wp2
  go_ret
  exact ⟨tq_5, tq_34⟩
 rw [if_neg c2] at H
 have c2b0 := decide_eq_false c2
 clear c2
 obtain rfl := Option.some.inj H
 go_enter Try.func20, Try.ntmps20
 go_wp2
 go_ret
 exact ⟨tq_5, tq_34⟩

/-! ### spec_PagesIn: function 150 -/
def spec_PagesIn.l0 : Nat → Int → Int → List (S44) → Option (Int)
 | 0, _, _, _ => none
 | k + 1, x3, x4, x376000 => if x4 < (x376000.length : Int) then (if 0 ≤ x4 then (if ((rd_T44 x376000 x4).f1 = true) then (spec_PagesIn.l0 k x3 (wrap64 (x4 + 1)) x376000) else ((spec_PagesFor.f (((rd_T44 x376000 x4).f2).size : Int)).bind fun t378 => (spec_PagesIn.l0 k (wrap64 (x3 + t378)) (wrap64 (x4 + 1)) x376000))) else (none)) else (some x3)
def spec_PagesIn.f (k : Nat) (l0_0 : List (S44)) : Option (Int) := spec_PagesIn.l0 k 0 0 l0_0
theorem spec_PagesIn.mono_l : ∀ k, (∀ y0 y1 y2, LeO (spec_PagesIn.l0 k y0 y1 y2) (spec_PagesIn.l0 (k + 1) y0 y1 y2))
 | 0 => fun _ _ _ r h => by simp [spec_PagesIn.l0] at h
 | k + 1 => by
  have ih0 := spec_PagesIn.mono_l k
  ·intro y0 y1 y2
   unfold spec_PagesIn.l0
   exact mo_0
theorem spec_PagesIn.mono : ∀ a0 k, LeO (spec_PagesIn.f k a0) (spec_PagesIn.f (k + 1) a0) := by
 intro a0 k
 have ih0 := spec_PagesIn.mono_l k
 unfold spec_PagesIn.f
 repeat' first
   | (with_reducible exact ih0 ..)
   | (with_reducible exact LeO.refl _)
   | (with_reducible exact LeO.none _)
   | (with_reducible refine LeO.ite ?_ ?_)
   | (with_reducible refine LeO.bind ?_ (fun _ => ?_))
   | exact ih0 ..
   | exact LeO.none _
   | refine LeO.ite ?_ ?_
   | refine LeO.bind ?_ (fun _ => ?_)
set_option maxHeartbeats 8000000 in
set_option maxRecDepth 100000 in
theorem spec_PagesIn.calls (k : Nat) (A0_0 : Option Addr) (c0_0 : Nat) (l0_0 : List (S44)) (r : Int) (w : World) (hr0_0 : Kd.C k44 w A0_0 l0_0.length l0_0) (hc0_0 : l0_0.length ≤ c0_0) (h : spec_PagesIn.f k l0_0 = some r) :
  Calls Try.prog 150 #[.agg #[.slice A0_0 l0_0.length c0_0]] w fun e w' => e = .returned (.int .i64 r) ∧ Below w.heap.size w w' := by
 have hu42 := Try.underlying42
 have HR0_0 := Aside0.mk hr0_0
 have HC0_0 := Aside0.mk hc0_0
 clear hr0_0 hc0_0
 have HB := Aside0.mk (Below.refl w.heap.size w)
 unfold spec_PagesIn.f at h
 have H := h
 clear h
 have H' := Aside0.mk H
 clear H
 go_enter Try.func150, Try.ntmps150
 go_wp2_with (first | ((with_reducible refine gate_dst (N := 1) rfl ?_); refine be_ 1 (cs := #[.slice A0_0 l0_0.length c0_0]) 42 ?_; intro gb375 hg w2 hbox hb; have z_ := bx0_ th_ hb hbox hg; clear HB; obtain ⟨HB, BK375, GW375, GE375⟩ := z_; clear hb hbox hg))
 go_loopg [3, 4] k (fun kq v3 v4 w' => ∃ (x3_1 : Int) (x4_1 : Int), v3 = .int .i64 x3_1 ∧ v4 = .int .i64 x4_1 ∧ Aside0 (spec_PagesIn.l0 kq x3_1 x4_1 l0_0 = some r) ∧ Aside0 (kq ≤ k) ∧ Aside0 (w'.heap[gb375]? = some (.cells #[(.slice A0_0 l0_0.length c0_0)] 42 (0, 0))) ∧ Aside0 (Below w.heap.size w w'))
 case atStart => exact ⟨(0), (0), tq_5, tq_5, H', ⟨Nat.le_refl _⟩, ⟨(kb_ BK375)⟩, ⟨th_⟩⟩
 case round =>
 clear H'
 try clear c1; try clear p2
 obtain ⟨x3_1, x4_1, rfl, rfl, HA, HK1, BK375, HB⟩ := hrel
 cases gk with
 | zero => exact absurd HA.out (by simp [spec_PagesIn.l0])
 | succ k1 =>
 have H := HA.out
 clear HA
 simp only [spec_PagesIn.l0] at H
 by_cases c3 : x4_1 < (l0_0.length : Int)
 rotate_left
 ·rw [if_neg c3] at H
  have c3b0 := decide_eq_false c3
  clear c3
  obtain rfl := Option.some.inj H
  have hcz10_0 := bc_ BK375.out 0
  have hfz10_0 := blk_frozen BK375.out 0
  go_wp2
  go_ret
  exact ⟨tq_1, th_⟩
 rw [if_pos c3] at H
 have c3b0 := decide_eq_true c3
 clear c3
 obtain ⟨c4, H⟩ := fc_ H
 have c4b0 := decide_eq_true c4
 clear c4
 obtain ⟨bq5, hbq5⟩ : ∃ b_ : Bool, b_ = ((rd_T44 l0_0 x4_1).f1) := ⟨_, rfl⟩
 replace H : (if (bq5 = true) then (spec_PagesIn.l0 k1 x3_1 (wrap64 (x4_1 + 1)) l0_0) else ((spec_PagesFor.f (((rd_T44 l0_0 x4_1).f2).size : Int)).bind fun t378 => (spec_PagesIn.l0 k1 (wrap64 (x3_1 + t378)) (wrap64 (x4_1 + 1)) l0_0))) = some r := by rw [← hbq5] at H; exact H
 have Nbq5 := Aside0.mk hbq5
 clear hbq5
 by_cases c6 : (bq5 = true)
 ·subst c6
  rw [if_pos rfl] at H
  have H' := Aside0.mk H
  clear H
  have hcz7_0 := bc_ BK375.out 0
  have hfz7_0 := blk_frozen BK375.out 0
  have p376 : 0 ≤ (x4_1 : Int) := of_decide_eq_true tq_3
  have q376 : x4_1 < (l0_0.length : Int) := of_decide_eq_true tq_3
  obtain ⟨ad376, e376, hx376_0, hx376_1, hx376_2⟩ := at_T44 HR0_0.out x4_1 p376 q376
  (try rw [← Nbq5.out] at hx376_1)
  cases e376
  replace hx376_0 := hx_ HB.out hx376_0
  replace hx376_1 := hx_ HB.out hx376_1
  replace hx376_2 := hx_ HB.out hx376_2
  replace p376 := eq_true p376
  replace q376 := eq_true q376
  go_wp2
  go_roundg k1
  case measure => have := HK1.out; omega
  case rel => exact ⟨(x3_1), (wrap64 (x4_1 + 1)), tq_5, tq_5, H', ⟨tq_79⟩, ⟨(kb_ BK375)⟩, ⟨th_⟩⟩
 replace c6 := Bool.eq_false_iff.mpr c6
 subst c6
 rw [if_neg nf_] at H
 obtain ⟨t378, A8, H⟩ := bd_ H
 have H' := Aside0.mk H
 clear H
 have hcz9_0 := bc_ BK375.out 0
 have hfz9_0 := blk_frozen BK375.out 0
 have p376 : 0 ≤ (x4_1 : Int) := of_decide_eq_true tq_3
 have q376 : x4_1 < (l0_0.length : Int) := of_decide_eq_true tq_3
 obtain ⟨ad376, e376, hx376_0, hx376_1, hx376_2⟩ := at_T44 HR0_0.out x4_1 p376 q376
 (try rw [← Nbq5.out] at hx376_1)
 cases e376
 replace hx376_0 := hx_ HB.out hx376_0
 replace hx376_1 := hx_ HB.out hx376_1
 replace hx376_2 := hx_ HB.out hx376_2
 replace p376 := eq_true p376
 replace q376 := eq_true q376
 have p377 : 0 ≤ (x4_1 : Int) := of_decide_eq_true tq_3
 have q377 : x4_1 < (l0_0.length : Int) := of_decide_eq_true tq_3
 obtain ⟨ad377, e377, hx377_0, hx377_1, hx377_2⟩ := at_T44 HR0_0.out x4_1 p377 q377
 (try rw [← Nbq5.out] at hx377_1)
 obtain rfl : ad376 = ad377 := (by injection e377)
 replace hx377_0 := hx_ HB.out hx377_0
 replace hx377_1 := hx_ HB.out hx377_1
 replace hx377_2 := hx_ HB.out hx377_2
 replace p377 := eq_true p377
 replace q377 := eq_true q377
 go_wp2_with (first | ((with_reducible refine gate_callee (f := 20) rfl ?_); refine goesL_ (some 27) rfl rfl Try.func20 (by kernel_rfl) rfl #[.int .i64 (((rd_T44 l0_0 x4_1).f2).size : Int)] rfl tq_0 ?_; (with_reducible refine (spec_PagesFor.calls (((rd_T44 l0_0 x4_1).f2).size : Int) t378 _ A8.out).mono ?_); rintro e w' ⟨rfl, ⟨nd, rfl⟩⟩; refine ⟨_, rfl, ?_⟩))
 go_roundg k1
 case measure => have := HK1.out; omega
 case rel => exact ⟨(wrap64 (x3_1 + t378)), (wrap64 (x4_1 + 1)), tq_5, tq_5, H', ⟨tq_79⟩, ⟨(kb_ BK375)⟩, ⟨th_⟩⟩

/-! ### spec_l17Texts: function 146 -/
def spec_l17Texts.f (k : Nat) (a0_0 : Int) (a0_1 : Int) (a0_2 : Int) (a0_3 : Int) (l1_0 : List (S44)) (a2 : Int) (a3 : ByteArray) : Option ((List (S44)) × Int) := if 0 ≤ a2 then (if a2 < (l1_0.length : Int) then ((spec_l17Same.f l1_0).bind fun t384 => (if a2 < (t384.length : Int) then ((some (t384.set (a2 : Int).toNat (⟨(rd_T44 l1_0 a2).f0, (rd_T44 l1_0 a2).f1, a3⟩ : S44) : List (S44))).bind fun y388 => ((spec_PagesIn.f k y388).bind fun t389 => (if t389 > a0_3 then ((spec_l17Same.f l1_0).bind fun t390 => (some (t390, 13))) else (some (y388, 0))))) else (none))) else (none)) else (none)
theorem spec_l17Texts.mono : ∀ a0 a1 a2 a3 a4 a5 a6 k, LeO (spec_l17Texts.f k a0 a1 a2 a3 a4 a5 a6) (spec_l17Texts.f (k + 1) a0 a1 a2 a3 a4 a5 a6) := by
 intro a0 a1 a2 a3 a4 a5 a6 k
 unfold spec_l17Texts.f
 repeat' first
   | (with_reducible exact spec_PagesIn.mono ..)
   | (with_reducible exact LeO.refl _)
   | (with_reducible exact LeO.none _)
   | (with_reducible refine LeO.ite ?_ ?_)
   | (with_reducible refine LeO.bind ?_ (fun _ => ?_))
   | exact spec_PagesIn.mono ..
   | exact LeO.none _
   | refine LeO.ite ?_ ?_
   | refine LeO.bind ?_ (fun _ => ?_)
set_option maxHeartbeats 8000000 in
set_option maxRecDepth 100000 in
theorem spec_l17Texts.calls (k : Nat) (a0_0 : Int) (a0_1 : Int) (a0_2 : Int) (a0_3 : Int) (A1_0 : Option Addr) (c1_0 : Nat) (l1_0 : List (S44)) (a2 : Int) (a3 : ByteArray) (r1 : List (S44)) (r2 : Int) (w : World) (hr1_0 : Kd.C k44 w A1_0 l1_0.length l1_0) (hc1_0 : l1_0.length ≤ c1_0) (h : spec_l17Texts.f k a0_0 a0_1 a0_2 a0_3 l1_0 a2 a3 = some (r1, r2)) :
  Calls Try.prog 146 #[.agg #[.int .i64 a0_0, .int .i64 a0_1, .int .i64 a0_2, .int .i64 a0_3], .agg #[.slice A1_0 l1_0.length c1_0], .int .i64 a2, .string a3] w fun e w' => ∃ v0_ : Value, e = .returned (.tuple #[.agg #[v0_], .int .i64 r2]) ∧ Kd.R k44 44 w' w.heap.size (fun _ => True) v0_ r1 ∧ Below w.heap.size w w' := by
 have hu30 := Try.underlying30
 have hu42 := Try.underlying42
 have hu44 := Try.underlying44
 have HR1_0 := Aside0.mk hr1_0
 have HC1_0 := Aside0.mk hc1_0
 clear hr1_0 hc1_0
 have HB := Aside0.mk (Below.refl w.heap.size w)
 unfold spec_l17Texts.f at h
 have H := h
 clear h
 obtain ⟨c5, H⟩ := fc_ H
 have c5b0 := decide_eq_true c5
 clear c5
 obtain ⟨c6, H⟩ := fc_ H
 have c6b0 := decide_eq_true c6
 clear c6
 obtain ⟨t384, A7, H⟩ := bd_ H
 obtain ⟨c8, H⟩ := fc_ H
 have c8b0 := decide_eq_true c8
 clear c8
 obtain ⟨y388, Ny388, H⟩ := bs_ H
 obtain ⟨t389, A10, H⟩ := bd_ H
 have HC11 := Aside0.mk H
 clear H
 go_enter Try.func146, Try.ntmps146
 try go_wp2_with (first | ((with_reducible refine gate_dst (N := 4) rfl ?_); refine be_ 4 (cs := #[.int .i64 a0_0, .int .i64 a0_1, .int .i64 a0_2, .int .i64 a0_3]) 30 ?_; intro gb379 hg w12 hbox hb; have z_ := bx0_ th_ hb hbox hg; clear HB; obtain ⟨HB, BK379, GW379, GE379⟩ := z_; clear hb hbox hg) | ((with_reducible refine gate_dst (N := 5) rfl ?_); refine be_ 5 (cs := #[.slice A1_0 l1_0.length c1_0]) 42 ?_; intro gb380 hg w13 hbox hb; have z_ := bx1_ (kb_ BK379) th_ hb hbox hg; clear BK379 HB; obtain ⟨BK379, HB, BK380, GW380, GE380, NB379_380, NB380_379⟩ := z_; clear hb hbox hg) | ((with_reducible refine gate_dst (N := 8) rfl ?_); refine be_ 8 (cs := #[.slice none 0 0]) 42 ?_; intro gb381 hg w14 hbox hb; have z_ := bx2_ (kb_ BK379) (kb_ BK380) th_ hb hbox hg; clear BK379 BK380 HB; obtain ⟨BK379, BK380, HB, BK381, GW381, GE381, NB379_381, NB381_379, NB380_381, NB381_380⟩ := z_; clear hb hbox hg; obtain ⟨n380_379, n379_380, n380_381, n381_380⟩ := an4_ NB380_379 NB379_380 NB380_381 NB381_380; have hcz17_0 := bc_ BK380.out 0; have hfz17_0 := blk_frozen BK380.out 0; have p382 : 0 ≤ (a2 : Int) := of_decide_eq_true tq_3; have q382 : a2 < (l1_0.length : Int) := of_decide_eq_true tq_3; obtain ⟨ad382, e382, hx382_0, hx382_1, hx382_2⟩ := at_T44 HR1_0.out a2 p382 q382; cases e382; replace hx382_0 := hx_ HB.out hx382_0; replace hx382_1 := hx_ HB.out hx382_1; replace hx382_2 := hx_ HB.out hx382_2; replace p382 := eq_true p382; replace q382 := eq_true q382) | ((with_reducible refine gate_dst (N := 10) rfl ?_); refine be_ 10 (cs := #[.string (⟨#[]⟩ : ByteArray), .bool false, .string (⟨#[]⟩ : ByteArray)]) 44 ?_; intro gb383 hg w18 hbox hb; have z_ := bx3_ (kb_ BK379) (kb_ BK380) (kb_ BK381) th_ hb hbox hg; clear BK379 BK380 BK381 HB; obtain ⟨BK379, BK380, BK381, HB, BK383, GW383, GE383, NB379_383, NB383_379, NB380_383, NB383_380, NB381_383, NB383_381⟩ := z_; clear hb hbox hg; obtain ⟨n383_379, n379_383, n383_380, n380_383, n383_381, n381_383⟩ := an6_ NB383_379 NB379_383 NB383_380 NB380_383 NB383_381 NB381_383; obtain ⟨hcz22_0, hcz22_1, hcz22_2⟩ := bk3_ BK383.out; obtain ⟨hfz22_0, hfz22_1, hfz22_2⟩ := bf3_ BK383.out; have hcz23_0 := bc_ BK380.out 0; have hfz23_0 := blk_frozen BK380.out 0) | ((with_reducible refine gate_callee (f := 123) rfl ?_); refine goesL_ (some 20) rfl rfl Try.func123 (by kernel_rfl) rfl #[.agg #[.slice (some ad382) l1_0.length c1_0]] rfl tq_0 ?_; (with_reducible refine (spec_l17Same.calls _ _ l1_0 t384 _ ?side1 ?side2 A7.out).mono ?_); (case side1 => exact Kd.C_below HR1_0.out th_); (case side2 => exact HC1_0.out); rintro e w24 ⟨v385, rfl, ho0, hb⟩; refine ⟨_, rfl, ?_⟩; have z_ := p_ (Kd.R_lower (Kd.R_newB ho0 (g := gb383) (o := .cells #[.string ((rd_T44 l1_0 a2).f0), .bool ((rd_T44 l1_0 a2).f1), .string a3] 44 (0, 0)) tq_37) (below_size th_)) <| p_ (blk_below (g := gb379) (o := .cells #[.int .i64 a0_0, .int .i64 a0_1, .int .i64 a0_2, .int .i64 a0_3] 30 (0, 0)) (by (with_reducible repeat (first | refine blk_drewN ?_ _ | refine blk_drew ?_ | refine blk_alloc ?_ _)); refine blk_far ?_ NB379_383.out _; (with_reducible repeat (first | refine blk_drewN ?_ _ | refine blk_drew ?_ | refine blk_alloc ?_ _)); refine blk_far ?_ NB379_383.out _; (with_reducible repeat (first | refine blk_drewN ?_ _ | refine blk_drew ?_ | refine blk_alloc ?_ _)); refine blk_far ?_ NB379_383.out _; (with_reducible repeat (first | refine blk_drewN ?_ _ | refine blk_drew ?_ | refine blk_alloc ?_ _)); refine blk_far ?_ NB379_383.out _; (with_reducible repeat (first | refine blk_drewN ?_ _ | refine blk_drew ?_ | refine blk_alloc ?_ _)); exact BK379.out) hb) <| p_ (blk_below (g := gb380) (o := .cells #[.slice (some ad382) l1_0.length c1_0] 42 (0, 0)) (by (with_reducible repeat (first | refine blk_drewN ?_ _ | refine blk_drew ?_ | refine blk_alloc ?_ _)); refine blk_far ?_ NB380_383.out _; (with_reducible repeat (first | refine blk_drewN ?_ _ | refine blk_drew ?_ | refine blk_alloc ?_ _)); refine blk_far ?_ NB380_383.out _; (with_reducible repeat (first | refine blk_drewN ?_ _ | refine blk_drew ?_ | refine blk_alloc ?_ _)); refine blk_far ?_ NB380_383.out _; (with_reducible repeat (first | refine blk_drewN ?_ _ | refine blk_drew ?_ | refine blk_alloc ?_ _)); refine blk_far ?_ NB380_383.out _; (with_reducible repeat (first | refine blk_drewN ?_ _ | refine blk_drew ?_ | refine blk_alloc ?_ _)); exact BK380.out) hb) <| p_ (blk_below (g := gb381) (o := .cells #[.slice none 0 0] 42 (0, 0)) (by (with_reducible repeat (first | refine blk_drewN ?_ _ | refine blk_drew ?_ | refine blk_alloc ?_ _)); refine blk_far ?_ NB381_383.out _; (with_reducible repeat (first | refine blk_drewN ?_ _ | refine blk_drew ?_ | refine blk_alloc ?_ _)); refine blk_far ?_ NB381_383.out _; (with_reducible repeat (first | refine blk_drewN ?_ _ | refine blk_drew ?_ | refine blk_alloc ?_ _)); refine blk_far ?_ NB381_383.out _; (with_reducible repeat (first | refine blk_drewN ?_ _ | refine blk_drew ?_ | refine blk_alloc ?_ _)); refine blk_far ?_ NB381_383.out _; (with_reducible repeat (first | refine blk_drewN ?_ _ | refine blk_drew ?_ | refine blk_alloc ?_ _)); exact BK381.out) hb) <| p_ (blk_below (g := gb383) (o := .cells #[.string ((rd_T44 l1_0 a2).f0), .bool ((rd_T44 l1_0 a2).f1), .string a3] 44 (0, 0)) tq_37 hb) <| a_ (below_step th_ hb); clear BK379 BK380 BK381 BK383 HB; obtain ⟨HO386, BK379, BK380, BK381, BK383, HB⟩ := z_; (try clear hb)) | ((with_reducible refine gate_dst (N := 11) rfl ?_); refine be_ 11 (cs := #[.slice none 0 0]) 42 ?_; intro gb387 hg w25 hbox hb; have z_ := p_ (Kd.R_below (raR_ HO386) hb) <| bx4_ (kb_ BK379) (kb_ BK380) (kb_ BK381) (kb_ BK383) th_ hb hbox hg; clear HO386 BK379 BK380 BK381 BK383 HB; obtain ⟨HO386, BK379, BK380, BK381, BK383, HB, BK387, GW387, GE387, NB379_387, NB387_379, NB380_387, NB387_380, NB381_387, NB387_381, NB383_387, NB387_383⟩ := z_; clear hb hbox hg; obtain ⟨Ao26, co26, eo26⟩ := Kd.R_slice HO386.out; subst eo26; obtain ⟨n387_379, n379_387, n387_380, n380_387, n387_381, n381_387, n387_383, n383_387⟩ := an8_ NB387_379 NB379_387 NB387_380 NB380_387 NB387_381 NB381_387 NB387_383 NB383_387; have hcz31_0 := bc_ BK387.out 0; have hfz31_0 := blk_frozen BK387.out 0) | ((with_reducible refine gate_store (t := 42) (p := 11) rfl ?_); refine store_event (t := 42) (p := 11) (v := ?vo_w32) (w1 := (w25.setCell ⟨gb387, 0, none⟩ (.slice Ao26 t384.length co26))) ?hg ?ho ?hn ?hr ?_; (case ho => rfl); (case hg => rfl); (case hn => rfl); (case hr => first | (go_simp; done) | (go_simp; rfl)); intro w32 hw; have z_ := q_ (⟨(by rw [hw]; exact (by (with_reducible repeat (first | apply Kd.R_alloc | apply Kd.R_drewN | apply Kd.R_drew)); exact Kd.R_mono (rR_ (Kd.R_types HO386.out BK387.out (by decide))) (fun _ hk => hk.1.2)))⟩ : Aside0 (Kd.R k44 44 w32 w.heap.size (fun k_ => k_ ≠ gb383) (.slice Ao26 t384.length co26) t384)) <| q_ (⟨(by rw [hw]; exact (by (with_reducible repeat (first | refine blk_drewN ?_ _ | refine blk_drew ?_ | refine blk_alloc ?_ _)); refine blk_far ?_ NB379_387.out _; (with_reducible repeat (first | refine blk_drewN ?_ _ | refine blk_drew ?_ | refine blk_alloc ?_ _)); exact BK379.out))⟩ : Aside0 (w32.heap[gb379]? = some (.cells #[.int .i64 a0_0, .int .i64 a0_1, .int .i64 a0_2, .int .i64 a0_3] 30 (0, 0)))) <| q_ (⟨(by rw [hw]; exact (by (with_reducible repeat (first | refine blk_drewN ?_ _ | refine blk_drew ?_ | refine blk_alloc ?_ _)); refine blk_far ?_ NB380_387.out _; (with_reducible repeat (first | refine blk_drewN ?_ _ | refine blk_drew ?_ | refine blk_alloc ?_ _)); exact BK380.out))⟩ : Aside0 (w32.heap[gb380]? = some (.cells #[.slice (some ad382) l1_0.length c1_0] 42 (0, 0)))) <| q_ (⟨(by rw [hw]; exact (by (with_reducible repeat (first | refine blk_drewN ?_ _ | refine blk_drew ?_ | refine blk_alloc ?_ _)); refine blk_far ?_ NB381_387.out _; (with_reducible repeat (first | refine blk_drewN ?_ _ | refine blk_drew ?_ | refine blk_alloc ?_ _)); exact BK381.out))⟩ : Aside0 (w32.heap[gb381]? = some (.cells #[.slice none 0 0] 42 (0, 0)))) <| q_ (⟨(by rw [hw]; exact (by (with_reducible repeat (first | refine blk_drewN ?_ _ | refine blk_drew ?_ | refine blk_alloc ?_ _)); refine blk_far ?_ NB383_387.out _; (with_reducible repeat (first | refine blk_drewN ?_ _ | refine blk_drew ?_ | refine blk_alloc ?_ _)); exact BK383.out))⟩ : Aside0 (w32.heap[gb383]? = some (.cells #[.string ((rd_T44 l1_0 a2).f0), .bool ((rd_T44 l1_0 a2).f1), .string a3] 44 (0, 0)))) <| q_ (⟨(by rw [hw]; exact (by (with_reducible repeat (first | refine blk_drewN ?_ _ | refine blk_drew ?_ | refine blk_alloc ?_ _)); refine blk_put (cs := #[.slice none 0 0]) ?_ 0 _ rfl; (with_reducible repeat (first | refine blk_drewN ?_ _ | refine blk_drew ?_ | refine blk_alloc ?_ _)); exact BK387.out))⟩ : Aside0 (w32.heap[gb387]? = some (.cells #[.slice Ao26 t384.length co26] 42 (0, 0)))) <| (⟨(by rw [hw]; exact th_)⟩ : Aside0 (Below w.heap.size w w32)); clear hw HO386 BK379 BK380 BK381 BK383 BK387 HB; obtain ⟨HO386, BK379, BK380, BK381, BK383, BK387, HB⟩ := z_; have hcz33_0 := bc_ BK387.out 0; have hfz33_0 := blk_frozen BK387.out 0; obtain ⟨hcz34_0, hcz34_1, hcz34_2⟩ := bk3_ BK383.out; obtain ⟨hfz34_0, hfz34_1, hfz34_2⟩ := bf3_ BK383.out; have p9 : 0 ≤ (a2 : Int) := of_decide_eq_true tq_3; have q9 : (a2 : Int) < ((t384.length : Int) : Int) := of_decide_eq_true tq_3; obtain ⟨go9, co9, eo9, gb9, gl9, cl9, HG9⟩ := Kd.R_form HO386.out (by omega); (first | cases eo9 | (injection eo9 with ea_ en_ ec_; (first | subst ea_ | (injection ea_ with ea_; subst ea_)); subst ec_; clear en_)); have GB9 := Aside0.mk gb9; have GG9 := Aside0.mk HG9; clear gb9 gl9 HG9; obtain ⟨ce9, hcl9, hM9, hcc9, hfr9⟩ := Kd.R_elem HO386.out z44 (a2 : Int) p9 q9; obtain rfl := k44_openM hM9; have hx9_0 : w32.cell? ⟨go9, (a2 : Int).toNat * 3, none⟩ = some (.string ((rd_T44 t384 a2).f0)) := hcc9 0 _ rfl; have hx9_1 : w32.cell? ⟨go9, (a2 : Int).toNat * 3 + 1, none⟩ = some (.bool ((rd_T44 t384 a2).f1)) := hcc9 1 _ rfl; have hx9_2 : w32.cell? ⟨go9, (a2 : Int).toNat * 3 + 2, none⟩ = some (.string ((rd_T44 t384 a2).f2)) := hcc9 2 _ rfl; have hf9_0 : w32.frozen? ⟨go9, (a2 : Int).toNat * 3, none⟩ = false := hfr9 0; have hf9_1 : w32.frozen? ⟨go9, (a2 : Int).toNat * 3 + 1, none⟩ = false := hfr9 1; have hf9_2 : w32.frozen? ⟨go9, (a2 : Int).toNat * 3 + 2, none⟩ = false := hfr9 2; clear hcl9 hcc9 hfr9 hM9; replace p9 := eq_true p9; replace q9 := eq_true q9; have HX35 := Aside0.mk (show Kd.R k44 44 w32 w.heap.size (fun k_ => k_ ≠ gb383) (.slice (some ⟨go9, 0, none⟩) t384.length co26) t384 from (raR_ HO386)); obtain ⟨ce35, hcl35, hM35, hcc35, hfr35⟩ := Kd.R_elem HX35.out z44 (a2 : Int) (of_decide_eq_true tq_3) (by have h_ : (a2 : Int) < ((t384.length : Int) : Int) := of_decide_eq_true tq_3; first | exact h_ | (have e_ := (Kd.R_reads' HO386.out).1; omega) | simpa using h_); obtain rfl := k44_openM hM35; have HP35 := Kd.R_seg HX35.out (a2 : Int) (of_decide_eq_true tq_3) (by have h_ : (a2 : Int) < ((t384.length : Int) : Int) := of_decide_eq_true tq_3; first | exact h_ | (have e_ := (Kd.R_reads' HO386.out).1; omega) | simpa using h_) (seg := [.string ((rd_T44 l1_0 a2).f0), .bool ((rd_T44 l1_0 a2).f1), .string a3]) (j := 0) hcl35 hcc35 (show 3 ≤ 3 from by decide) (x' := (⟨(rd_T44 l1_0 a2).f0, (rd_T44 l1_0 a2).f1, a3⟩ : S44)) (k44_mkM _ _ _ (⟨(rd_T44 l1_0 a2).f0, (rd_T44 l1_0 a2).f1, a3⟩ : S44) ) (fun _ hk => hk); have hx35_0 := hcc35 0 _ rfl; (try simp only [show (k44).sz = 3 from rfl, Nat.mul_one, Nat.add_zero] at hx35_0); have hf35_0 := hfr35 0; (try simp only [show (k44).sz = 3 from rfl, Nat.mul_one, Nat.add_zero] at hf35_0); have hx35_1 := hcc35 1 _ rfl; (try simp only [show (k44).sz = 3 from rfl, Nat.mul_one, Nat.add_zero] at hx35_1); have hf35_1 := hfr35 1; (try simp only [show (k44).sz = 3 from rfl, Nat.mul_one, Nat.add_zero] at hf35_1); have hx35_2 := hcc35 2 _ rfl; (try simp only [show (k44).sz = 3 from rfl, Nat.mul_one, Nat.add_zero] at hx35_2); have hf35_2 := hfr35 2; (try simp only [show (k44).sz = 3 from rfl, Nat.mul_one, Nat.add_zero] at hf35_2); clear hcl35 hcc35 hfr35 hM35) | ((with_reducible refine gate_store (t := 44) (p := 25) rfl ?_); refine store_event (t := 44) (p := 25) (v := ?vo_w36) (w1 := (((w32.setCell ⟨go9, (a2 : Int).toNat * 3, none⟩ (.string ((rd_T44 l1_0 a2).f0))).setCell ⟨go9, (a2 : Int).toNat * 3 + 1, none⟩ (.bool ((rd_T44 l1_0 a2).f1))).setCell ⟨go9, (a2 : Int).toNat * 3 + 2, none⟩ (.string a3))) ?hg ?ho ?hn ?hr ?_; (case ho => rfl); (case hg => rfl); (case hn => rfl); (case hr => first | (go_simp; done) | (go_simp; rfl)); intro w36 hw; have hg : w32.grownBy w36 (some go9) := (by rw [hw]; exact HP35.2); have hp_ : Kd.R k44 44 w36 w.heap.size (fun k_ => k_ ≠ gb383) (.slice (some ⟨go9, 0, none⟩) t384.length co26) y388 := (by rw [hw, Ny388.out]; exact HP35.1); clear HP35; have z_ := p_ (blk_grown (g := gb379) (o := .cells #[.int .i64 a0_0, .int .i64 a0_1, .int .i64 a0_2, .int .i64 a0_3] 30 (0, 0)) (kb_ BK379) hg (Kd.R_ne HO386.out BK379.out (by decide))) <| p_ (blk_grown (g := gb380) (o := .cells #[.slice (some ad382) l1_0.length c1_0] 42 (0, 0)) (kb_ BK380) hg (Kd.R_ne HO386.out BK380.out (by decide))) <| p_ (blk_grown (g := gb381) (o := .cells #[.slice none 0 0] 42 (0, 0)) (kb_ BK381) hg (Kd.R_ne HO386.out BK381.out (by decide))) <| p_ (blk_grown (g := gb383) (o := .cells #[.string ((rd_T44 l1_0 a2).f0), .bool ((rd_T44 l1_0 a2).f1), .string a3] 44 (0, 0)) (kb_ BK383) hg (Kd.R_away HO386.out (fun _ hk => hk))) <| p_ (hp_) <| p_ (blk_grown (g := gb387) (o := .cells #[.slice (some ⟨go9, 0, none⟩) t384.length co26] 42 (0, 0)) (kb_ BK387) hg (Kd.R_ne HO386.out BK387.out (by decide))) <| a_ ((by rw [hw]; exact below_set (below_set (below_set (HB.out) GB9.out) GB9.out) GB9.out : Below w.heap.size w w36)); clear BK379 BK380 BK381 BK383 HO386 BK387 HB; obtain ⟨BK379, BK380, BK381, BK383, HO386, BK387, HB⟩ := z_; clear hg hw hp_))
 have z_ := p_ (Kd.R_drew HO386.out) <| dw5_ BK379 BK380 BK381 BK383 BK387 HB
 clear HO386 BK379 BK380 BK381 BK383 BK387 HB
 obtain ⟨HO386, BK379, BK380, BK381, BK383, BK387, HB⟩ := z_
 refine start_ (n := 5) (S := fun w' => w'.cell? ⟨gb387, 0, none⟩ = some (.slice (some ⟨go9, 0, none⟩) t384.length co26) ∧ w'.cell? ⟨gb379, 0, none⟩ = some (.int .i64 a0_0) ∧ w'.cell? ⟨gb379, 1, none⟩ = some (.int .i64 a0_1) ∧ w'.cell? ⟨gb379, 2, none⟩ = some (.int .i64 a0_2) ∧ w'.cell? ⟨gb379, 3, none⟩ = some (.int .i64 a0_3)) (ds := []) bq_66 (by kernel_rfl) rfl rfl ⟨(blk_cell BK387.out 0).trans rfl, bk4_ BK379.out⟩ (fun hHeld => ?_)
 generalize w36.drew = w37 at HO386 BK379 BK380 BK381 BK383 BK387 HB hHeld ⊢
 refine yq_ (i := 2) (N := some 28) #[false, false, true, false, false] (by kernel_rfl) ?_
 refine take_ (i := 0) (N := some 26) (v := ?_) (a' := ?_) #[true, false, true, false, false] rfl rfl (by kernel_rfl) (fun _ _ _ h => h) (Or.inl ⟨(by rfl), ?_⟩) hHeld ?_ ?_
 rotate_left
 ·rintro w' ⟨s0, s1, s2, s3, s4⟩
  go_simp
  with_reducible rfl
 rotate_left
 ·simp only [Act.put, List.setIfInBounds_toArray, List.set_cons_zero, List.set_cons_succ, i64_w, i32_w]
  rfl
 refine take_ (i := 3) (N := some 29) (v := ?_) (a' := ?_) #[true, false, true, true, false] rfl rfl (by kernel_rfl) (fun _ _ _ h => h) (Or.inl ⟨(by rfl), ?_⟩) hHeld ?_ ?_
 rotate_left
 ·rintro w' ⟨s0, s1, s2, s3, s4⟩
  go_simp
  with_reducible rfl
 rotate_left
 ·simp only [Act.put, List.setIfInBounds_toArray, List.set_cons_zero, List.set_cons_succ, i64_w, i32_w]
  rfl
 refine one_ (i := 1) (N := some 27) bq_67 rfl rfl (by kernel_rfl) (by decide) (fun K hK => ?_)
 refine goes_ Try.func150 (by kernel_rfl) rfl #[.agg #[.slice (some ⟨go9, 0, none⟩) y388.length co26]] (by rfl) rfl rfl (by (try simp only [List.map_toArray, List.map_cons, List.map_nil]); first | done | (rw [show y388.length = t384.length from (Kd.R_reads' HO386.out).1.symm] <;> rfl) | rfl | (simp only [List.length_drop, List.length_take]; rfl)) ?_
 with_reducible refine (spec_PagesIn.calls k _ _ y388 t389 _ ?side1 ?side2 A10.out).mono ?_
 (case side1 => repeat (first | exact (Kd.R_reads' HO386.out).2.2 | (with_reducible refine Kd.C_alloc ?_ _) | (with_reducible refine Kd.C_drewN ?_ _) | (with_reducible refine Kd.C_drew ?_)))
 (case side2 => rw [show y388.length = t384.length from (Kd.R_reads' HO386.out).1.symm]; exact (Kd.R_reads' HO386.out).2.1)
 rintro e w38 ⟨rfl, hb⟩
 refine ⟨_, rfl, ?_⟩
 have z_ := p_ (Kd.R_below (raR_ HO386) hb) <| bw5_ (kb_ BK379) (kb_ BK380) (kb_ BK381) (kb_ BK383) (kb_ BK387) th_ hb
 clear HO386 BK379 BK380 BK381 BK383 BK387 HB
 obtain ⟨HO386, BK379, BK380, BK381, BK383, BK387, HB⟩ := z_
 (try clear hb)
 refine hK.out _ _ ⟨(blk_cell BK387.out 0).trans rfl, bk4_ BK379.out⟩ (fun hHeld => ?_)
 clear hK K
 refine nm_ (some 27) ?_
 refine yq_ (i := 4) (N := some 30) bq_68 (by kernel_rfl) ?_
 refine done_ (by kernel_rfl) ?_
 go_upto_if 30 with (fail)
 (try clear n379_380 n379_383 n379_387 n380_379 n380_381 n380_383 n380_387 n381_380 n381_383 n381_387 n383_379 n383_380 n383_381 n383_387 n387_379 n387_380 n387_381 n387_383)
 (try clear hcz22_0 hcz22_1 hcz22_2)
 (try clear hcz34_0 hcz34_1 hcz34_2)
 (try clear hfz22_0 hfz22_1 hfz22_2)
 (try clear hfz34_0 hfz34_1 hfz34_2)
 (try clear hx35_0 hx35_1 hx35_2)
 (try clear hx382_0 hx382_1 hx382_2)
 (try clear hx9_0 hx9_1 hx9_2)
 have H := HC11.out
 clear HC11
 by_cases c39 : t389 > a0_3
 rotate_left
 ·rw [if_neg c39] at H
  have c39b0 := decide_eq_false c39
  clear c39
  (first | rw [c39b0] | (simp only [i64_w, i32_w]; rw [c39b0]) | skip)
  simp only [Option.some.injEq, Prod.mk.injEq] at H
  obtain ⟨rfl, rfl⟩ := H
  obtain ⟨n387_379, n379_387, n387_380, n380_387, n387_381, n381_387, n387_383, n383_387⟩ := an8_ NB387_379 NB379_387 NB387_380 NB380_387 NB387_381 NB381_387 NB387_383 NB383_387
  have hcz56_0 := bc_ BK387.out 0
  have hfz56_0 := blk_frozen BK387.out 0
  obtain ⟨n381_379, n379_381, n381_380, n380_381, n381_383, n383_381⟩ := an6_ NB381_379 NB379_381 NB381_380 NB380_381 NB381_383 NB383_381
  have hcz60_0 := bc_ BK381.out 0
  have hfz60_0 := blk_frozen BK381.out 0
  go_wp2
  refine bodyPost_ret (results_ct rfl _ _ gb381 42 #[.slice (some ⟨go9, 0, none⟩) t384.length co26] (0, 0) _ rfl tb_ Try.underlying42 rfl (by kernel_rfl)) rfl ?_
  exact ⟨_, tq_1, (by (with_reducible repeat (first | apply Kd.R_alloc | apply Kd.R_drewN | apply Kd.R_drew)); exact Kd.R_mono (rR_ (Kd.R_types HO386.out BK381.out (by decide))) (fun _ hk => trivial)), th_⟩
 rw [if_pos c39] at H
 have c39b0 := decide_eq_true c39
 clear c39
 (first | rw [c39b0] | (simp only [i64_w, i32_w]; rw [c39b0]) | skip)
 obtain ⟨t390, A40, H⟩ := bd_ H
 simp only [Option.some.injEq, Prod.mk.injEq] at H
 obtain ⟨rfl, rfl⟩ := H
 obtain ⟨n380_379, n379_380, n380_381, n381_380, n380_383, n383_380, n380_387, n387_380⟩ := an8_ NB380_379 NB379_380 NB380_381 NB381_380 NB380_383 NB383_380 NB380_387 NB387_380
 have hcz45_0 := bc_ BK380.out 0
 have hfz45_0 := blk_frozen BK380.out 0
 go_wp2_with (first | ((with_reducible refine gate_callee (f := 123) rfl ?_); refine goesL_ (some 32) rfl rfl Try.func123 (by kernel_rfl) rfl #[.agg #[.slice (some ad382) l1_0.length c1_0]] rfl tq_0 ?_; (with_reducible refine (spec_l17Same.calls _ _ l1_0 t390 _ ?side1 ?side2 A40.out).mono ?_); (case side1 => exact tq_11); (case side2 => exact HC1_0.out); rintro e w46 ⟨v391, rfl, ho0, hb⟩; refine ⟨_, rfl, ?_⟩; have z_ := p_ (Kd.R_elder' (raR_ HO386) (Kd.R_base ho0) hb) <| p_ (Kd.R_lower (Kd.R_newB (Kd.R_new' ho0 (Kd.R_lt (raR_ HO386))) (g := gb383) (o := .cells #[.string ((rd_T44 l1_0 a2).f0), .bool ((rd_T44 l1_0 a2).f1), .string a3] 44 (0, 0)) (kb_ BK383)) (below_size th_)) <| bw5_ (kb_ BK379) (kb_ BK380) (kb_ BK381) (kb_ BK383) (kb_ BK387) th_ hb; clear HO386 BK379 BK380 BK381 BK383 BK387 HB; obtain ⟨HO386, HO392, BK379, BK380, BK381, BK383, BK387, HB⟩ := z_; (try clear hb); (try clear ho0); obtain ⟨Ao47, co47, eo47⟩ := Kd.R_slice HO392.out; subst eo47; obtain ⟨n381_379, n379_381, n381_383, n383_381, n381_387, n387_381⟩ := an6_ NB381_379 NB379_381 NB381_383 NB383_381 NB381_387 NB387_381; have hcz51_0 := bc_ BK381.out 0; have hfz51_0 := blk_frozen BK381.out 0))
 refine bodyPost_ret (results_ct rfl _ _ gb381 42 #[.slice Ao47 t390.length co47] (0, 0) _ rfl tb_ Try.underlying42 rfl (by kernel_rfl)) rfl ?_
 exact ⟨_, tq_1, (by (with_reducible repeat (first | apply Kd.R_alloc | apply Kd.R_drewN | apply Kd.R_drew)); exact Kd.R_mono (rR_ (Kd.R_types HO392.out BK381.out (by decide))) (fun _ hk => trivial)), th_⟩

/-! ### spec_l01Long: function 82 -/
def spec_l01Long.l0 : Nat → Int → Int → List Int → Int → Option (ByteArray)
 | 0, _, _, _, _ => none
 | k + 1, x0, x1, x5, x6 => if x6 < x0 then (if 0 ≤ x6 then (if x6 < (x5.length : Int) then (spec_l01Long.l0 k x0 x1 (x5.set (x6 : Int).toNat x1) (wrap64 (x6 + 1))) else (none)) else (none)) else (some (strOfNums x5))
def spec_l01Long.f (k : Nat) (a0 : Int) (a1 : Int) : Option (ByteArray) := if 0 ≤ a0 then (if (a0 : Int).toNat ≤ 281474976710656 then (spec_l01Long.l0 k a0 a1 (List.replicate (a0 : Int).toNat 0) 0) else (none)) else (none)
theorem spec_l01Long.mono_l : ∀ k, (∀ y0 y1 y2 y3, LeO (spec_l01Long.l0 k y0 y1 y2 y3) (spec_l01Long.l0 (k + 1) y0 y1 y2 y3))
 | 0 => fun _ _ _ _ r h => by simp [spec_l01Long.l0] at h
 | k + 1 => by
  have ih0 := spec_l01Long.mono_l k
  ·intro y0 y1 y2 y3
   unfold spec_l01Long.l0
   exact mo_0
theorem spec_l01Long.mono : ∀ a0 a1 k, LeO (spec_l01Long.f k a0 a1) (spec_l01Long.f (k + 1) a0 a1) := by
 intro a0 a1 k
 have ih0 := spec_l01Long.mono_l k
 unfold spec_l01Long.f
 repeat' first
   | (with_reducible exact ih0 ..)
   | (with_reducible exact LeO.refl _)
   | (with_reducible exact LeO.none _)
   | (with_reducible refine LeO.ite ?_ ?_)
   | (with_reducible refine LeO.bind ?_ (fun _ => ?_))
   | exact ih0 ..
   | exact LeO.none _
   | refine LeO.ite ?_ ?_
   | refine LeO.bind ?_ (fun _ => ?_)
set_option maxHeartbeats 8000000 in
set_option maxRecDepth 100000 in
theorem spec_l01Long.calls (k : Nat) (a0 : Int) (a1 : Int) (r : ByteArray) (w : World) (h : spec_l01Long.f k a0 a1 = some r) :
  Calls Try.prog 82 #[.int .i64 a0, .int .u8 a1] w fun e w' => e = .returned (.string r) ∧ Below w.heap.size w w' := by
 have HB := Aside0.mk (Below.refl w.heap.size w)
 unfold spec_l01Long.f at h
 have H := h
 clear h
 obtain ⟨c3, H⟩ := fc_ H
 have c3b0 := eq_true c3
 have c3b1 := decide_eq_true c3
 clear c3
 obtain ⟨c4, H⟩ := fc_ H
 have c4b0 := eq_true c4
 have c4b1 := decide_eq_true c4
 clear c4
 obtain ⟨y393, hy393⟩ : ∃ y_ : List Int, y_ = (List.replicate (a0 : Int).toNat 0) := ⟨_, rfl⟩
 replace H : (spec_l01Long.l0 k a0 a1 y393 0) = some r := by first | (rw [hy393]; with_reducible exact H) | (have H2_ := (Option.bind_some _ _).symm.trans H; rw [hy393]; with_reducible exact H2_) | (have H2_ := (Option.bind_some _ _).symm.trans H; with_reducible exact H2_) | with_reducible exact H | (rw [hy393]; exact H) | exact H
 have Ny393 := Aside0.mk hy393
 clear hy393
 have H' := Aside0.mk H
 clear H
 go_enter Try.func82, Try.ntmps82
 go_wp2_with (first | ((with_reducible refine gate_dst (N := 8) rfl ?_); refine Kd.R_make (Kd.int .u8) _ 5 rfl (N := 8) rfl 38 _ _ rfl a0 rfl rfl Try.underlying38 (.int .u8 0) 1 info5 rfl (by decide) (by omega) 0 (ok := fun _ => True) (okp := fun _ => True) rfl (fun _ hk => hk) trivial (of_decide_eq_true tq_3) (Nat.le_trans (Nat.mul_le_mul_right _ (of_decide_eq_true tq_3 : a0.toNat ≤ 281474976710656)) (by omega)) (Below.refl _ _) (Nat.le_refl _) ?_; intro v394 w5 ho6 hb hg_ hnew_; clear hg_ hnew_; (first | rw [← Ny393.out] at ho6 | (simp only [Int.reduceToNat] at ho6; rw [← Ny393.out] at ho6)); have z_ := p_ (Kd.R_lower ho6 (below_size th_)) <| a_ (below_step th_ hb); clear HB; obtain ⟨HO395, HB⟩ := z_; clear hb ho6))
 go_loopg [6] k (fun kq v6 w' => ∃ (x5_1 : List Int) (x6_1 : Int), v6 = .int .i64 x6_1 ∧ Aside0 (spec_l01Long.l0 kq a0 a1 x5_1 x6_1 = some r) ∧ Aside0 (kq ≤ k) ∧ Aside0 (Kd.R (Kd.int .u8) 5 w' w.heap.size (fun _ => True) v394 x5_1) ∧ Aside0 (Below w.heap.size w w'))
 case atStart => exact ⟨(y393), (0), tq_5, H', ⟨Nat.le_refl _⟩, ⟨(raR_ HO395)⟩, ⟨th_⟩⟩
 case round =>
 clear H'
 try clear p2; try clear c3; try clear c3b0; try clear c3b1; try clear c4; try clear c4b0; try clear c4b1
 obtain ⟨x5_1, x6_1, rfl, HA, HK1, HO_5, HB⟩ := hrel
 cases gk with
 | zero => exact absurd HA.out (by simp [spec_l01Long.l0])
 | succ k1 =>
 have H := HA.out
 clear HA
 simp only [spec_l01Long.l0] at H
 by_cases c7 : x6_1 < a0
 rotate_left
 ·rw [if_neg c7] at H
  have c7b0 := decide_eq_false c7
  clear c7
  obtain rfl := Option.some.inj H
  have hcv13 := own_string (P := Try.prog) Try.underlying38 Try.underlying5 Try.underlying9 (Kd.own_of_R HO_5.out)
  go_wp2
  go_ret
  exact ⟨tq_1, th_⟩
 rw [if_pos c7] at H
 have c7b0 := decide_eq_true c7
 clear c7
 obtain ⟨c8, H⟩ := fc_ H
 have c8b0 := decide_eq_true c8
 clear c8
 obtain ⟨c9, H⟩ := fc_ H
 have c9b0 := decide_eq_true c9
 clear c9
 obtain ⟨y396, hy396⟩ : ∃ y_ : List Int, y_ = (x5_1.set (x6_1 : Int).toNat a1) := ⟨_, rfl⟩
 replace H : (spec_l01Long.l0 k1 a0 a1 y396 (wrap64 (x6_1 + 1))) = some r := by first | (rw [hy396]; with_reducible exact H) | (have H2_ := (Option.bind_some _ _).symm.trans H; rw [hy396]; with_reducible exact H2_) | (have H2_ := (Option.bind_some _ _).symm.trans H; with_reducible exact H2_) | with_reducible exact H | (rw [hy396]; exact H) | exact H
 have Ny396 := Aside0.mk hy396
 clear hy396
 have H' := Aside0.mk H
 clear H
 have p10 : 0 ≤ (x6_1 : Int) := of_decide_eq_true tq_3
 have q10 : (x6_1 : Int) < ((x5_1.length : Int) : Int) := of_decide_eq_true tq_3
 obtain ⟨go10, co10, eo10, gb10, gl10, cl10, HG10⟩ := Kd.R_form HO_5.out (by omega)
 (first | cases eo10 | (injection eo10 with ea_ en_ ec_; (first | subst ea_ | (injection ea_ with ea_; subst ea_)); subst ec_; clear en_))
 have GB10 := Aside0.mk gb10
 have GG10 := Aside0.mk HG10
 clear gb10 gl10 HG10
 obtain ⟨hx10_0, hf10_0⟩ := Kd.R_celln 0 HO_5.out (x6_1 : Int) p10 q10
 replace p10 := eq_true p10
 replace q10 := eq_true q10
 have HP11 := Kd.R_putg HO_5.out (x6_1 : Int) a1
 go_wp2_with (first | ((with_reducible refine gate_store (t := 5) (p := 17) rfl ?_); refine store_event (t := 5) (p := 17) (v := ?vo_w12) (w1 := (wr.setCell ⟨go10, (x6_1 : Int).toNat, none⟩ (.int .u8 a1))) ?hg ?ho ?hn ?hr ?_; (case ho => rfl); (case hg => rfl); (case hn => rfl); (case hr => first | (go_simp; done) | (go_simp; rfl)); intro w12 hw; have hg : wr.grownBy w12 (some go10) := (by rw [hw]; exact HP11.2); have hp_ : Kd.R (Kd.int .u8) 5 w12 w.heap.size (fun _ => True) (.slice (some ⟨go10, 0, none⟩) x5_1.length co10) y396 := (by rw [hw, Ny396.out]; exact HP11.1); clear HP11; have z_ := p_ (hp_) <| a_ ((by rw [hw]; exact below_set (HB.out) GB10.out : Below w.heap.size w w12)); clear HO_5 HB; obtain ⟨HO_5, HB⟩ := z_; clear hg hw hp_))
 go_roundg k1
 case measure => have := HK1.out; omega
 case rel => exact ⟨(y396), (wrap64 (x6_1 + 1)), tq_5, H', ⟨tq_79⟩, ⟨(raR_ HO_5)⟩, ⟨th_⟩⟩

/-! ### spec_ZeroText: function 112 -/
def spec_ZeroText.f (k : Nat) (a0 : Int) : Option (ByteArray) := (spec_l01In.f a0 0 20000).bind fun t397 => (if t397 = true then ((spec_l01Long.f k a0 0).bind fun t398 => (some t398)) else (some (⟨#[]⟩ : ByteArray)))
theorem spec_ZeroText.mono : ∀ a0 k, LeO (spec_ZeroText.f k a0) (spec_ZeroText.f (k + 1) a0) := by
 intro a0 k
 unfold spec_ZeroText.f
 repeat' first
   | (with_reducible exact spec_l01Long.mono ..)
   | (with_reducible exact LeO.refl _)
   | (with_reducible exact LeO.none _)
   | (with_reducible refine LeO.ite ?_ ?_)
   | (with_reducible refine LeO.bind ?_ (fun _ => ?_))
   | exact spec_l01Long.mono ..
   | exact LeO.none _
   | refine LeO.ite ?_ ?_
   | refine LeO.bind ?_ (fun _ => ?_)
set_option maxHeartbeats 8000000 in
set_option maxRecDepth 100000 in
theorem spec_ZeroText.calls (k : Nat) (a0 : Int) (r : ByteArray) (w : World) (h : spec_ZeroText.f k a0 = some r) :
  Calls Try.prog 112 #[.int .i64 a0] w fun e w' => e = .returned (.string r) ∧ Below w.heap.size w w' := by
 have HB := Aside0.mk (Below.refl w.heap.size w)
 unfold spec_ZeroText.f at h
 have H := h
 clear h
 obtain ⟨t397, A2, H⟩ := bd_ H
 by_cases c3 : t397 = true
 rotate_left
 ·replace c3 := Bool.eq_false_iff.mpr c3
  subst c3
  rw [if_neg nf_] at H
  obtain rfl := Option.some.inj H
  go_enter Try.func112, Try.ntmps112
  go_wp2_with (first | ((with_reducible refine gate_callee (f := 30) rfl ?_); refine goesL_ (some 4) rfl rfl Try.func30 (by kernel_rfl) rfl #[.int .i64 a0, .int .i64 0, .int .i64 20000] rfl tq_0 ?_; (with_reducible refine (spec_l01In.calls a0 0 20000 false _ A2.out).mono ?_); rintro e w' ⟨rfl, ⟨nd, rfl⟩⟩; refine ⟨_, rfl, ?_⟩))
  go_ret
  exact ⟨tq_1, th_⟩
 subst c3
 rw [if_pos rfl] at H
 obtain ⟨t398, A4, H⟩ := bd_ H
 obtain rfl := Option.some.inj H
 go_enter Try.func112, Try.ntmps112
 go_wp2_with (first | ((with_reducible refine gate_callee (f := 30) rfl ?_); refine goesL_ (some 4) rfl rfl Try.func30 (by kernel_rfl) rfl #[.int .i64 a0, .int .i64 0, .int .i64 20000] rfl tq_0 ?_; (with_reducible refine (spec_l01In.calls a0 0 20000 true _ A2.out).mono ?_); rintro e w' ⟨rfl, ⟨nd, rfl⟩⟩; refine ⟨_, rfl, ?_⟩) | ((with_reducible refine gate_callee (f := 82) rfl ?_); refine goesL_ (some 7) rfl rfl Try.func82 (by kernel_rfl) rfl #[.int .i64 a0, .int .u8 0] rfl tq_0 ?_; (with_reducible refine (spec_l01Long.calls k a0 0 t398 _ A4.out).mono ?_); rintro e w5 ⟨rfl, hb⟩; refine ⟨_, rfl, ?_⟩; have n0_ := Aside0.mk (below_step th_ hb); clear HB; have HB := n0_; clear n0_; (try clear hb)))
 go_ret
 exact ⟨tq_1, th_⟩

end Go.Proofs.Ytljnnmpfeningaa.PFnViews
