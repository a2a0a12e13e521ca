/- Contracts of Go functions, written by a program of ours over the print of the kit: each says that the call returns what the Lean function beside it computes. Conditions: as each theorem states them. -/
import Derived.Test.YtljnnmpfeningaaPkFnExactPartOk
import Derived.Test.YtljnnmpfeningaaPFnExactPartOkx0
import Derived.Test.YtljnnmpfeningaaPFnExactPartOkx12
namespace Go.Proofs.Ytljnnmpfeningaa.PFnExactPartOk
open Go.RowKit Go.Proofs.YtljnnmpfeningaaW.PrintWords Go.Proofs.YtljnnmpfeningaaW.PrintLast Go.Proofs.YtljnnmpfeningaaW.PrintMore
attribute [local go_sem] max2_int min2_int max_two min_two max_three min_three max_four min_four   -- for this text's walks alone
set_option linter.unusedVariables false
set_option linter.unusedSimpArgs false

/-! ### impl_isDir: function 102 -/
def impl_isDir.l0 : Nat → List (S67) → Int → Int → Int → Int → Int → ByteArray → List (S96) → List (S67) → Option (Bool)
 | 0, _, _, _, _, _, _, _, _, _ => none
 | k + 1, x6, x7, x8, x312000, x312001, x312002, x312003, x312004, x312005 => if x8 < x7 then (if 0 ≤ x8 then (if x8 < (x6.length : Int) then ((impl_EntryWord.f k ((rd_T67 x6 x8).f0) ((rd_T67 x6 x8).f1)).bind fun t314 => (if t314.toList = ([] : List UInt8) then (some false) else (if x8 > 0 then (if 0 ≤ (wrap64 (x8 - 1)) then (if (wrap64 (x8 - 1)) < (x312005.length : Int) then (if ((Op.bytesLess (((rd_T67 x312005 (wrap64 (x8 - 1))).f1).toList) (((rd_T67 x6 x8).f1).toList)) = true) then (impl_isDir.l0 k x6 x7 (wrap64 (x8 + 1)) x312000 x312001 x312002 x312003 x312004 x312005) else (some false)) else (none)) else (none)) else (impl_isDir.l0 k x6 x7 (wrap64 (x8 + 1)) x312000 x312001 x312002 x312003 x312004 x312005)))) else (none)) else (none)) else (if x312001 = 0 then (if x312003.toList = ([] : List UInt8) then (if (x312004.length : Int) = 0 then (some (decide ((x312005.length : Int) ≤ 6))) else (some false)) else (some false)) else (some false))
def impl_isDir.f (k : Nat) (a0_0 : Int) (a0_1 : Int) (a0_2 : Int) (a0_3 : ByteArray) (l0_4 : List (S96)) (l0_5 : List (S67)) : Option (Bool) := impl_isDir.l0 k l0_5 (l0_5.length : Int) 0 a0_0 a0_1 a0_2 a0_3 l0_4 l0_5
theorem impl_isDir.mono_l : ∀ k, (∀ y0 y1 y2 y3 y4 y5 y6 y7 y8, LeO (impl_isDir.l0 k y0 y1 y2 y3 y4 y5 y6 y7 y8) (impl_isDir.l0 (k + 1) y0 y1 y2 y3 y4 y5 y6 y7 y8))
 | 0 => fun _ _ _ _ _ _ _ _ _ r h => by simp [impl_isDir.l0] at h
 | k + 1 => by
  have ih0 := impl_isDir.mono_l k
  ·intro y0 y1 y2 y3 y4 y5 y6 y7 y8
   unfold impl_isDir.l0
   repeat' first
   | (with_reducible exact ih0 ..)
   | (with_reducible exact impl_EntryWord.mono ..)
   | (with_reducible exact LeO.refl _)
   | (with_reducible exact LeO.none _)
   | (with_reducible refine LeO.ite ?_ ?_)
   | (with_reducible refine LeO.bind ?_ (fun _ => ?_))
   | exact ih0 ..
   | exact impl_EntryWord.mono ..
   | exact LeO.none _
   | refine LeO.ite ?_ ?_
   | refine LeO.bind ?_ (fun _ => ?_)
theorem impl_isDir.mono : ∀ a0 a1 a2 a3 a4 a5 k, LeO (impl_isDir.f k a0 a1 a2 a3 a4 a5) (impl_isDir.f (k + 1) a0 a1 a2 a3 a4 a5) := by
 intro a0 a1 a2 a3 a4 a5 k
 have ih0 := impl_isDir.mono_l k
 unfold impl_isDir.f
 repeat' first
   | (with_reducible exact ih0 ..)
   | (with_reducible exact impl_EntryWord.mono ..)
   | (with_reducible exact LeO.refl _)
   | (with_reducible exact LeO.none _)
   | (with_reducible refine LeO.ite ?_ ?_)
   | (with_reducible refine LeO.bind ?_ (fun _ => ?_))
   | exact ih0 ..
   | exact impl_EntryWord.mono ..
   | exact LeO.none _
   | refine LeO.ite ?_ ?_
   | refine LeO.bind ?_ (fun _ => ?_)
def impl_isDir.T4 : Bool × List (List Nat × List Nat) := (true, [([], []), ([0], [0]), ([1], [1]), ([2, 1], [2]), ([3], [3]), ([4, 3], [3, 4]), ([5, 3, 3], [3, 5]), ([6], [6]), ([7, 6], [6, 7]), ([6], [6]), ([9, 6], [6, 9]), ([6], [6]), ([11, 6], [6, 11]), ([10, 12, 6], [6, 10, 12]), ([13, 6], [6, 13]), ([14, 6], [6, 14]), ([8, 15, 6], [6, 8, 15]), ([6, 16, 3], [3, 6, 16]), ([3, 17], [3, 17])])
def impl_isDir.B4 : List Nat := [0, 1, 3, 7, 15, 31, 63, 127, 255, 127, 639, 127, 2175, 7807, 15999, 32383, 65535, 131071, 262143]
theorem impl_isDir.tab4 : rtab .any (opsOf Try.f102 4) = impl_isDir.T4 := by kernel_rfl
theorem impl_isDir.bits4 : waitsOk impl_isDir.T4.2 impl_isDir.B4 = true := by kernel_rfl
set_option maxHeartbeats 8000000 in
set_option maxRecDepth 100000 in
theorem impl_isDir.calls (k : Nat) (a0_0 : Int) (a0_1 : Int) (a0_2 : Int) (a0_3 : ByteArray) (A0_4 : Option Addr) (c0_4 : Nat) (l0_4 : List (S96)) (A0_5 : Option Addr) (c0_5 : Nat) (l0_5 : List (S67)) (r : Bool) (w : World) (hr0_4 : Kd.C k96 w A0_4 l0_4.length l0_4) (hc0_4 : l0_4.length ≤ c0_4) (hr0_5 : Kd.C k67 w A0_5 l0_5.length l0_5) (hc0_5 : l0_5.length ≤ c0_5) (h : impl_isDir.f k a0_0 a0_1 a0_2 a0_3 l0_4 l0_5 = some r) :
  Calls Try.prog 102 #[.agg #[.int .i64 a0_0, .int .i64 a0_1, .int .i64 a0_2, .string a0_3, .slice A0_4 l0_4.length c0_4, .slice A0_5 l0_5.length c0_5]] w fun e w' => e = .returned (.bool r) ∧ Below w.heap.size w w' := by
 have hu64 := Try.underlying64
 have hu67 := Try.underlying67
 have HR0_4 := Aside0.mk hr0_4
 have HC0_4 := Aside0.mk hc0_4
 clear hr0_4 hc0_4
 have HR0_5 := Aside0.mk hr0_5
 have HC0_5 := Aside0.mk hc0_5
 clear hr0_5 hc0_5
 have HB := Aside0.mk (Below.refl w.heap.size w)
 have H : (impl_isDir.l0 k l0_5 (l0_5.length : Int) 0 a0_0 a0_1 a0_2 a0_3 l0_4 l0_5) = some r := h
 clear h
 have H' := Aside0.mk H
 clear H
 go_enter Try.func102, Try.ntmps102
 go_wp2_with (first | ((with_reducible refine gate_dst (N := 1) rfl ?_); (try (refine gate_guard (by rfl) ?_; dsimp only)); refine box_event ?hg (N := 1) ?hd (cs := #[.int .i64 a0_0, .int .i64 a0_1, .int .i64 a0_2, .string a0_3, .slice A0_4 l0_4.length c0_4, .slice A0_5 l0_5.length c0_5]) (t := 64) ?hr ?_; (case hd => rfl); (case hg => rfl); (case hr => first | (go_simp; done) | (go_simp; rfl)); intro gb311 hg w2 hbox hb; have z_ := p_ (below_step tq_0 hb) <| p_ (hbox) <| p_ (gb_ hg tq_0) <| a_ (gb_ hg tq_0); clear HB; obtain ⟨HB, BK311, GW311, GE311⟩ := z_; clear hb hbox hg; obtain ⟨hcz3_0, hcz3_1, hcz3_2, hcz3_3, hcz3_4, hcz3_5⟩ := bk6_ BK311.out; obtain ⟨hfz3_0, hfz3_1, hfz3_2, hfz3_3, hfz3_4, hfz3_5⟩ := bf6_ BK311.out))
 go_loopg [8] k (fun kq v8 w' => ∃ (x8_1 : Int), v8 = .int .i64 x8_1 ∧ Aside0 (impl_isDir.l0 kq l0_5 (l0_5.length : Int) x8_1 a0_0 a0_1 a0_2 a0_3 l0_4 l0_5 = some r) ∧ Aside0 (kq ≤ k) ∧ Aside0 (w'.heap[gb311]? = some (.cells #[.int .i64 a0_0, .int .i64 a0_1, .int .i64 a0_2, .string a0_3, (.slice A0_4 l0_4.length c0_4), (.slice A0_5 l0_5.length c0_5)] 64 (0, 0))) ∧ Aside0 (Below w.heap.size w w'))
 case atStart => exact ⟨(0), tq_4, H', ⟨Nat.le_refl _⟩, ⟨tq_36⟩, ⟨tq_25⟩⟩
 case round =>
 clear H'
 try clear c1; try clear p2; try clear hcz3_0 hcz3_1 hcz3_2 hcz3_3 hcz3_4 hcz3_5 hfz3_0 hfz3_1 hfz3_2 hfz3_3 hfz3_4 hfz3_5
 obtain ⟨x8_1, rfl, HA, HK1, BK311, HB⟩ := hrel
 cases gk with
 | zero => exact absurd HA.out (by simp [impl_isDir.l0])
 | succ k1 =>
 have H := HA.out
 clear HA
 simp only [impl_isDir.l0] at H
 by_cases c4 : x8_1 < (l0_5.length : Int)
 rotate_left
 ·rw [if_neg c4] at H
  have c4b0 := decide_eq_false c4
  clear c4
  by_cases c38 : a0_1 = 0
  rotate_left
  ·rw [if_neg c38] at H
   have c38b0 := beq_eq_false_iff_ne.mpr c38
   have c38b1 := bne_iff_ne.mpr c38
   obtain rfl := Option.some.inj H
   obtain ⟨hcz44_0, hcz44_1, hcz44_2, hcz44_3, hcz44_4, hcz44_5⟩ := bk6_ BK311.out
   obtain ⟨hfz44_0, hfz44_1, hfz44_2, hfz44_3, hfz44_4, hfz44_5⟩ := bf6_ BK311.out
   go_wp2
   go_ret
   exact ⟨tq_2, tq_25⟩
  rw [if_pos c38] at H
  have c38b0 := beq_iff_eq.mpr c38
  have c38b1 := bne_eq_false_iff_eq.mpr c38
  clear c38
  by_cases c39 : a0_3.toList = ([] : List UInt8)
  rotate_left
  ·rw [if_neg c39] at H
   have c39b0 := beq_eq_false_iff_ne.mpr c39
   have c39b1 := bne_iff_ne.mpr c39
   obtain rfl := Option.some.inj H
   obtain ⟨hcz43_0, hcz43_1, hcz43_2, hcz43_3, hcz43_4, hcz43_5⟩ := bk6_ BK311.out
   obtain ⟨hfz43_0, hfz43_1, hfz43_2, hfz43_3, hfz43_4, hfz43_5⟩ := bf6_ BK311.out
   go_wp2
   go_ret
   exact ⟨tq_2, tq_25⟩
  rw [if_pos c39] at H
  have c39b0 := beq_iff_eq.mpr c39
  have c39b1 := bne_eq_false_iff_eq.mpr c39
  clear c39
  by_cases c40 : (l0_4.length : Int) = 0
  ·rw [if_pos c40] at H
   have c40b0 := beq_iff_eq.mpr c40
   have c40b1 := bne_eq_false_iff_eq.mpr c40
   clear c40
   obtain rfl := Option.some.inj H
   obtain ⟨hcz41_0, hcz41_1, hcz41_2, hcz41_3, hcz41_4, hcz41_5⟩ := bk6_ BK311.out
   obtain ⟨hfz41_0, hfz41_1, hfz41_2, hfz41_3, hfz41_4, hfz41_5⟩ := bf6_ BK311.out
   go_wp2
   go_ret
   exact ⟨tq_2, tq_25⟩
  rw [if_neg c40] at H
  have c40b0 := beq_eq_false_iff_ne.mpr c40
  have c40b1 := bne_iff_ne.mpr c40
  have c40b2 : ¬ (l0_4 = []) := fun h_ => c40 (by rw [h_]; rfl)
  obtain rfl := Option.some.inj H
  obtain ⟨hcz42_0, hcz42_1, hcz42_2, hcz42_3, hcz42_4, hcz42_5⟩ := bk6_ BK311.out
  obtain ⟨hfz42_0, hfz42_1, hfz42_2, hfz42_3, hfz42_4, hfz42_5⟩ := bf6_ BK311.out
  go_wp2
  go_ret
  exact ⟨tq_2, tq_25⟩
 rw [if_pos c4] at H
 have c4b0 := decide_eq_true c4
 clear c4
 by_cases c5 : 0 ≤ x8_1
 rotate_left
 ·rw [if_neg c5] at H
  exact absurd H (by simp)
 rw [if_pos c5] at H
 have c5b0 := decide_eq_true c5
 clear c5
 by_cases c6 : x8_1 < (l0_5.length : Int)
 rotate_left
 ·rw [if_neg c6] at H
  exact absurd H (by simp)
 rw [if_pos c6] at H
 have c6b0 := decide_eq_true c6
 clear c6
 replace H := Option.bind_eq_some_iff.mp H
 obtain ⟨t314, A70, H⟩ := H
 replace H : (if t314.toList = ([] : List UInt8) then (some false) else (if x8_1 > 0 then (if 0 ≤ (wrap64 (x8_1 - 1)) then (if (wrap64 (x8_1 - 1)) < (l0_5.length : Int) then (if ((Op.bytesLess (((rd_T67 l0_5 (wrap64 (x8_1 - 1))).f1).toList) (((rd_T67 l0_5 x8_1).f1).toList)) = true) then (impl_isDir.l0 k1 l0_5 (l0_5.length : Int) (wrap64 (x8_1 + 1)) a0_0 a0_1 a0_2 a0_3 l0_4 l0_5) else (some false)) else (none)) else (none)) else (impl_isDir.l0 k1 l0_5 (l0_5.length : Int) (wrap64 (x8_1 + 1)) a0_0 a0_1 a0_2 a0_3 l0_4 l0_5))) = some r := H
 have A7 := Aside0.mk A70
 clear A70
 by_cases c8 : t314.toList = ([] : List UInt8)
 ·rw [if_pos c8] at H
  have c8b0 := beq_iff_eq.mpr c8
  have c8b1 := bne_eq_false_iff_eq.mpr c8
  clear c8
  obtain rfl := Option.some.inj H
  have p312 : 0 ≤ (x8_1 : Int) := of_decide_eq_true tq_3
  have q312 : x8_1 < (l0_5.length : Int) := of_decide_eq_true tq_3
  obtain ⟨ad312, e312, hx312_0, hx312_1⟩ := at_T67 HR0_5.out x8_1 p312 q312
  cases e312
  replace hx312_0 := hx_ HB.out hx312_0
  replace hx312_1 := hx_ HB.out hx312_1
  replace p312 := eq_true p312
  replace q312 := eq_true q312
  try go_wp2_with (first | ((with_reducible refine gate_dst (N := 4) rfl ?_); (try (refine gate_guard (by rfl) ?_; dsimp only)); refine box_event ?hg (N := 4) ?hd (cs := #[.int .i64 0, .string (⟨#[]⟩ : ByteArray)]) (t := 67) ?hr ?_; (case hd => rfl); (case hg => rfl); (case hr => first | (go_simp; done) | (go_simp; rfl)); intro gb313 hg w9 hbox hb; have z_ := p_ (blk_below tq_36 hb) <| p_ (below_step tq_25 hb) <| p_ (hbox) <| p_ (gb_ hg tq_25) <| p_ (gb_ hg tq_25) <| p_ (ltne_ hg (blk_lt tq_36)) <| a_ (gtne_ hg (blk_lt tq_36)); clear BK311 HB; obtain ⟨BK311, HB, BK313, GW313, GE313, NB311_313, NB313_311⟩ := z_; clear hb hbox hg; have hnb10 := NB313_311.out; have hnc10 := NB311_313.out; obtain ⟨hcz11_0, hcz11_1⟩ := bk2_ BK313.out; obtain ⟨hfz11_0, hfz11_1⟩ := bf2_ BK313.out))
  have n0_ : Aside0 (((w9.setCell ⟨gb313, 0, none⟩ (.int .i64 ((rd_T67 l0_5 x8_1).f0))).setCell ⟨gb313, 1, none⟩ (.string ((rd_T67 l0_5 x8_1).f1))).heap[gb311]? = some (.cells #[.int .i64 a0_0, .int .i64 a0_1, .int .i64 a0_2, .string a0_3, .slice A0_4 l0_4.length c0_4, .slice (some ad312) l0_5.length c0_5] 64 (0, 0))) := ⟨tq_58⟩
  have n1_ : Aside0 (((w9.setCell ⟨gb313, 0, none⟩ (.int .i64 ((rd_T67 l0_5 x8_1).f0))).setCell ⟨gb313, 1, none⟩ (.string ((rd_T67 l0_5 x8_1).f1))).heap[gb313]? = some (.cells #[.int .i64 ((rd_T67 l0_5 x8_1).f0), .string ((rd_T67 l0_5 x8_1).f1)] 67 (0, 0))) := ⟨tq_46⟩
  have n2_ : Aside0 (Below w.heap.size w ((w9.setCell ⟨gb313, 0, none⟩ (.int .i64 ((rd_T67 l0_5 x8_1).f0))).setCell ⟨gb313, 1, none⟩ (.string ((rd_T67 l0_5 x8_1).f1)))) := ⟨tq_33⟩
  (try clear BK311)
  (try clear BK313)
  (try clear HB)
  generalize ((w9.setCell ⟨gb313, 0, none⟩ (.int .i64 ((rd_T67 l0_5 x8_1).f0))).setCell ⟨gb313, 1, none⟩ (.string ((rd_T67 l0_5 x8_1).f1))) = w12 at n0_ n1_ n2_ ⊢
  have BK311 := n0_
  have BK313 := n1_
  have HB := n2_
  clear n0_ n1_ n2_
  have z_ := p_ (blk_drew BK311.out) <| p_ (blk_drew BK313.out) <| a_ (below_drew1 HB.out)
  clear BK311 BK313 HB
  obtain ⟨BK311, BK313, HB⟩ := z_
  refine start_ (n := 19) (S := fun w' => w'.cell? ⟨gb313, 0, none⟩ = some (.int .i64 ((rd_T67 l0_5 x8_1).f0)) ∧ w'.cell? ⟨gb313, 1, none⟩ = some (.string ((rd_T67 l0_5 x8_1).f1))) (ds := []) bq_55 (by kernel_rfl) rfl rfl (bk2_ BK313.out) (fun hHeld => ?_); refine with_tabW impl_isDir.tab4 impl_isDir.bits4 (fun HT_ HW_ => ?_)
  generalize w12.drew = w13 at BK311 BK313 HB hHeld ⊢
  refine tk_ (i := 0) (N := some 13) bq_56 (take_ofW HT_.out HW_.out (by kernel_rfl)) hHeld ?_
  refine one_ (i := 1) (N := some 14) bq_57 rfl rfl (one_of HT_.out (by kernel_rfl)) (by decide) (fun K hK => ?_)
  refine goes_ Try.func118 (by kernel_rfl) rfl #[.agg #[.int .i64 ((rd_T67 l0_5 x8_1).f0), .string ((rd_T67 l0_5 x8_1).f1)]] (by rfl) rfl rfl tq_1 ?_
  with_reducible refine (impl_EntryWord.calls k1 ((rd_T67 l0_5 x8_1).f0) ((rd_T67 l0_5 x8_1).f1) t314 _ A7.out).mono ?_
  rintro e w14 ⟨rfl, hb⟩
  refine ⟨_, rfl, ?_⟩
  have z_ := p_ (blk_below tq_36 hb) <| p_ (blk_below tq_124 hb) <| a_ (below_step tq_33 hb)
  clear BK311 BK313 HB
  obtain ⟨BK311, BK313, HB⟩ := z_
  (try clear hb)
  (try clear hb2)
  (try clear hk)
  (try clear hi)
  refine hK.out _ _ (bk2_ BK313.out) (fun hHeld => ?_)
  clear hK K
  refine nm_ (some 14) ?_
  refine yq_ (i := 2) (N := some 15) bq_58 (any_of HT_.out (by kernel_rfl)) ?_
  refine yq_ (i := 3) (N := some 16) bq_59 (any_of HT_.out (by kernel_rfl)) ?_
  refine uq_ (i := 4) (N := some 17) bq_60 (any_of HT_.out (by kernel_rfl)) ?_
  refine uq_ (i := 5) (N := some 18) bq_61 (any_of HT_.out (by kernel_rfl)) ?_
  refine uq_ (i := 6) (N := some 19) bq_62 (any_of HT_.out (by kernel_rfl)) ?_
  refine uq_ (i := 7) (N := some 20) bq_63 (any_of HT_.out (by kernel_rfl)) ?_
  refine uq_ (i := 8) (N := some 21) bq_140 (any_of HT_.out (by kernel_rfl)) ?_
  refine uq_ (i := 9) (N := some 22) bq_141 (any_of HT_.out (by kernel_rfl)) ?_
  refine uq_ (i := 10) (N := some 23) bq_142 (any_of HT_.out (by kernel_rfl)) ?_
  refine uq_ (i := 11) (N := some 24) bq_143 (any_of HT_.out (by kernel_rfl)) ?_
  refine uq_ (i := 12) (N := some 25) bq_64 (any_of HT_.out (by kernel_rfl)) ?_
  refine uq_ (i := 13) (N := some 26) bq_65 (any_of HT_.out (by kernel_rfl)) ?_
  refine uq_ (i := 14) (N := some 27) bq_66 (any_of HT_.out (by kernel_rfl)) ?_
  refine uq_ (i := 15) (N := some 28) bq_67 (any_of HT_.out (by kernel_rfl)) ?_
  refine uq_ (i := 16) (N := some 29) bq_68 (any_of HT_.out (by kernel_rfl)) ?_
  refine uq_ (i := 17) (N := some 30) bq_69 (any_of HT_.out (by kernel_rfl)) ?_
  refine yq_ (i := 18) (N := some 31) bq_70 (any_of HT_.out (by kernel_rfl)) ?_
  refine done_ (done_of HT_.out (by kernel_rfl)) ?_
  try go_wp2
  go_ret
  exact ⟨tq_2, tq_33⟩
 rw [if_neg c8] at H
 have c8b0 := beq_eq_false_iff_ne.mpr c8
 have c8b1 := bne_iff_ne.mpr c8
 by_cases c15 : x8_1 > 0
 rotate_left
 ·rw [if_neg c15] at H
  have c15b0 := decide_eq_false c15
  clear c15
  have H' := Aside0.mk H
  clear H
  have p312 : 0 ≤ (x8_1 : Int) := of_decide_eq_true tq_3
  have q312 : x8_1 < (l0_5.length : Int) := of_decide_eq_true tq_3
  obtain ⟨ad312, e312, hx312_0, hx312_1⟩ := at_T67 HR0_5.out x8_1 p312 q312
  cases e312
  replace hx312_0 := hx_ HB.out hx312_0
  replace hx312_1 := hx_ HB.out hx312_1
  replace p312 := eq_true p312
  replace q312 := eq_true q312
  try go_wp2_with (first | ((with_reducible refine gate_dst (N := 4) rfl ?_); (try (refine gate_guard (by rfl) ?_; dsimp only)); refine box_event ?hg (N := 4) ?hd (cs := #[.int .i64 0, .string (⟨#[]⟩ : ByteArray)]) (t := 67) ?hr ?_; (case hd => rfl); (case hg => rfl); (case hr => first | (go_simp; done) | (go_simp; rfl)); intro gb313 hg w32 hbox hb; have z_ := p_ (blk_below tq_36 hb) <| p_ (below_step tq_25 hb) <| p_ (hbox) <| p_ (gb_ hg tq_25) <| p_ (gb_ hg tq_25) <| p_ (ltne_ hg (blk_lt tq_36)) <| a_ (gtne_ hg (blk_lt tq_36)); clear BK311 HB; obtain ⟨BK311, HB, BK313, GW313, GE313, NB311_313, NB313_311⟩ := z_; clear hb hbox hg; have hnb33 := NB313_311.out; have hnc33 := NB311_313.out; obtain ⟨hcz34_0, hcz34_1⟩ := bk2_ BK313.out; obtain ⟨hfz34_0, hfz34_1⟩ := bf2_ BK313.out))
  have n0_ : Aside0 (((w32.setCell ⟨gb313, 0, none⟩ (.int .i64 ((rd_T67 l0_5 x8_1).f0))).setCell ⟨gb313, 1, none⟩ (.string ((rd_T67 l0_5 x8_1).f1))).heap[gb311]? = some (.cells #[.int .i64 a0_0, .int .i64 a0_1, .int .i64 a0_2, .string a0_3, .slice A0_4 l0_4.length c0_4, .slice (some ad312) l0_5.length c0_5] 64 (0, 0))) := ⟨tq_58⟩
  have n1_ : Aside0 (((w32.setCell ⟨gb313, 0, none⟩ (.int .i64 ((rd_T67 l0_5 x8_1).f0))).setCell ⟨gb313, 1, none⟩ (.string ((rd_T67 l0_5 x8_1).f1))).heap[gb313]? = some (.cells #[.int .i64 ((rd_T67 l0_5 x8_1).f0), .string ((rd_T67 l0_5 x8_1).f1)] 67 (0, 0))) := ⟨tq_46⟩
  have n2_ : Aside0 (Below w.heap.size w ((w32.setCell ⟨gb313, 0, none⟩ (.int .i64 ((rd_T67 l0_5 x8_1).f0))).setCell ⟨gb313, 1, none⟩ (.string ((rd_T67 l0_5 x8_1).f1)))) := ⟨tq_33⟩
  (try clear BK311)
  (try clear BK313)
  (try clear HB)
  generalize ((w32.setCell ⟨gb313, 0, none⟩ (.int .i64 ((rd_T67 l0_5 x8_1).f0))).setCell ⟨gb313, 1, none⟩ (.string ((rd_T67 l0_5 x8_1).f1))) = w35 at n0_ n1_ n2_ ⊢
  have BK311 := n0_
  have BK313 := n1_
  have HB := n2_
  clear n0_ n1_ n2_
  have z_ := p_ (blk_drew BK311.out) <| p_ (blk_drew BK313.out) <| a_ (below_drew1 HB.out)
  clear BK311 BK313 HB
  obtain ⟨BK311, BK313, HB⟩ := z_
  refine start_ (n := 19) (S := fun w' => w'.cell? ⟨gb313, 0, none⟩ = some (.int .i64 ((rd_T67 l0_5 x8_1).f0)) ∧ w'.cell? ⟨gb313, 1, none⟩ = some (.string ((rd_T67 l0_5 x8_1).f1))) (ds := []) bq_55 (by kernel_rfl) rfl rfl (bk2_ BK313.out) (fun hHeld => ?_); refine with_tabW impl_isDir.tab4 impl_isDir.bits4 (fun HT_ HW_ => ?_)
  generalize w35.drew = w36 at BK311 BK313 HB hHeld ⊢
  refine tk_ (i := 0) (N := some 13) bq_56 (take_ofW HT_.out HW_.out (by kernel_rfl)) hHeld ?_
  refine one_ (i := 1) (N := some 14) bq_57 rfl rfl (one_of HT_.out (by kernel_rfl)) (by decide) (fun K hK => ?_)
  refine goes_ Try.func118 (by kernel_rfl) rfl #[.agg #[.int .i64 ((rd_T67 l0_5 x8_1).f0), .string ((rd_T67 l0_5 x8_1).f1)]] (by rfl) rfl rfl tq_1 ?_
  with_reducible refine (impl_EntryWord.calls k1 ((rd_T67 l0_5 x8_1).f0) ((rd_T67 l0_5 x8_1).f1) t314 _ A7.out).mono ?_
  rintro e w37 ⟨rfl, hb⟩
  refine ⟨_, rfl, ?_⟩
  have z_ := p_ (blk_below tq_36 hb) <| p_ (blk_below tq_124 hb) <| a_ (below_step tq_33 hb)
  clear BK311 BK313 HB
  obtain ⟨BK311, BK313, HB⟩ := z_
  (try clear hb)
  (try clear hb2)
  (try clear hk)
  (try clear hi)
  refine hK.out _ _ (bk2_ BK313.out) (fun hHeld => ?_)
  clear hK K
  refine nm_ (some 14) ?_
  refine yq_ (i := 2) (N := some 15) bq_58 (any_of HT_.out (by kernel_rfl)) ?_
  refine yq_ (i := 3) (N := some 16) bq_59 (any_of HT_.out (by kernel_rfl)) ?_
  refine yq_ (i := 4) (N := some 17) bq_60 (any_of HT_.out (by kernel_rfl)) ?_
  refine yq_ (i := 5) (N := some 18) bq_61 (any_of HT_.out (by kernel_rfl)) ?_
  refine yq_ (i := 6) (N := some 19) bq_62 (any_of HT_.out (by kernel_rfl)) ?_
  refine uq_ (i := 7) (N := some 20) bq_63 (any_of HT_.out (by kernel_rfl)) ?_
  refine uq_ (i := 8) (N := some 21) bq_140 (any_of HT_.out (by kernel_rfl)) ?_
  refine uq_ (i := 9) (N := some 22) bq_141 (any_of HT_.out (by kernel_rfl)) ?_
  refine uq_ (i := 10) (N := some 23) bq_142 (any_of HT_.out (by kernel_rfl)) ?_
  refine uq_ (i := 11) (N := some 24) bq_143 (any_of HT_.out (by kernel_rfl)) ?_
  refine uq_ (i := 12) (N := some 25) bq_64 (any_of HT_.out (by kernel_rfl)) ?_
  refine uq_ (i := 13) (N := some 26) bq_65 (any_of HT_.out (by kernel_rfl)) ?_
  refine uq_ (i := 14) (N := some 27) bq_66 (any_of HT_.out (by kernel_rfl)) ?_
  refine uq_ (i := 15) (N := some 28) bq_67 (any_of HT_.out (by kernel_rfl)) ?_
  refine uq_ (i := 16) (N := some 29) bq_68 (any_of HT_.out (by kernel_rfl)) ?_
  refine yq_ (i := 17) (N := some 30) bq_69 (any_of HT_.out (by kernel_rfl)) ?_
  refine yq_ (i := 18) (N := some 31) bq_70 (any_of HT_.out (by kernel_rfl)) ?_
  refine done_ (done_of HT_.out (by kernel_rfl)) ?_
  try go_wp2
  go_roundg k1
  case measure => have := HK1.out; omega
  case rel => exact ⟨(wrap64 (x8_1 + 1)), tq_4, H', ⟨tq_93⟩, ⟨tq_36⟩, ⟨tq_33⟩⟩
 rw [if_pos c15] at H
 have c15b0 := decide_eq_true c15
 clear c15
 obtain ⟨ji16, hji16⟩ : ∃ j_ : Int, (wrap64 (x8_1 - 1)) = j_ := ⟨_, rfl⟩
 replace H : (if 0 ≤ (ji16) then (if (ji16) < (l0_5.length : Int) then (if ((Op.bytesLess (((rd_T67 l0_5 (ji16)).f1).toList) (((rd_T67 l0_5 x8_1).f1).toList)) = true) then (impl_isDir.l0 k1 l0_5 (l0_5.length : Int) (wrap64 (x8_1 + 1)) a0_0 a0_1 a0_2 a0_3 l0_4 l0_5) else (some false)) else (none)) else (none)) = some r := by first | (rw [hji16] at H; exact H) | (simp only [hji16] at H ⊢; exact H)
 (try rw [hji16] at A7)
 have hji16w : (IntKind.i64.wrap (x8_1 - 1)) = ji16 := (i64_w _).trans hji16
 by_cases c17 : 0 ≤ (ji16)
 rotate_left
 ·rw [if_neg c17] at H
  exact absurd H (by simp)
 rw [if_pos c17] at H
 have c17b0 := decide_eq_true c17
 clear c17
 by_cases c18 : (ji16) < (l0_5.length : Int)
 rotate_left
 ·rw [if_neg c18] at H
  exact absurd H (by simp)
 rw [if_pos c18] at H
 have c18b0 := decide_eq_true c18
 clear c18
 by_cases c19 : ((Op.bytesLess (((rd_T67 l0_5 (ji16)).f1).toList) (((rd_T67 l0_5 x8_1).f1).toList)) = true)
 rotate_left
 ·rw [if_neg c19] at H
  have c19b0 : (Op.bytesLess (((rd_T67 l0_5 (ji16)).f1).toList) (((rd_T67 l0_5 x8_1).f1).toList)) = false := by simpa using c19
  have c19b0q : (Op.bytesLess (((rd_T67 l0_5 x8_1).f1).toList) (((rd_T67 l0_5 (ji16)).f1).toList) || ((((rd_T67 l0_5 x8_1).f1).toList) == (((rd_T67 l0_5 (ji16)).f1).toList))) = true := by rw [bl_leq, c19b0]; rfl
  clear c19
  obtain rfl := Option.some.inj H
  have p312 : 0 ≤ (x8_1 : Int) := of_decide_eq_true tq_3
  have q312 : x8_1 < (l0_5.length : Int) := of_decide_eq_true tq_3
  obtain ⟨ad312, e312, hx312_0, hx312_1⟩ := at_T67 HR0_5.out x8_1 p312 q312
  cases e312
  replace hx312_0 := hx_ HB.out hx312_0
  replace hx312_1 := hx_ HB.out hx312_1
  replace p312 := eq_true p312
  replace q312 := eq_true q312
  try go_wp2_with (first | ((with_reducible refine gate_dst (N := 4) rfl ?_); (try (refine gate_guard (by rfl) ?_; dsimp only)); refine box_event ?hg (N := 4) ?hd (cs := #[.int .i64 0, .string (⟨#[]⟩ : ByteArray)]) (t := 67) ?hr ?_; (case hd => rfl); (case hg => rfl); (case hr => first | (go_simp; done) | (go_simp; rfl)); intro gb313 hg w26 hbox hb; have z_ := p_ (blk_below tq_36 hb) <| p_ (below_step tq_25 hb) <| p_ (hbox) <| p_ (gb_ hg tq_25) <| p_ (gb_ hg tq_25) <| p_ (ltne_ hg (blk_lt tq_36)) <| a_ (gtne_ hg (blk_lt tq_36)); clear BK311 HB; obtain ⟨BK311, HB, BK313, GW313, GE313, NB311_313, NB313_311⟩ := z_; clear hb hbox hg; have hnb27 := NB313_311.out; have hnc27 := NB311_313.out; obtain ⟨hcz28_0, hcz28_1⟩ := bk2_ BK313.out; obtain ⟨hfz28_0, hfz28_1⟩ := bf2_ BK313.out))
  have n0_ : Aside0 (((w26.setCell ⟨gb313, 0, none⟩ (.int .i64 ((rd_T67 l0_5 x8_1).f0))).setCell ⟨gb313, 1, none⟩ (.string ((rd_T67 l0_5 x8_1).f1))).heap[gb311]? = some (.cells #[.int .i64 a0_0, .int .i64 a0_1, .int .i64 a0_2, .string a0_3, .slice A0_4 l0_4.length c0_4, .slice (some ad312) l0_5.length c0_5] 64 (0, 0))) := ⟨tq_58⟩
  have n1_ : Aside0 (((w26.setCell ⟨gb313, 0, none⟩ (.int .i64 ((rd_T67 l0_5 x8_1).f0))).setCell ⟨gb313, 1, none⟩ (.string ((rd_T67 l0_5 x8_1).f1))).heap[gb313]? = some (.cells #[.int .i64 ((rd_T67 l0_5 x8_1).f0), .string ((rd_T67 l0_5 x8_1).f1)] 67 (0, 0))) := ⟨tq_46⟩
  have n2_ : Aside0 (Below w.heap.size w ((w26.setCell ⟨gb313, 0, none⟩ (.int .i64 ((rd_T67 l0_5 x8_1).f0))).setCell ⟨gb313, 1, none⟩ (.string ((rd_T67 l0_5 x8_1).f1)))) := ⟨tq_33⟩
  (try clear BK311)
  (try clear BK313)
  (try clear HB)
  generalize ((w26.setCell ⟨gb313, 0, none⟩ (.int .i64 ((rd_T67 l0_5 x8_1).f0))).setCell ⟨gb313, 1, none⟩ (.string ((rd_T67 l0_5 x8_1).f1))) = w29 at n0_ n1_ n2_ ⊢
  have BK311 := n0_
  have BK313 := n1_
  have HB := n2_
  clear n0_ n1_ n2_
  have z_ := p_ (blk_drew BK311.out) <| p_ (blk_drew BK313.out) <| a_ (below_drew1 HB.out)
  clear BK311 BK313 HB
  obtain ⟨BK311, BK313, HB⟩ := z_
  have p315 : 0 ≤ ((ji16) : Int) := of_decide_eq_true tq_3
  have q315 : (ji16) < (l0_5.length : Int) := of_decide_eq_true tq_3
  obtain ⟨ad315, e315, hx315_0, hx315_1⟩ := at_T67 HR0_5.out (ji16) p315 q315
  have hw315_1 := hx315_1
  have hw315_0 := hx315_0
  obtain rfl : ad312 = ad315 := (by injection e315)
  replace hx315_0 := hx_ HB.out hx315_0
  replace hx315_1 := hx_ HB.out hx315_1
  replace p315 := eq_true p315
  replace q315 := eq_true q315
  refine start_ (n := 19) (S := fun w' => w'.cell? ⟨gb313, 0, none⟩ = some (.int .i64 ((rd_T67 l0_5 x8_1).f0)) ∧ w'.cell? ⟨gb313, 1, none⟩ = some (.string ((rd_T67 l0_5 x8_1).f1)) ∧ w'.cell? ⟨gb311, 0, none⟩ = some (.int .i64 a0_0) ∧ w'.cell? ⟨gb311, 1, none⟩ = some (.int .i64 a0_1) ∧ w'.cell? ⟨gb311, 2, none⟩ = some (.int .i64 a0_2) ∧ w'.cell? ⟨gb311, 3, none⟩ = some (.string a0_3) ∧ w'.cell? ⟨gb311, 4, none⟩ = some (.slice A0_4 l0_4.length c0_4) ∧ w'.cell? ⟨gb311, 5, none⟩ = some (.slice (some ad312) l0_5.length c0_5) ∧ w'.cell? (ad312.add (((ji16)).toNat * 2)) = some (.int .i64 ((rd_T67 l0_5 (ji16)).f0)) ∧ w'.cell? ⟨(ad312.add (((ji16)).toNat * 2)).block, (ad312.add (((ji16)).toNat * 2)).off + 1, none⟩ = some (.string ((rd_T67 l0_5 (ji16)).f1))) (ds := []) bq_55 (by kernel_rfl) rfl rfl (bc2_ BK313.out (bc6_ BK311.out ⟨((HB.out.cell (World.block_lt_of_cell? w _ hw315_0)).trans hw315_0), ((HB.out.cell (World.block_lt_of_cell? w _ hw315_1)).trans hw315_1)⟩)) (fun hHeld => ?_); refine with_tabW impl_isDir.tab4 impl_isDir.bits4 (fun HT_ HW_ => ?_)
  generalize w29.drew = w30 at BK311 BK313 HB hx315_0 hx315_1 hHeld ⊢
  refine tk_ (i := 0) (N := some 13) bq_56 (take_ofW HT_.out HW_.out (by kernel_rfl)) hHeld ?_
  refine one_ (i := 1) (N := some 14) bq_57 rfl rfl (one_of HT_.out (by kernel_rfl)) (by decide) (fun K hK => ?_)
  refine goes_ Try.func118 (by kernel_rfl) rfl #[.agg #[.int .i64 ((rd_T67 l0_5 x8_1).f0), .string ((rd_T67 l0_5 x8_1).f1)]] (by rfl) rfl rfl tq_1 ?_
  with_reducible refine (impl_EntryWord.calls k1 ((rd_T67 l0_5 x8_1).f0) ((rd_T67 l0_5 x8_1).f1) t314 _ A7.out).mono ?_
  rintro e w31 ⟨rfl, hb⟩
  refine ⟨_, rfl, ?_⟩
  have z_ := p_ (blk_below tq_36 hb) <| p_ (blk_below tq_124 hb) <| a_ (below_step tq_33 hb)
  clear BK311 BK313 HB
  obtain ⟨BK311, BK313, HB⟩ := z_
  (try clear hb)
  (try clear hb2)
  (try clear hk)
  (try clear hi)
  refine hK.out _ _ (bc2_ BK313.out (bc6_ BK311.out ⟨((HB.out.cell (World.block_lt_of_cell? w _ hw315_0)).trans hw315_0), ((HB.out.cell (World.block_lt_of_cell? w _ hw315_1)).trans hw315_1)⟩)) (fun hHeld => ?_)
  clear hK K
  refine nm_ (some 14) ?_
  refine yq_ (i := 2) (N := some 15) bq_58 (any_of HT_.out (by kernel_rfl)) ?_
  refine yq_ (i := 3) (N := some 16) bq_59 (any_of HT_.out (by kernel_rfl)) ?_
  refine yq_ (i := 4) (N := some 17) bq_60 (any_of HT_.out (by kernel_rfl)) ?_
  refine yq_ (i := 5) (N := some 18) bq_61 (any_of HT_.out (by kernel_rfl)) ?_
  refine yq_ (i := 6) (N := some 19) bq_62 (any_of HT_.out (by kernel_rfl)) ?_
  refine yq_ (i := 7) (N := some 20) bq_63 (any_of HT_.out (by kernel_rfl)) ?_
  refine yq_ (i := 9) (N := some 22) bq_144 (any_of HT_.out (by kernel_rfl)) ?_
  refine yq_ (i := 11) (N := some 24) bq_145 (any_of HT_.out (by kernel_rfl)) ?_
  refine yq_ (i := 12) (N := some 25) bq_146 (any_of HT_.out (by kernel_rfl)) ?_
  refine tk_ (i := 8) (N := some 21) bq_147 (take_ofW HT_.out HW_.out (by kernel_rfl)) hHeld ?_
  refine tk_ (i := 10) (N := some 23) bq_64 (take_ofW HT_.out HW_.out (by kernel_rfl)) hHeld ?_
  refine yq_ (i := 13) (N := some 26) bq_65 (any_of HT_.out (by kernel_rfl)) ?_
  refine yq_ (i := 14) (N := some 27) bq_66 (any_of HT_.out (by kernel_rfl)) ?_
  refine tk_ (i := 15) (N := some 28) bq_67 (take_ofW HT_.out HW_.out (by kernel_rfl)) hHeld ?_
  refine yq_ (i := 16) (N := some 29) bq_68 (any_of HT_.out (by kernel_rfl)) ?_
  refine yq_ (i := 17) (N := some 30) bq_69 (any_of HT_.out (by kernel_rfl)) ?_
  refine yq_ (i := 18) (N := some 31) bq_70 (any_of HT_.out (by kernel_rfl)) ?_
  refine done_ (done_of HT_.out (by kernel_rfl)) ?_
  try go_wp2
  go_ret
  exact ⟨(by first | rfl | (simp [errW_none, errW_some] <;> rfl) | (simp only [← hji16]; first | rfl | (simp [errW_none, errW_some] <;> rfl)) | (simp [*, errW_none, errW_some] <;> rfl)), tq_33⟩
 rw [if_pos c19] at H
 have c19b0 : (Op.bytesLess (((rd_T67 l0_5 (ji16)).f1).toList) (((rd_T67 l0_5 x8_1).f1).toList)) = true := c19
 have c19b0q : (Op.bytesLess (((rd_T67 l0_5 x8_1).f1).toList) (((rd_T67 l0_5 (ji16)).f1).toList) || ((((rd_T67 l0_5 x8_1).f1).toList) == (((rd_T67 l0_5 (ji16)).f1).toList))) = false := by rw [bl_leq, c19b0]; rfl
 clear c19
 have H' := Aside0.mk H
 clear H
 have p312 : 0 ≤ (x8_1 : Int) := of_decide_eq_true tq_3
 have q312 : x8_1 < (l0_5.length : Int) := of_decide_eq_true tq_3
 obtain ⟨ad312, e312, hx312_0, hx312_1⟩ := at_T67 HR0_5.out x8_1 p312 q312
 cases e312
 replace hx312_0 := hx_ HB.out hx312_0
 replace hx312_1 := hx_ HB.out hx312_1
 replace p312 := eq_true p312
 replace q312 := eq_true q312
 try go_wp2_with (first | ((with_reducible refine gate_dst (N := 4) rfl ?_); (try (refine gate_guard (by rfl) ?_; dsimp only)); refine box_event ?hg (N := 4) ?hd (cs := #[.int .i64 0, .string (⟨#[]⟩ : ByteArray)]) (t := 67) ?hr ?_; (case hd => rfl); (case hg => rfl); (case hr => first | (go_simp; done) | (go_simp; rfl)); intro gb313 hg w20 hbox hb; have z_ := p_ (blk_below tq_36 hb) <| p_ (below_step tq_25 hb) <| p_ (hbox) <| p_ (gb_ hg tq_25) <| p_ (gb_ hg tq_25) <| p_ (ltne_ hg (blk_lt tq_36)) <| a_ (gtne_ hg (blk_lt tq_36)); clear BK311 HB; obtain ⟨BK311, HB, BK313, GW313, GE313, NB311_313, NB313_311⟩ := z_; clear hb hbox hg; have hnb21 := NB313_311.out; have hnc21 := NB311_313.out; obtain ⟨hcz22_0, hcz22_1⟩ := bk2_ BK313.out; obtain ⟨hfz22_0, hfz22_1⟩ := bf2_ BK313.out))
 have n0_ : Aside0 (((w20.setCell ⟨gb313, 0, none⟩ (.int .i64 ((rd_T67 l0_5 x8_1).f0))).setCell ⟨gb313, 1, none⟩ (.string ((rd_T67 l0_5 x8_1).f1))).heap[gb311]? = some (.cells #[.int .i64 a0_0, .int .i64 a0_1, .int .i64 a0_2, .string a0_3, .slice A0_4 l0_4.length c0_4, .slice (some ad312) l0_5.length c0_5] 64 (0, 0))) := ⟨tq_58⟩
 have n1_ : Aside0 (((w20.setCell ⟨gb313, 0, none⟩ (.int .i64 ((rd_T67 l0_5 x8_1).f0))).setCell ⟨gb313, 1, none⟩ (.string ((rd_T67 l0_5 x8_1).f1))).heap[gb313]? = some (.cells #[.int .i64 ((rd_T67 l0_5 x8_1).f0), .string ((rd_T67 l0_5 x8_1).f1)] 67 (0, 0))) := ⟨tq_46⟩
 have n2_ : Aside0 (Below w.heap.size w ((w20.setCell ⟨gb313, 0, none⟩ (.int .i64 ((rd_T67 l0_5 x8_1).f0))).setCell ⟨gb313, 1, none⟩ (.string ((rd_T67 l0_5 x8_1).f1)))) := ⟨tq_33⟩
 (try clear BK311)
 (try clear BK313)
 (try clear HB)
 generalize ((w20.setCell ⟨gb313, 0, none⟩ (.int .i64 ((rd_T67 l0_5 x8_1).f0))).setCell ⟨gb313, 1, none⟩ (.string ((rd_T67 l0_5 x8_1).f1))) = w23 at n0_ n1_ n2_ ⊢
 have BK311 := n0_
 have BK313 := n1_
 have HB := n2_
 clear n0_ n1_ n2_
 have z_ := p_ (blk_drew BK311.out) <| p_ (blk_drew BK313.out) <| a_ (below_drew1 HB.out)
 clear BK311 BK313 HB
 obtain ⟨BK311, BK313, HB⟩ := z_
 have p315 : 0 ≤ ((ji16) : Int) := of_decide_eq_true tq_3
 have q315 : (ji16) < (l0_5.length : Int) := of_decide_eq_true tq_3
 obtain ⟨ad315, e315, hx315_0, hx315_1⟩ := at_T67 HR0_5.out (ji16) p315 q315
 have hw315_1 := hx315_1
 have hw315_0 := hx315_0
 obtain rfl : ad312 = ad315 := (by injection e315)
 replace hx315_0 := hx_ HB.out hx315_0
 replace hx315_1 := hx_ HB.out hx315_1
 replace p315 := eq_true p315
 replace q315 := eq_true q315
 refine start_ (n := 19) (S := fun w' => w'.cell? ⟨gb313, 0, none⟩ = some (.int .i64 ((rd_T67 l0_5 x8_1).f0)) ∧ w'.cell? ⟨gb313, 1, none⟩ = some (.string ((rd_T67 l0_5 x8_1).f1)) ∧ w'.cell? ⟨gb311, 0, none⟩ = some (.int .i64 a0_0) ∧ w'.cell? ⟨gb311, 1, none⟩ = some (.int .i64 a0_1) ∧ w'.cell? ⟨gb311, 2, none⟩ = some (.int .i64 a0_2) ∧ w'.cell? ⟨gb311, 3, none⟩ = some (.string a0_3) ∧ w'.cell? ⟨gb311, 4, none⟩ = some (.slice A0_4 l0_4.length c0_4) ∧ w'.cell? ⟨gb311, 5, none⟩ = some (.slice (some ad312) l0_5.length c0_5) ∧ w'.cell? (ad312.add (((ji16)).toNat * 2)) = some (.int .i64 ((rd_T67 l0_5 (ji16)).f0)) ∧ w'.cell? ⟨(ad312.add (((ji16)).toNat * 2)).block, (ad312.add (((ji16)).toNat * 2)).off + 1, none⟩ = some (.string ((rd_T67 l0_5 (ji16)).f1))) (ds := []) bq_55 (by kernel_rfl) rfl rfl (bc2_ BK313.out (bc6_ BK311.out ⟨((HB.out.cell (World.block_lt_of_cell? w _ hw315_0)).trans hw315_0), ((HB.out.cell (World.block_lt_of_cell? w _ hw315_1)).trans hw315_1)⟩)) (fun hHeld => ?_); refine with_tabW impl_isDir.tab4 impl_isDir.bits4 (fun HT_ HW_ => ?_)
 generalize w23.drew = w24 at BK311 BK313 HB hx315_0 hx315_1 hHeld ⊢
 refine tk_ (i := 0) (N := some 13) bq_56 (take_ofW HT_.out HW_.out (by kernel_rfl)) hHeld ?_
 refine one_ (i := 1) (N := some 14) bq_57 rfl rfl (one_of HT_.out (by kernel_rfl)) (by decide) (fun K hK => ?_)
 refine goes_ Try.func118 (by kernel_rfl) rfl #[.agg #[.int .i64 ((rd_T67 l0_5 x8_1).f0), .string ((rd_T67 l0_5 x8_1).f1)]] (by rfl) rfl rfl tq_1 ?_
 with_reducible refine (impl_EntryWord.calls k1 ((rd_T67 l0_5 x8_1).f0) ((rd_T67 l0_5 x8_1).f1) t314 _ A7.out).mono ?_
 rintro e w25 ⟨rfl, hb⟩
 refine ⟨_, rfl, ?_⟩
 have z_ := p_ (blk_below tq_36 hb) <| p_ (blk_below tq_124 hb) <| a_ (below_step tq_33 hb)
 clear BK311 BK313 HB
 obtain ⟨BK311, BK313, HB⟩ := z_
 (try clear hb)
 (try clear hb2)
 (try clear hk)
 (try clear hi)
 refine hK.out _ _ (bc2_ BK313.out (bc6_ BK311.out ⟨((HB.out.cell (World.block_lt_of_cell? w _ hw315_0)).trans hw315_0), ((HB.out.cell (World.block_lt_of_cell? w _ hw315_1)).trans hw315_1)⟩)) (fun hHeld => ?_)
 clear hK K
 refine nm_ (some 14) ?_
 refine yq_ (i := 2) (N := some 15) bq_58 (any_of HT_.out (by kernel_rfl)) ?_
 refine yq_ (i := 3) (N := some 16) bq_59 (any_of HT_.out (by kernel_rfl)) ?_
 refine yq_ (i := 4) (N := some 17) bq_60 (any_of HT_.out (by kernel_rfl)) ?_
 refine yq_ (i := 5) (N := some 18) bq_61 (any_of HT_.out (by kernel_rfl)) ?_
 refine yq_ (i := 6) (N := some 19) bq_62 (any_of HT_.out (by kernel_rfl)) ?_
 refine yq_ (i := 7) (N := some 20) bq_63 (any_of HT_.out (by kernel_rfl)) ?_
 refine yq_ (i := 9) (N := some 22) bq_144 (any_of HT_.out (by kernel_rfl)) ?_
 refine yq_ (i := 11) (N := some 24) bq_145 (any_of HT_.out (by kernel_rfl)) ?_
 refine yq_ (i := 12) (N := some 25) bq_146 (any_of HT_.out (by kernel_rfl)) ?_
 refine tk_ (i := 8) (N := some 21) bq_147 (take_ofW HT_.out HW_.out (by kernel_rfl)) hHeld ?_
 refine tk_ (i := 10) (N := some 23) bq_64 (take_ofW HT_.out HW_.out (by kernel_rfl)) hHeld ?_
 refine yq_ (i := 13) (N := some 26) bq_65 (any_of HT_.out (by kernel_rfl)) ?_
 refine yq_ (i := 14) (N := some 27) bq_66 (any_of HT_.out (by kernel_rfl)) ?_
 refine tk_ (i := 15) (N := some 28) bq_67 (take_ofW HT_.out HW_.out (by kernel_rfl)) hHeld ?_
 refine yq_ (i := 16) (N := some 29) bq_68 (any_of HT_.out (by kernel_rfl)) ?_
 refine yq_ (i := 17) (N := some 30) bq_69 (any_of HT_.out (by kernel_rfl)) ?_
 refine yq_ (i := 18) (N := some 31) bq_70 (any_of HT_.out (by kernel_rfl)) ?_
 refine done_ (done_of HT_.out (by kernel_rfl)) ?_
 try go_wp2
 go_roundg k1
 case measure => have := HK1.out; omega
 case rel => exact ⟨(wrap64 (x8_1 + 1)), tq_4, H', ⟨tq_93⟩, ⟨tq_36⟩, ⟨tq_33⟩⟩

end Go.Proofs.Ytljnnmpfeningaa.PFnExactPartOk
