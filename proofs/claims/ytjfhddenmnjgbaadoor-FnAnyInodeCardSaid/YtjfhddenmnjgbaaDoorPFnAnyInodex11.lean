/- Contracts of Go functions, written by a program of ours over the print of the kit: each says that the call returns what the Lean function beside it computes. Conditions: as each theorem states them. -/
import Derived.Test.YtjfhddenmnjgbaaDoorPkFnAnyInode
import Derived.Test.YtjfhddenmnjgbaaDoorPFnAnyInodex0
import Derived.Test.YtjfhddenmnjgbaaDoorPFnAnyInodex10
namespace Go.Proofs.YtjfhddenmnjgbaaDoor.PFnAnyInode
open Go.RowKit Go.Proofs.YtjfhddenmnjgbaaDoorW.PrintWords Go.Proofs.YtjfhddenmnjgbaaDoorW.PrintLast Go.Proofs.YtjfhddenmnjgbaaDoorW.PrintMore
attribute [local go_sem] max2_int min2_int max_two min_two max_three min_three max_four min_four setCell_drewN   -- for this text's walks alone
set_option linter.unusedVariables false
set_option linter.unusedSimpArgs false

/-! ### impl_isDir: function 56 -/
def impl_isDir.l0 : Nat → List (S47) → Int → Int → Int → Int → Int → ByteArray → List (S42) → List (S47) → Option (Bool)
 | 0, _, _, _, _, _, _, _, _, _ => none
 | k + 1, x6, x7, x8, x247000, x247001, x247002, x247003, x247004, x247005 => if x8 < x7 then (if 0 ≤ x8 then (if x8 < (x6.length : Int) then ((impl_EntryWord.f k ((rd_T47 x6 x8).f0) ((rd_T47 x6 x8).f1)).bind fun t249 => (if t249.toList = ([] : List UInt8) then (some false) else (if x8 > 0 then (if 0 ≤ (wrap64 (x8 - 1)) then (if (wrap64 (x8 - 1)) < (x247005.length : Int) then (if ((Op.bytesLess (((rd_T47 x247005 (wrap64 (x8 - 1))).f1).toList) (((rd_T47 x6 x8).f1).toList)) = true) then (impl_isDir.l0 k x6 x7 (wrap64 (x8 + 1)) x247000 x247001 x247002 x247003 x247004 x247005) else (some false)) else (none)) else (none)) else (impl_isDir.l0 k x6 x7 (wrap64 (x8 + 1)) x247000 x247001 x247002 x247003 x247004 x247005)))) else (none)) else (none)) else (if x247001 = 0 then (if x247003.toList = ([] : List UInt8) then (if (x247004.length : Int) = 0 then (some (decide ((x247005.length : Int) ≤ 6))) else (some false)) else (some false)) else (some false))
def impl_isDir.f (k : Nat) (a0_0 : Int) (a0_1 : Int) (a0_2 : Int) (a0_3 : ByteArray) (l0_4 : List (S42)) (l0_5 : List (S47)) : Option (Bool) := impl_isDir.l0 k l0_5 (l0_5.length : Int) 0 a0_0 a0_1 a0_2 a0_3 l0_4 l0_5
theorem impl_isDir.mono_l : ∀ k, (∀ y0 y1 y2 y3 y4 y5 y6 y7 y8, LeO (impl_isDir.l0 k y0 y1 y2 y3 y4 y5 y6 y7 y8) (impl_isDir.l0 (k + 1) y0 y1 y2 y3 y4 y5 y6 y7 y8))
 | 0 => fun _ _ _ _ _ _ _ _ _ r h => by simp [impl_isDir.l0] at h
 | k + 1 => by
  have ih0 := impl_isDir.mono_l k
  ·intro y0 y1 y2 y3 y4 y5 y6 y7 y8
   unfold impl_isDir.l0
   repeat' first
   | (with_reducible exact ih0 ..)
   | (with_reducible exact impl_EntryWord.mono ..)
   | (with_reducible exact LeO.refl _)
   | (with_reducible exact LeO.none _)
   | (with_reducible refine LeO.ite ?_ ?_)
   | (with_reducible refine LeO.bind ?_ (fun _ => ?_))
   | exact ih0 ..
   | exact impl_EntryWord.mono ..
   | exact LeO.none _
   | refine LeO.ite ?_ ?_
   | refine LeO.bind ?_ (fun _ => ?_)
theorem impl_isDir.mono : ∀ a0 a1 a2 a3 a4 a5 k, LeO (impl_isDir.f k a0 a1 a2 a3 a4 a5) (impl_isDir.f (k + 1) a0 a1 a2 a3 a4 a5) := by
 intro a0 a1 a2 a3 a4 a5 k
 have ih0 := impl_isDir.mono_l k
 unfold impl_isDir.f
 repeat' first
   | (with_reducible exact ih0 ..)
   | (with_reducible exact impl_EntryWord.mono ..)
   | (with_reducible exact LeO.refl _)
   | (with_reducible exact LeO.none _)
   | (with_reducible refine LeO.ite ?_ ?_)
   | (with_reducible refine LeO.bind ?_ (fun _ => ?_))
   | exact ih0 ..
   | exact impl_EntryWord.mono ..
   | exact LeO.none _
   | refine LeO.ite ?_ ?_
   | refine LeO.bind ?_ (fun _ => ?_)
def impl_isDir.T4 : Bool × List (List Nat × List Nat) := (true, [([], []), ([0], [0]), ([1], [1]), ([2, 1], [2]), ([3], [3]), ([4, 3], [3, 4]), ([5, 3, 3], [3, 5]), ([6], [6]), ([7, 6], [6, 7]), ([6], [6]), ([9, 6], [6, 9]), ([6], [6]), ([11, 6], [6, 11]), ([10, 12, 6], [6, 10, 12]), ([13, 6], [6, 13]), ([14, 6], [6, 14]), ([8, 15, 6], [6, 8, 15]), ([6, 16, 3], [3, 6, 16]), ([3, 17], [3, 17])])
def impl_isDir.B4 : List Nat := [0, 1, 3, 7, 15, 31, 63, 127, 255, 127, 639, 127, 2175, 7807, 15999, 32383, 65535, 131071, 262143]
theorem impl_isDir.tab4 : rtab .any (opsOf Tryd.f56 4) = impl_isDir.T4 := by kernel_rfl
theorem impl_isDir.bits4 : waitsOk impl_isDir.T4.2 impl_isDir.B4 = true := by kernel_rfl
set_option maxHeartbeats 8000000 in
set_option maxRecDepth 100000 in
theorem impl_isDir.calls (k : Nat) (a0_0 : Int) (a0_1 : Int) (a0_2 : Int) (a0_3 : ByteArray) (A0_4 : Option Addr) (c0_4 : Nat) (l0_4 : List (S42)) (A0_5 : Option Addr) (c0_5 : Nat) (l0_5 : List (S47)) (r : Bool) (w : World) (hr0_4 : Kd.C k42 w A0_4 l0_4.length l0_4) (hc0_4 : l0_4.length ≤ c0_4) (hr0_5 : Kd.C k47 w A0_5 l0_5.length l0_5) (hc0_5 : l0_5.length ≤ c0_5) (h : impl_isDir.f k a0_0 a0_1 a0_2 a0_3 l0_4 l0_5 = some r) :
  Calls Tryd.prog 56 #[.agg #[.int .i64 a0_0, .int .i64 a0_1, .int .i64 a0_2, .string a0_3, .slice A0_4 l0_4.length c0_4, .slice A0_5 l0_5.length c0_5]] w fun e w' => e = .returned (.bool r) ∧ Below w.heap.size w w' := by
 have hu27 := Tryd.underlying27
 have hu47 := Tryd.underlying47
 have HR0_4 := Aside0.mk hr0_4
 have HC0_4 := Aside0.mk hc0_4
 clear hr0_4 hc0_4
 have HR0_5 := Aside0.mk hr0_5
 have HC0_5 := Aside0.mk hc0_5
 clear hr0_5 hc0_5
 have HB := Aside0.mk (Below.refl w.heap.size w)
 unfold impl_isDir.f at h
 have H := h
 clear h
 have H' := Aside0.mk H
 clear H
 go_enter Tryd.func56, Tryd.ntmps56
 go_wp2_with (first | ((with_reducible refine gate_dst (N := 1) rfl ?_); (try (refine gate_guard (by rfl) ?_; dsimp only)); refine be_ 1 (cs := #[.int .i64 a0_0, .int .i64 a0_1, .int .i64 a0_2, .string a0_3, .slice A0_4 l0_4.length c0_4, .slice A0_5 l0_5.length c0_5]) 27 ?_; intro gb246 hg w2 hbox hb; have z_ := bx0_ th_ hb hbox hg; clear HB; obtain ⟨HB, BK246, GW246, GE246⟩ := z_; clear hb hbox hg; obtain ⟨hcz3_0, hcz3_1, hcz3_2, hcz3_3, hcz3_4, hcz3_5⟩ := bk6_ BK246.out; obtain ⟨hfz3_0, hfz3_1, hfz3_2, hfz3_3, hfz3_4, hfz3_5⟩ := bf6_ BK246.out))
 go_loopg [8] k (fun kq v8 w' => ∃ (x8_1 : Int), v8 = .int .i64 x8_1 ∧ Aside0 (impl_isDir.l0 kq l0_5 (l0_5.length : Int) x8_1 a0_0 a0_1 a0_2 a0_3 l0_4 l0_5 = some r) ∧ Aside0 (kq ≤ k) ∧ Aside0 (w'.heap[gb246]? = some (.cells #[.int .i64 a0_0, .int .i64 a0_1, .int .i64 a0_2, .string a0_3, (.slice A0_4 l0_4.length c0_4), (.slice A0_5 l0_5.length c0_5)] 27 (0, 0))) ∧ Aside0 (Below w.heap.size w w'))
 case atStart => exact ⟨(0), tq_4, H', ⟨Nat.le_refl _⟩, ⟨(kb_ BK246)⟩, ⟨th_⟩⟩
 case round =>
 clear H'
 try clear p2; try clear hcz3_0 hcz3_1 hcz3_2 hcz3_3 hcz3_4 hcz3_5 hfz3_0 hfz3_1 hfz3_2 hfz3_3 hfz3_4 hfz3_5
 obtain ⟨x8_1, rfl, HA, HK1, BK246, HB⟩ := hrel
 cases gk with
 | zero => exact absurd HA.out (by simp [impl_isDir.l0])
 | succ k1 =>
 have H := HA.out
 clear HA
 simp only [impl_isDir.l0] at H
 by_cases c4 : x8_1 < (l0_5.length : Int)
 rotate_left
 ·rw [if_neg c4] at H
  have c4b0 := decide_eq_false c4
  clear c4
  by_cases c38 : a0_1 = 0
  rotate_left
  ·rw [if_neg c38] at H
   have c38b0 := beq_eq_false_iff_ne.mpr c38
   have c38b1 := bne_iff_ne.mpr c38
   obtain rfl := Option.some.inj H
   obtain ⟨hcz44_0, hcz44_1, hcz44_2, hcz44_3, hcz44_4, hcz44_5⟩ := bk6_ BK246.out
   obtain ⟨hfz44_0, hfz44_1, hfz44_2, hfz44_3, hfz44_4, hfz44_5⟩ := bf6_ BK246.out
   go_wp2
   go_ret
   exact ⟨tq_2, th_⟩
  rw [if_pos c38] at H
  have c38b0 := beq_iff_eq.mpr c38
  have c38b1 := bne_eq_false_iff_eq.mpr c38
  clear c38
  by_cases c39 : a0_3.toList = ([] : List UInt8)
  rotate_left
  ·rw [if_neg c39] at H
   have c39b0 := beq_eq_false_iff_ne.mpr c39
   have c39b1 := bne_iff_ne.mpr c39
   obtain rfl := Option.some.inj H
   obtain ⟨hcz43_0, hcz43_1, hcz43_2, hcz43_3, hcz43_4, hcz43_5⟩ := bk6_ BK246.out
   obtain ⟨hfz43_0, hfz43_1, hfz43_2, hfz43_3, hfz43_4, hfz43_5⟩ := bf6_ BK246.out
   go_wp2
   go_ret
   exact ⟨tq_2, th_⟩
  rw [if_pos c39] at H
  have c39b0 := beq_iff_eq.mpr c39
  have c39b1 := bne_eq_false_iff_eq.mpr c39
  clear c39
  by_cases c40 : (l0_4.length : Int) = 0
  ·rw [if_pos c40] at H
   have c40b0 := beq_iff_eq.mpr c40
   have c40b1 := bne_eq_false_iff_eq.mpr c40
   clear c40
   obtain rfl := Option.some.inj H
   obtain ⟨hcz41_0, hcz41_1, hcz41_2, hcz41_3, hcz41_4, hcz41_5⟩ := bk6_ BK246.out
   obtain ⟨hfz41_0, hfz41_1, hfz41_2, hfz41_3, hfz41_4, hfz41_5⟩ := bf6_ BK246.out
   go_wp2
   go_ret
   exact ⟨tq_2, th_⟩
  rw [if_neg c40] at H
  have c40b0 := beq_eq_false_iff_ne.mpr c40
  have c40b1 := bne_iff_ne.mpr c40
  have c40b2 : ¬ (l0_4 = []) := fun h_ => c40 (by rw [h_]; rfl)
  obtain rfl := Option.some.inj H
  obtain ⟨hcz42_0, hcz42_1, hcz42_2, hcz42_3, hcz42_4, hcz42_5⟩ := bk6_ BK246.out
  obtain ⟨hfz42_0, hfz42_1, hfz42_2, hfz42_3, hfz42_4, hfz42_5⟩ := bf6_ BK246.out
  go_wp2
  go_ret
  exact ⟨tq_2, th_⟩
 rw [if_pos c4] at H
 have c4b0 := decide_eq_true c4
 clear c4
 obtain ⟨c5, H⟩ := fc_ H
 have c5b0 := decide_eq_true c5
 clear c5
 obtain ⟨c6, H⟩ := fc_ H
 have c6b0 := decide_eq_true c6
 clear c6
 obtain ⟨t249, A7, H⟩ := bd_ H
 by_cases c8 : t249.toList = ([] : List UInt8)
 ·rw [if_pos c8] at H
  have c8b0 := beq_iff_eq.mpr c8
  have c8b1 := bne_eq_false_iff_eq.mpr c8
  clear c8
  obtain rfl := Option.some.inj H
  have p247 : 0 ≤ (x8_1 : Int) := of_decide_eq_true tq_1
  have q247 : x8_1 < (l0_5.length : Int) := of_decide_eq_true tq_1
  obtain ⟨ad247, e247, hx247_0, hx247_1⟩ := at_T47 HR0_5.out x8_1 p247 q247
  cases e247
  replace hx247_0 := hx_ HB.out hx247_0
  replace hx247_1 := hx_ HB.out hx247_1
  replace p247 := eq_true p247
  replace q247 := eq_true q247
  try go_wp2_with (first | ((with_reducible refine gate_dst (N := 4) rfl ?_); (try (refine gate_guard (by rfl) ?_; dsimp only)); refine be_ 4 (cs := #[.int .i64 0, .string (⟨#[]⟩ : ByteArray)]) 47 ?_; intro gb248 hg w9 hbox hb; have z_ := bx1_ (kb_ BK246) th_ hb hbox hg; clear BK246 HB; obtain ⟨BK246, HB, BK248, GW248, GE248, NB246_248, NB248_246⟩ := z_; clear hb hbox hg; obtain ⟨n248_246, n246_248⟩ := an2_ NB248_246 NB246_248; obtain ⟨hcz11_0, hcz11_1⟩ := bk2_ BK248.out; obtain ⟨hfz11_0, hfz11_1⟩ := bf2_ BK248.out))
  have n0_ : Aside0 (((w9.setCell ⟨gb248, 0, none⟩ (.int .i64 ((rd_T47 l0_5 x8_1).f0))).setCell ⟨gb248, 1, none⟩ (.string ((rd_T47 l0_5 x8_1).f1))).heap[gb246]? = some (.cells #[.int .i64 a0_0, .int .i64 a0_1, .int .i64 a0_2, .string a0_3, .slice A0_4 l0_4.length c0_4, .slice (some ad247) l0_5.length c0_5] 27 (0, 0))) := ⟨tb_⟩
  have n1_ : Aside0 (((w9.setCell ⟨gb248, 0, none⟩ (.int .i64 ((rd_T47 l0_5 x8_1).f0))).setCell ⟨gb248, 1, none⟩ (.string ((rd_T47 l0_5 x8_1).f1))).heap[gb248]? = some (.cells #[.int .i64 ((rd_T47 l0_5 x8_1).f0), .string ((rd_T47 l0_5 x8_1).f1)] 47 (0, 0))) := ⟨tb_⟩
  have n2_ : Aside0 (Below w.heap.size w ((w9.setCell ⟨gb248, 0, none⟩ (.int .i64 ((rd_T47 l0_5 x8_1).f0))).setCell ⟨gb248, 1, none⟩ (.string ((rd_T47 l0_5 x8_1).f1)))) := ⟨th_⟩
  (try clear BK246)
  (try clear BK248)
  (try clear HB)
  generalize ((w9.setCell ⟨gb248, 0, none⟩ (.int .i64 ((rd_T47 l0_5 x8_1).f0))).setCell ⟨gb248, 1, none⟩ (.string ((rd_T47 l0_5 x8_1).f1))) = w12 at n0_ n1_ n2_ ⊢
  have BK246 := n0_
  have BK248 := n1_
  have HB := n2_
  clear n0_ n1_ n2_
  have z_ := dw2_ BK246 BK248 HB
  clear BK246 BK248 HB
  obtain ⟨BK246, BK248, HB⟩ := z_
  refine start_ (n := 19) (S := fun w' => w'.cell? ⟨gb248, 0, none⟩ = some (.int .i64 ((rd_T47 l0_5 x8_1).f0)) ∧ w'.cell? ⟨gb248, 1, none⟩ = some (.string ((rd_T47 l0_5 x8_1).f1))) (ds := []) bq_54 (by kernel_rfl) rfl rfl (bk2_ BK248.out) (fun hHeld => ?_); refine with_tabW impl_isDir.tab4 impl_isDir.bits4 (fun HT_ HW_ => ?_)
  generalize w12.drew = w13 at BK246 BK248 HB hHeld ⊢
  refine tr_ 0 13 bq_55 HT_ HW_ hHeld ?_
  refine one_ (i := 1) (N := some 14) bq_56 rfl rfl (one_of HT_.out (by kernel_rfl)) (by decide) (fun K hK => ?_)
  refine goes_ Tryd.func24 (by kernel_rfl) rfl #[.agg #[.int .i64 ((rd_T47 l0_5 x8_1).f0), .string ((rd_T47 l0_5 x8_1).f1)]] (by rfl) rfl rfl tq_0 ?_
  with_reducible refine (impl_EntryWord.calls k1 ((rd_T47 l0_5 x8_1).f0) ((rd_T47 l0_5 x8_1).f1) t249 _ A7.out).mono ?_
  rintro e w14 ⟨rfl, hb⟩
  refine ⟨_, rfl, ?_⟩
  have z_ := bw2_ (kb_ BK246) (kb_ BK248) th_ hb
  clear BK246 BK248 HB
  obtain ⟨BK246, BK248, HB⟩ := z_
  (try clear hb)
  refine hK.out _ _ (bk2_ BK248.out) (fun hHeld => ?_)
  clear hK K
  refine nm_ (some 14) ?_
  refine yr_ 2 15 bq_57 HT_ ?_
  refine yr_ 3 16 bq_58 HT_ ?_
  refine ur_ 4 17 bq_59 HT_ ?_
  refine ur_ 5 18 bq_60 HT_ ?_
  refine ur_ 6 19 bq_61 HT_ ?_
  refine ur_ 7 20 bq_62 HT_ ?_
  refine ur_ 8 21 bq_139 HT_ ?_
  refine ur_ 9 22 bq_140 HT_ ?_
  refine ur_ 10 23 bq_141 HT_ ?_
  refine ur_ 11 24 bq_142 HT_ ?_
  refine ur_ 12 25 bq_63 HT_ ?_
  refine ur_ 13 26 bq_64 HT_ ?_
  refine ur_ 14 27 bq_65 HT_ ?_
  refine ur_ 15 28 bq_66 HT_ ?_
  refine ur_ 16 29 bq_67 HT_ ?_
  refine ur_ 17 30 bq_68 HT_ ?_
  refine yr_ 18 31 bq_69 HT_ ?_
  refine done_ (done_of HT_.out (by kernel_rfl)) ?_
  try go_wp2
  go_ret
  exact ⟨tq_2, th_⟩
 rw [if_neg c8] at H
 have c8b0 := beq_eq_false_iff_ne.mpr c8
 have c8b1 := bne_iff_ne.mpr c8
 by_cases c15 : x8_1 > 0
 rotate_left
 ·rw [if_neg c15] at H
  have c15b0 := decide_eq_false c15
  clear c15
  have H' := Aside0.mk H
  clear H
  have p247 : 0 ≤ (x8_1 : Int) := of_decide_eq_true tq_1
  have q247 : x8_1 < (l0_5.length : Int) := of_decide_eq_true tq_1
  obtain ⟨ad247, e247, hx247_0, hx247_1⟩ := at_T47 HR0_5.out x8_1 p247 q247
  cases e247
  replace hx247_0 := hx_ HB.out hx247_0
  replace hx247_1 := hx_ HB.out hx247_1
  replace p247 := eq_true p247
  replace q247 := eq_true q247
  try go_wp2_with (first | ((with_reducible refine gate_dst (N := 4) rfl ?_); (try (refine gate_guard (by rfl) ?_; dsimp only)); refine be_ 4 (cs := #[.int .i64 0, .string (⟨#[]⟩ : ByteArray)]) 47 ?_; intro gb248 hg w32 hbox hb; have z_ := bx1_ (kb_ BK246) th_ hb hbox hg; clear BK246 HB; obtain ⟨BK246, HB, BK248, GW248, GE248, NB246_248, NB248_246⟩ := z_; clear hb hbox hg; obtain ⟨n248_246, n246_248⟩ := an2_ NB248_246 NB246_248; obtain ⟨hcz34_0, hcz34_1⟩ := bk2_ BK248.out; obtain ⟨hfz34_0, hfz34_1⟩ := bf2_ BK248.out))
  have n0_ : Aside0 (((w32.setCell ⟨gb248, 0, none⟩ (.int .i64 ((rd_T47 l0_5 x8_1).f0))).setCell ⟨gb248, 1, none⟩ (.string ((rd_T47 l0_5 x8_1).f1))).heap[gb246]? = some (.cells #[.int .i64 a0_0, .int .i64 a0_1, .int .i64 a0_2, .string a0_3, .slice A0_4 l0_4.length c0_4, .slice (some ad247) l0_5.length c0_5] 27 (0, 0))) := ⟨tb_⟩
  have n1_ : Aside0 (((w32.setCell ⟨gb248, 0, none⟩ (.int .i64 ((rd_T47 l0_5 x8_1).f0))).setCell ⟨gb248, 1, none⟩ (.string ((rd_T47 l0_5 x8_1).f1))).heap[gb248]? = some (.cells #[.int .i64 ((rd_T47 l0_5 x8_1).f0), .string ((rd_T47 l0_5 x8_1).f1)] 47 (0, 0))) := ⟨tb_⟩
  have n2_ : Aside0 (Below w.heap.size w ((w32.setCell ⟨gb248, 0, none⟩ (.int .i64 ((rd_T47 l0_5 x8_1).f0))).setCell ⟨gb248, 1, none⟩ (.string ((rd_T47 l0_5 x8_1).f1)))) := ⟨th_⟩
  (try clear BK246)
  (try clear BK248)
  (try clear HB)
  generalize ((w32.setCell ⟨gb248, 0, none⟩ (.int .i64 ((rd_T47 l0_5 x8_1).f0))).setCell ⟨gb248, 1, none⟩ (.string ((rd_T47 l0_5 x8_1).f1))) = w35 at n0_ n1_ n2_ ⊢
  have BK246 := n0_
  have BK248 := n1_
  have HB := n2_
  clear n0_ n1_ n2_
  have z_ := dw2_ BK246 BK248 HB
  clear BK246 BK248 HB
  obtain ⟨BK246, BK248, HB⟩ := z_
  refine start_ (n := 19) (S := fun w' => w'.cell? ⟨gb248, 0, none⟩ = some (.int .i64 ((rd_T47 l0_5 x8_1).f0)) ∧ w'.cell? ⟨gb248, 1, none⟩ = some (.string ((rd_T47 l0_5 x8_1).f1))) (ds := []) bq_54 (by kernel_rfl) rfl rfl (bk2_ BK248.out) (fun hHeld => ?_); refine with_tabW impl_isDir.tab4 impl_isDir.bits4 (fun HT_ HW_ => ?_)
  generalize w35.drew = w36 at BK246 BK248 HB hHeld ⊢
  refine tr_ 0 13 bq_55 HT_ HW_ hHeld ?_
  refine one_ (i := 1) (N := some 14) bq_56 rfl rfl (one_of HT_.out (by kernel_rfl)) (by decide) (fun K hK => ?_)
  refine goes_ Tryd.func24 (by kernel_rfl) rfl #[.agg #[.int .i64 ((rd_T47 l0_5 x8_1).f0), .string ((rd_T47 l0_5 x8_1).f1)]] (by rfl) rfl rfl tq_0 ?_
  with_reducible refine (impl_EntryWord.calls k1 ((rd_T47 l0_5 x8_1).f0) ((rd_T47 l0_5 x8_1).f1) t249 _ A7.out).mono ?_
  rintro e w37 ⟨rfl, hb⟩
  refine ⟨_, rfl, ?_⟩
  have z_ := bw2_ (kb_ BK246) (kb_ BK248) th_ hb
  clear BK246 BK248 HB
  obtain ⟨BK246, BK248, HB⟩ := z_
  (try clear hb)
  refine hK.out _ _ (bk2_ BK248.out) (fun hHeld => ?_)
  clear hK K
  refine nm_ (some 14) ?_
  refine yr_ 2 15 bq_57 HT_ ?_
  refine yr_ 3 16 bq_58 HT_ ?_
  refine yr_ 4 17 bq_59 HT_ ?_
  refine yr_ 5 18 bq_60 HT_ ?_
  refine yr_ 6 19 bq_61 HT_ ?_
  refine ur_ 7 20 bq_62 HT_ ?_
  refine ur_ 8 21 bq_139 HT_ ?_
  refine ur_ 9 22 bq_140 HT_ ?_
  refine ur_ 10 23 bq_141 HT_ ?_
  refine ur_ 11 24 bq_142 HT_ ?_
  refine ur_ 12 25 bq_63 HT_ ?_
  refine ur_ 13 26 bq_64 HT_ ?_
  refine ur_ 14 27 bq_65 HT_ ?_
  refine ur_ 15 28 bq_66 HT_ ?_
  refine ur_ 16 29 bq_67 HT_ ?_
  refine yr_ 17 30 bq_68 HT_ ?_
  refine yr_ 18 31 bq_69 HT_ ?_
  refine done_ (done_of HT_.out (by kernel_rfl)) ?_
  try go_wp2
  go_roundg k1
  case measure => have := HK1.out; omega
  case rel => exact ⟨(wrap64 (x8_1 + 1)), tq_4, H', ⟨tq_56⟩, ⟨(kb_ BK246)⟩, ⟨th_⟩⟩
 rw [if_pos c15] at H
 have c15b0 := decide_eq_true c15
 clear c15
 obtain ⟨ji16, hji16⟩ : ∃ j_ : Int, (wrap64 (x8_1 - 1)) = j_ := ⟨_, rfl⟩
 replace H : (if 0 ≤ (ji16) then (if (ji16) < (l0_5.length : Int) then (if ((Op.bytesLess (((rd_T47 l0_5 (ji16)).f1).toList) (((rd_T47 l0_5 x8_1).f1).toList)) = true) then (impl_isDir.l0 k1 l0_5 (l0_5.length : Int) (wrap64 (x8_1 + 1)) a0_0 a0_1 a0_2 a0_3 l0_4 l0_5) else (some false)) else (none)) else (none)) = some r := by first | (rw [hji16] at H; exact H) | (simp only [hji16] at H ⊢; exact H)
 (try rw [hji16] at A7)
 have hji16w : (IntKind.i64.wrap (x8_1 - 1)) = ji16 := (i64_w _).trans hji16
 obtain ⟨c17, H⟩ := fc_ H
 have c17b0 := decide_eq_true c17
 clear c17
 obtain ⟨c18, H⟩ := fc_ H
 have c18b0 := decide_eq_true c18
 clear c18
 by_cases c19 : ((Op.bytesLess (((rd_T47 l0_5 (ji16)).f1).toList) (((rd_T47 l0_5 x8_1).f1).toList)) = true)
 ·rw [if_pos c19] at H
  have c19b0 : (Op.bytesLess (((rd_T47 l0_5 (ji16)).f1).toList) (((rd_T47 l0_5 x8_1).f1).toList)) = true := c19
  have c19b0q : (Op.bytesLess (((rd_T47 l0_5 x8_1).f1).toList) (((rd_T47 l0_5 (ji16)).f1).toList) || ((((rd_T47 l0_5 x8_1).f1).toList) == (((rd_T47 l0_5 (ji16)).f1).toList))) = false := by rw [bl_leq, c19b0]; rfl
  clear c19
  have H' := Aside0.mk H
  clear H
  have p247 : 0 ≤ (x8_1 : Int) := of_decide_eq_true tq_1
  have q247 : x8_1 < (l0_5.length : Int) := of_decide_eq_true tq_1
  obtain ⟨ad247, e247, hx247_0, hx247_1⟩ := at_T47 HR0_5.out x8_1 p247 q247
  cases e247
  replace hx247_0 := hx_ HB.out hx247_0
  replace hx247_1 := hx_ HB.out hx247_1
  replace p247 := eq_true p247
  replace q247 := eq_true q247
  try go_wp2_with (first | ((with_reducible refine gate_dst (N := 4) rfl ?_); (try (refine gate_guard (by rfl) ?_; dsimp only)); refine be_ 4 (cs := #[.int .i64 0, .string (⟨#[]⟩ : ByteArray)]) 47 ?_; intro gb248 hg w20 hbox hb; have z_ := bx1_ (kb_ BK246) th_ hb hbox hg; clear BK246 HB; obtain ⟨BK246, HB, BK248, GW248, GE248, NB246_248, NB248_246⟩ := z_; clear hb hbox hg; obtain ⟨n248_246, n246_248⟩ := an2_ NB248_246 NB246_248; obtain ⟨hcz22_0, hcz22_1⟩ := bk2_ BK248.out; obtain ⟨hfz22_0, hfz22_1⟩ := bf2_ BK248.out))
  have n0_ : Aside0 (((w20.setCell ⟨gb248, 0, none⟩ (.int .i64 ((rd_T47 l0_5 x8_1).f0))).setCell ⟨gb248, 1, none⟩ (.string ((rd_T47 l0_5 x8_1).f1))).heap[gb246]? = some (.cells #[.int .i64 a0_0, .int .i64 a0_1, .int .i64 a0_2, .string a0_3, .slice A0_4 l0_4.length c0_4, .slice (some ad247) l0_5.length c0_5] 27 (0, 0))) := ⟨tb_⟩
  have n1_ : Aside0 (((w20.setCell ⟨gb248, 0, none⟩ (.int .i64 ((rd_T47 l0_5 x8_1).f0))).setCell ⟨gb248, 1, none⟩ (.string ((rd_T47 l0_5 x8_1).f1))).heap[gb248]? = some (.cells #[.int .i64 ((rd_T47 l0_5 x8_1).f0), .string ((rd_T47 l0_5 x8_1).f1)] 47 (0, 0))) := ⟨tb_⟩
  have n2_ : Aside0 (Below w.heap.size w ((w20.setCell ⟨gb248, 0, none⟩ (.int .i64 ((rd_T47 l0_5 x8_1).f0))).setCell ⟨gb248, 1, none⟩ (.string ((rd_T47 l0_5 x8_1).f1)))) := ⟨th_⟩
  (try clear BK246)
  (try clear BK248)
  (try clear HB)
  generalize ((w20.setCell ⟨gb248, 0, none⟩ (.int .i64 ((rd_T47 l0_5 x8_1).f0))).setCell ⟨gb248, 1, none⟩ (.string ((rd_T47 l0_5 x8_1).f1))) = w23 at n0_ n1_ n2_ ⊢
  have BK246 := n0_
  have BK248 := n1_
  have HB := n2_
  clear n0_ n1_ n2_
  have z_ := dw2_ BK246 BK248 HB
  clear BK246 BK248 HB
  obtain ⟨BK246, BK248, HB⟩ := z_
  have p250 : 0 ≤ ((ji16) : Int) := of_decide_eq_true tq_1
  have q250 : (ji16) < (l0_5.length : Int) := of_decide_eq_true tq_1
  obtain ⟨ad250, e250, hx250_0, hx250_1⟩ := at_T47 HR0_5.out (ji16) p250 q250
  have hw250_1 := hx250_1
  have hw250_0 := hx250_0
  obtain rfl : ad247 = ad250 := (by injection e250)
  replace hx250_0 := hx_ HB.out hx250_0
  replace hx250_1 := hx_ HB.out hx250_1
  replace p250 := eq_true p250
  replace q250 := eq_true q250
  refine start_ (n := 19) (S := fun w' => w'.cell? ⟨gb248, 0, none⟩ = some (.int .i64 ((rd_T47 l0_5 x8_1).f0)) ∧ w'.cell? ⟨gb248, 1, none⟩ = some (.string ((rd_T47 l0_5 x8_1).f1)) ∧ w'.cell? ⟨gb246, 0, none⟩ = some (.int .i64 a0_0) ∧ w'.cell? ⟨gb246, 1, none⟩ = some (.int .i64 a0_1) ∧ w'.cell? ⟨gb246, 2, none⟩ = some (.int .i64 a0_2) ∧ w'.cell? ⟨gb246, 3, none⟩ = some (.string a0_3) ∧ w'.cell? ⟨gb246, 4, none⟩ = some (.slice A0_4 l0_4.length c0_4) ∧ w'.cell? ⟨gb246, 5, none⟩ = some (.slice (some ad247) l0_5.length c0_5) ∧ w'.cell? (ad247.add (((ji16)).toNat * 2)) = some (.int .i64 ((rd_T47 l0_5 (ji16)).f0)) ∧ w'.cell? ⟨(ad247.add (((ji16)).toNat * 2)).block, (ad247.add (((ji16)).toNat * 2)).off + 1, none⟩ = some (.string ((rd_T47 l0_5 (ji16)).f1))) (ds := []) bq_54 (by kernel_rfl) rfl rfl (bc2_ BK248.out (bc6_ BK246.out ⟨((HB.out.cell (World.block_lt_of_cell? w _ hw250_0)).trans hw250_0), ((HB.out.cell (World.block_lt_of_cell? w _ hw250_1)).trans hw250_1)⟩)) (fun hHeld => ?_); refine with_tabW impl_isDir.tab4 impl_isDir.bits4 (fun HT_ HW_ => ?_)
  generalize w23.drew = w24 at BK246 BK248 HB hx250_0 hx250_1 hHeld ⊢
  refine tr_ 0 13 bq_55 HT_ HW_ hHeld ?_
  refine one_ (i := 1) (N := some 14) bq_56 rfl rfl (one_of HT_.out (by kernel_rfl)) (by decide) (fun K hK => ?_)
  refine goes_ Tryd.func24 (by kernel_rfl) rfl #[.agg #[.int .i64 ((rd_T47 l0_5 x8_1).f0), .string ((rd_T47 l0_5 x8_1).f1)]] (by rfl) rfl rfl tq_0 ?_
  with_reducible refine (impl_EntryWord.calls k1 ((rd_T47 l0_5 x8_1).f0) ((rd_T47 l0_5 x8_1).f1) t249 _ A7.out).mono ?_
  rintro e w25 ⟨rfl, hb⟩
  refine ⟨_, rfl, ?_⟩
  have z_ := bw2_ (kb_ BK246) (kb_ BK248) th_ hb
  clear BK246 BK248 HB
  obtain ⟨BK246, BK248, HB⟩ := z_
  (try clear hb)
  refine hK.out _ _ (bc2_ BK248.out (bc6_ BK246.out ⟨((HB.out.cell (World.block_lt_of_cell? w _ hw250_0)).trans hw250_0), ((HB.out.cell (World.block_lt_of_cell? w _ hw250_1)).trans hw250_1)⟩)) (fun hHeld => ?_)
  clear hK K
  refine nm_ (some 14) ?_
  refine yr_ 2 15 bq_57 HT_ ?_
  refine yr_ 3 16 bq_58 HT_ ?_
  refine yr_ 4 17 bq_59 HT_ ?_
  refine yr_ 5 18 bq_60 HT_ ?_
  refine yr_ 6 19 bq_61 HT_ ?_
  refine yr_ 7 20 bq_62 HT_ ?_
  refine yr_ 9 22 bq_143 HT_ ?_
  refine yr_ 11 24 bq_144 HT_ ?_
  refine yr_ 12 25 bq_145 HT_ ?_
  refine tr_ 8 21 bq_146 HT_ HW_ hHeld ?_
  refine tr_ 10 23 bq_63 HT_ HW_ hHeld ?_
  refine yr_ 13 26 bq_64 HT_ ?_
  refine yr_ 14 27 bq_65 HT_ ?_
  refine tr_ 15 28 bq_66 HT_ HW_ hHeld ?_
  refine yr_ 16 29 bq_67 HT_ ?_
  refine yr_ 17 30 bq_68 HT_ ?_
  refine yr_ 18 31 bq_69 HT_ ?_
  refine done_ (done_of HT_.out (by kernel_rfl)) ?_
  try go_wp2
  go_roundg k1
  case measure => have := HK1.out; omega
  case rel => exact ⟨(wrap64 (x8_1 + 1)), tq_4, H', ⟨tq_56⟩, ⟨(kb_ BK246)⟩, ⟨th_⟩⟩
 rw [if_neg c19] at H
 have c19b0 : (Op.bytesLess (((rd_T47 l0_5 (ji16)).f1).toList) (((rd_T47 l0_5 x8_1).f1).toList)) = false := by simpa using c19
 have c19b0q : (Op.bytesLess (((rd_T47 l0_5 x8_1).f1).toList) (((rd_T47 l0_5 (ji16)).f1).toList) || ((((rd_T47 l0_5 x8_1).f1).toList) == (((rd_T47 l0_5 (ji16)).f1).toList))) = true := by rw [bl_leq, c19b0]; rfl
 clear c19
 obtain rfl := Option.some.inj H
 have p247 : 0 ≤ (x8_1 : Int) := of_decide_eq_true tq_1
 have q247 : x8_1 < (l0_5.length : Int) := of_decide_eq_true tq_1
 obtain ⟨ad247, e247, hx247_0, hx247_1⟩ := at_T47 HR0_5.out x8_1 p247 q247
 cases e247
 replace hx247_0 := hx_ HB.out hx247_0
 replace hx247_1 := hx_ HB.out hx247_1
 replace p247 := eq_true p247
 replace q247 := eq_true q247
 try go_wp2_with (first | ((with_reducible refine gate_dst (N := 4) rfl ?_); (try (refine gate_guard (by rfl) ?_; dsimp only)); refine be_ 4 (cs := #[.int .i64 0, .string (⟨#[]⟩ : ByteArray)]) 47 ?_; intro gb248 hg w26 hbox hb; have z_ := bx1_ (kb_ BK246) th_ hb hbox hg; clear BK246 HB; obtain ⟨BK246, HB, BK248, GW248, GE248, NB246_248, NB248_246⟩ := z_; clear hb hbox hg; obtain ⟨n248_246, n246_248⟩ := an2_ NB248_246 NB246_248; obtain ⟨hcz28_0, hcz28_1⟩ := bk2_ BK248.out; obtain ⟨hfz28_0, hfz28_1⟩ := bf2_ BK248.out))
 have n0_ : Aside0 (((w26.setCell ⟨gb248, 0, none⟩ (.int .i64 ((rd_T47 l0_5 x8_1).f0))).setCell ⟨gb248, 1, none⟩ (.string ((rd_T47 l0_5 x8_1).f1))).heap[gb246]? = some (.cells #[.int .i64 a0_0, .int .i64 a0_1, .int .i64 a0_2, .string a0_3, .slice A0_4 l0_4.length c0_4, .slice (some ad247) l0_5.length c0_5] 27 (0, 0))) := ⟨tb_⟩
 have n1_ : Aside0 (((w26.setCell ⟨gb248, 0, none⟩ (.int .i64 ((rd_T47 l0_5 x8_1).f0))).setCell ⟨gb248, 1, none⟩ (.string ((rd_T47 l0_5 x8_1).f1))).heap[gb248]? = some (.cells #[.int .i64 ((rd_T47 l0_5 x8_1).f0), .string ((rd_T47 l0_5 x8_1).f1)] 47 (0, 0))) := ⟨tb_⟩
 have n2_ : Aside0 (Below w.heap.size w ((w26.setCell ⟨gb248, 0, none⟩ (.int .i64 ((rd_T47 l0_5 x8_1).f0))).setCell ⟨gb248, 1, none⟩ (.string ((rd_T47 l0_5 x8_1).f1)))) := ⟨th_⟩
 (try clear BK246)
 (try clear BK248)
 (try clear HB)
 generalize ((w26.setCell ⟨gb248, 0, none⟩ (.int .i64 ((rd_T47 l0_5 x8_1).f0))).setCell ⟨gb248, 1, none⟩ (.string ((rd_T47 l0_5 x8_1).f1))) = w29 at n0_ n1_ n2_ ⊢
 have BK246 := n0_
 have BK248 := n1_
 have HB := n2_
 clear n0_ n1_ n2_
 have z_ := dw2_ BK246 BK248 HB
 clear BK246 BK248 HB
 obtain ⟨BK246, BK248, HB⟩ := z_
 have p250 : 0 ≤ ((ji16) : Int) := of_decide_eq_true tq_1
 have q250 : (ji16) < (l0_5.length : Int) := of_decide_eq_true tq_1
 obtain ⟨ad250, e250, hx250_0, hx250_1⟩ := at_T47 HR0_5.out (ji16) p250 q250
 have hw250_1 := hx250_1
 have hw250_0 := hx250_0
 obtain rfl : ad247 = ad250 := (by injection e250)
 replace hx250_0 := hx_ HB.out hx250_0
 replace hx250_1 := hx_ HB.out hx250_1
 replace p250 := eq_true p250
 replace q250 := eq_true q250
 refine start_ (n := 19) (S := fun w' => w'.cell? ⟨gb248, 0, none⟩ = some (.int .i64 ((rd_T47 l0_5 x8_1).f0)) ∧ w'.cell? ⟨gb248, 1, none⟩ = some (.string ((rd_T47 l0_5 x8_1).f1)) ∧ w'.cell? ⟨gb246, 0, none⟩ = some (.int .i64 a0_0) ∧ w'.cell? ⟨gb246, 1, none⟩ = some (.int .i64 a0_1) ∧ w'.cell? ⟨gb246, 2, none⟩ = some (.int .i64 a0_2) ∧ w'.cell? ⟨gb246, 3, none⟩ = some (.string a0_3) ∧ w'.cell? ⟨gb246, 4, none⟩ = some (.slice A0_4 l0_4.length c0_4) ∧ w'.cell? ⟨gb246, 5, none⟩ = some (.slice (some ad247) l0_5.length c0_5) ∧ w'.cell? (ad247.add (((ji16)).toNat * 2)) = some (.int .i64 ((rd_T47 l0_5 (ji16)).f0)) ∧ w'.cell? ⟨(ad247.add (((ji16)).toNat * 2)).block, (ad247.add (((ji16)).toNat * 2)).off + 1, none⟩ = some (.string ((rd_T47 l0_5 (ji16)).f1))) (ds := []) bq_54 (by kernel_rfl) rfl rfl (bc2_ BK248.out (bc6_ BK246.out ⟨((HB.out.cell (World.block_lt_of_cell? w _ hw250_0)).trans hw250_0), ((HB.out.cell (World.block_lt_of_cell? w _ hw250_1)).trans hw250_1)⟩)) (fun hHeld => ?_); refine with_tabW impl_isDir.tab4 impl_isDir.bits4 (fun HT_ HW_ => ?_)
 generalize w29.drew = w30 at BK246 BK248 HB hx250_0 hx250_1 hHeld ⊢
 refine tr_ 0 13 bq_55 HT_ HW_ hHeld ?_
 refine one_ (i := 1) (N := some 14) bq_56 rfl rfl (one_of HT_.out (by kernel_rfl)) (by decide) (fun K hK => ?_)
 refine goes_ Tryd.func24 (by kernel_rfl) rfl #[.agg #[.int .i64 ((rd_T47 l0_5 x8_1).f0), .string ((rd_T47 l0_5 x8_1).f1)]] (by rfl) rfl rfl tq_0 ?_
 with_reducible refine (impl_EntryWord.calls k1 ((rd_T47 l0_5 x8_1).f0) ((rd_T47 l0_5 x8_1).f1) t249 _ A7.out).mono ?_
 rintro e w31 ⟨rfl, hb⟩
 refine ⟨_, rfl, ?_⟩
 have z_ := bw2_ (kb_ BK246) (kb_ BK248) th_ hb
 clear BK246 BK248 HB
 obtain ⟨BK246, BK248, HB⟩ := z_
 (try clear hb)
 refine hK.out _ _ (bc2_ BK248.out (bc6_ BK246.out ⟨((HB.out.cell (World.block_lt_of_cell? w _ hw250_0)).trans hw250_0), ((HB.out.cell (World.block_lt_of_cell? w _ hw250_1)).trans hw250_1)⟩)) (fun hHeld => ?_)
 clear hK K
 refine nm_ (some 14) ?_
 refine yr_ 2 15 bq_57 HT_ ?_
 refine yr_ 3 16 bq_58 HT_ ?_
 refine yr_ 4 17 bq_59 HT_ ?_
 refine yr_ 5 18 bq_60 HT_ ?_
 refine yr_ 6 19 bq_61 HT_ ?_
 refine yr_ 7 20 bq_62 HT_ ?_
 refine yr_ 9 22 bq_143 HT_ ?_
 refine yr_ 11 24 bq_144 HT_ ?_
 refine yr_ 12 25 bq_145 HT_ ?_
 refine tr_ 8 21 bq_146 HT_ HW_ hHeld ?_
 refine tr_ 10 23 bq_63 HT_ HW_ hHeld ?_
 refine yr_ 13 26 bq_64 HT_ ?_
 refine yr_ 14 27 bq_65 HT_ ?_
 refine tr_ 15 28 bq_66 HT_ HW_ hHeld ?_
 refine yr_ 16 29 bq_67 HT_ ?_
 refine yr_ 17 30 bq_68 HT_ ?_
 refine yr_ 18 31 bq_69 HT_ ?_
 refine done_ (done_of HT_.out (by kernel_rfl)) ?_
 try go_wp2
 go_ret
 exact ⟨(by first | rfl | (simp [errW_none, errW_some] <;> rfl) | (simp only [← hji16]; first | rfl | (simp [errW_none, errW_some] <;> rfl)) | (simp [*, errW_none, errW_some] <;> rfl)), th_⟩

end Go.Proofs.YtjfhddenmnjgbaaDoor.PFnAnyInode
