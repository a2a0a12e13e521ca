/- Contracts of Go functions, written by a program of ours over the print of the kit: each says that the call returns what the Lean function beside it computes. Conditions: as each theorem states them. -/
import Derived.Test.YtjfhddenmnjgbaaDoorPkFnAnyInode
import Derived.Test.YtjfhddenmnjgbaaDoorPFnAnyInodex0
import Derived.Test.YtjfhddenmnjgbaaDoorPFnAnyInodex3
import Derived.Test.YtjfhddenmnjgbaaDoorPFnAnyInodex4
import Derived.Test.YtjfhddenmnjgbaaDoorPFnAnyInodex6
namespace Go.Proofs.YtjfhddenmnjgbaaDoor.PFnAnyInode
open Go.RowKit Go.Proofs.YtjfhddenmnjgbaaDoorW.PrintWords Go.Proofs.YtjfhddenmnjgbaaDoorW.PrintLast Go.Proofs.YtjfhddenmnjgbaaDoorW.PrintMore
attribute [local go_sem] max2_int min2_int max_two min_two max_three min_three max_four min_four setCell_drewN   -- for this text's walks alone
set_option linter.unusedVariables false
set_option linter.unusedSimpArgs false

/-! ### spec_InodeWords: function 34 -/
mutual
def spec_InodeWords.l0 : Nat → List ByteArray → Int → Int → Int → Int → ByteArray → List (S42) → List (S47) → Option (List ByteArray)
 | 0, _, _, _, _, _, _, _, _ => none
 | k + 1, x3, x4, x157000, x157001, x157002, x157003, x157004, x157005 => if x4 < (x157004.length : Int) then (if 0 ≤ x4 then ((spec_RecWord.f k ((rd_T42 x157004 x4).f0) ((rd_T42 x157004 x4).f1) ((rd_T42 x157004 x4).f2)).bind fun t170 => (if x3.length < 8796093022208 then (spec_InodeWords.l0 k (x3 ++ [t170]) (wrap64 (x4 + 1)) x157000 x157001 x157002 x157003 x157004 x157005) else (none))) else (none)) else (spec_InodeWords.l1 k x3 0 x157000 x157001 x157002 x157003 x157004 x157005)
def spec_InodeWords.l1 : Nat → List ByteArray → Int → Int → Int → Int → ByteArray → List (S42) → List (S47) → Option (List ByteArray)
 | 0, _, _, _, _, _, _, _, _ => none
 | k + 1, x3, x5, x157000, x157001, x157002, x157003, x157004, x157005 => if x5 < (x157005.length : Int) then (if 0 ≤ x5 then ((spec_EntryWord.f k ((rd_T47 x157005 x5).f0) ((rd_T47 x157005 x5).f1)).bind fun t175 => (if x3.length < 8796093022208 then (spec_InodeWords.l1 k (x3 ++ [t175]) (wrap64 (x5 + 1)) x157000 x157001 x157002 x157003 x157004 x157005) else (none))) else (none)) else (spec_InodeWords.l2 k x3)
def spec_InodeWords.l2 : Nat → List ByteArray → Option (List ByteArray)
 | 0, _ => none
 | k + 1, x3 => if (x3.length : Int) < 8 then ((spec_ZeroText.f k 8).bind fun t179 => (if x3.length < 8796093022208 then (spec_InodeWords.l2 k (x3 ++ [t179])) else (none))) else (some x3)
end
def spec_InodeWords.f (k : Nat) (a0_0 : Int) (a0_1 : Int) (a0_2 : Int) (a0_3 : ByteArray) (l0_4 : List (S42)) (l0_5 : List (S47)) : Option (List ByteArray) := (spec_InodeOk.f k a0_0 a0_1 a0_2 a0_3 l0_4 l0_5).bind fun t157 => (if t157 = true then ((spec_NumText.f k a0_0 1).bind fun t161 => ((spec_NumText.f k a0_1 2).bind fun t162 => (if t161.size + t162.size ≤ 9223372036854775807 then ((spec_NumText.f k a0_2 2).bind fun t163 => (if (t161 ++ t162).size + t163.size ≤ 9223372036854775807 then ((spec_WordText.f k ((t161 ++ t162) ++ t163)).bind fun t164 => ((spec_WordText.f k a0_3).bind fun t165 => (spec_InodeWords.l0 k (([t164, t165] : List ByteArray)) 0 a0_0 a0_1 a0_2 a0_3 l0_4 l0_5))) else (none))) else (none)))) else (some (([] : List ByteArray))))
theorem spec_InodeWords.mono_l : ∀ k, (∀ y0 y1 y2 y3 y4 y5 y6 y7, LeO (spec_InodeWords.l0 k y0 y1 y2 y3 y4 y5 y6 y7) (spec_InodeWords.l0 (k + 1) y0 y1 y2 y3 y4 y5 y6 y7)) ∧ (∀ y0 y1 y2 y3 y4 y5 y6 y7, LeO (spec_InodeWords.l1 k y0 y1 y2 y3 y4 y5 y6 y7) (spec_InodeWords.l1 (k + 1) y0 y1 y2 y3 y4 y5 y6 y7)) ∧ (∀ y0, LeO (spec_InodeWords.l2 k y0) (spec_InodeWords.l2 (k + 1) y0))
 | 0 => ⟨fun _ _ _ _ _ _ _ _ r h => by simp [spec_InodeWords.l0] at h, fun _ _ _ _ _ _ _ _ r h => by simp [spec_InodeWords.l1] at h, fun _ r h => by simp [spec_InodeWords.l2] at h⟩
 | k + 1 => by
  obtain ⟨ih0, ih1, ih2⟩ := spec_InodeWords.mono_l k
  refine ⟨?_, ?_, ?_⟩
  ·intro y0 y1 y2 y3 y4 y5 y6 y7
   unfold spec_InodeWords.l0
   exact mo_3
  ·intro y0 y1 y2 y3 y4 y5 y6 y7
   unfold spec_InodeWords.l1
   exact mo_3
  ·intro y0
   unfold spec_InodeWords.l2
   exact mo_3
theorem spec_InodeWords.mono : ∀ a0 a1 a2 a3 a4 a5 k, LeO (spec_InodeWords.f k a0 a1 a2 a3 a4 a5) (spec_InodeWords.f (k + 1) a0 a1 a2 a3 a4 a5) := by
 intro a0 a1 a2 a3 a4 a5 k
 obtain ⟨ih0, ih1, ih2⟩ := spec_InodeWords.mono_l k
 unfold spec_InodeWords.f
 repeat' first
   | (with_reducible exact ih0 ..)
   | (with_reducible exact ih1 ..)
   | (with_reducible exact ih2 _)
   | (with_reducible exact spec_EntryWord.mono ..)
   | (with_reducible exact spec_InodeOk.mono ..)
   | (with_reducible exact spec_NumText.mono ..)
   | (with_reducible exact spec_RecWord.mono ..)
   | (with_reducible exact spec_WordText.mono ..)
   | (with_reducible exact spec_ZeroText.mono ..)
   | (with_reducible exact LeO.refl _)
   | (with_reducible exact LeO.none _)
   | (with_reducible refine LeO.ite ?_ ?_)
   | (with_reducible refine LeO.bind ?_ (fun _ => ?_))
   | exact ih0 ..
   | exact ih1 ..
   | exact ih2 _
   | exact spec_EntryWord.mono ..
   | exact spec_InodeOk.mono ..
   | exact spec_NumText.mono ..
   | exact spec_RecWord.mono ..
   | exact spec_WordText.mono ..
   | exact spec_ZeroText.mono ..
   | exact LeO.none _
   | refine LeO.ite ?_ ?_
   | refine LeO.bind ?_ (fun _ => ?_)
def spec_InodeWords.T3 : Bool × List (List Nat × List Nat) := (true, [([], []), ([0], [0]), ([1], [1]), ([], []), ([3], [3]), ([4, 2], [4]), ([2, 5], [2, 5]), ([], []), ([7], [7]), ([8, 5], [8]), ([6, 9], [6, 9]), ([10, 9], [10]), ([], []), ([12], [12]), ([13, 11], [13]), ([11, 14], [11, 14]), ([15, 14, 0, 1, 2, 3, 4, 5, 6, 7, 8, 9, 10, 11, 12, 13, 14, 15], [15])])
def spec_InodeWords.B3 : List Nat := [0, 1, 3, 0, 8, 31, 63, 0, 128, 447, 1023, 2047, 0, 4096, 16383, 32767, 65535]
theorem spec_InodeWords.tab3 : rtab .any (opsOf Tryd.f34 3) = spec_InodeWords.T3 := by kernel_rfl
theorem spec_InodeWords.bits3 : waitsOk spec_InodeWords.T3.2 spec_InodeWords.B3 = true := by kernel_rfl
set_option maxHeartbeats 8000000 in
set_option maxRecDepth 100000 in
theorem spec_InodeWords.calls (k : Nat) (a0_0 : Int) (a0_1 : Int) (a0_2 : Int) (a0_3 : ByteArray) (A0_4 : Option Addr) (c0_4 : Nat) (l0_4 : List (S42)) (A0_5 : Option Addr) (c0_5 : Nat) (l0_5 : List (S47)) (r : List ByteArray) (w : World) (hr0_4 : Kd.C k42 w A0_4 l0_4.length l0_4) (hc0_4 : l0_4.length ≤ c0_4) (hr0_5 : Kd.C k47 w A0_5 l0_5.length l0_5) (hc0_5 : l0_5.length ≤ c0_5) (h : spec_InodeWords.f k a0_0 a0_1 a0_2 a0_3 l0_4 l0_5 = some r) :
  Calls Tryd.prog 34 #[.agg #[.int .i64 a0_0, .int .i64 a0_1, .int .i64 a0_2, .string a0_3, .slice A0_4 l0_4.length c0_4, .slice A0_5 l0_5.length c0_5]] w fun e w' => ∃ v0_ : Value, e = .returned (v0_) ∧ Kd.R Kd.string 9 w' w.heap.size (fun _ => True) v0_ r ∧ Below w.heap.size w w' := by
 have hu27 := Tryd.underlying27
 have hu42 := Tryd.underlying42
 have hu47 := Tryd.underlying47
 have HR0_4 := Aside0.mk hr0_4
 have HC0_4 := Aside0.mk hc0_4
 clear hr0_4 hc0_4
 have HR0_5 := Aside0.mk hr0_5
 have HC0_5 := Aside0.mk hc0_5
 clear hr0_5 hc0_5
 have HB := Aside0.mk (Below.refl w.heap.size w)
 unfold spec_InodeWords.f at h
 have H := h
 clear h
 obtain ⟨t157, A2, H⟩ := bd_ H
 by_cases c3 : t157 = true
 rotate_left
 ·replace c3 := Bool.eq_false_iff.mpr c3
  subst c3
  rw [if_neg nf_] at H
  obtain ⟨y158, hy158⟩ : ∃ y_ : List ByteArray, y_ = (([] : List ByteArray)) := ⟨_, rfl⟩
  replace H : (some y158) = some r := by first | (rw [hy158]; with_reducible exact H) | (have H2_ := (Option.bind_some _ _).symm.trans H; rw [hy158]; with_reducible exact H2_) | (have H2_ := (Option.bind_some _ _).symm.trans H; with_reducible exact H2_) | with_reducible exact H | (rw [hy158]; exact H) | exact H
  have Ny158 := Aside0.mk hy158
  clear hy158
  obtain rfl := Option.some.inj H
  go_enter Tryd.func34, Tryd.ntmps34
  go_wp2_with (first | ((with_reducible refine gate_dst (N := 1) rfl ?_); refine be_ 1 (cs := #[.int .i64 a0_0, .int .i64 a0_1, .int .i64 a0_2, .string a0_3, .slice A0_4 l0_4.length c0_4, .slice A0_5 l0_5.length c0_5]) 27 ?_; intro gb156 hg w45 hbox hb; have z_ := bx0_ th_ hb hbox hg; clear HB; obtain ⟨HB, BK156, GW156, GE156⟩ := z_; clear hb hbox hg; obtain ⟨hcz46_0, hcz46_1, hcz46_2, hcz46_3, hcz46_4, hcz46_5⟩ := bk6_ BK156.out; obtain ⟨hfz46_0, hfz46_1, hfz46_2, hfz46_3, hfz46_4, hfz46_5⟩ := bf6_ BK156.out) | ((with_reducible refine gate_callee (f := 18) rfl ?_); refine goesL_ (some 7) rfl rfl Tryd.func18 (by kernel_rfl) rfl #[.agg #[.int .i64 a0_0, .int .i64 a0_1, .int .i64 a0_2, .string a0_3, .slice A0_4 l0_4.length c0_4, .slice A0_5 l0_5.length c0_5]] rfl tq_0 ?_; (with_reducible refine (spec_InodeOk.calls k a0_0 a0_1 a0_2 a0_3 _ _ l0_4 _ _ l0_5 false _ ?side1 ?side2 ?side3 ?side4 A2.out).mono ?_); (case side1 => exact tq_27); (case side2 => exact HC0_4.out); (case side3 => exact tq_46); (case side4 => exact HC0_5.out); rintro e w47 ⟨rfl, hb⟩; refine ⟨_, rfl, ?_⟩; have z_ := bw1_ (kb_ BK156) th_ hb; clear BK156 HB; obtain ⟨BK156, HB⟩ := z_; (try clear hb)) | ((with_reducible refine gate_dst (N := 9) rfl ?_); refine Kd.R_lit Kd.string _ 9 ?hg (N := 9) ?hd (xs := ([] : List ByteArray)) (inner := []) (ok := fun _ => True) (okp := fun _ => True) ?hr ?hp (fun _ hk => hk) trivial (Below.refl _ _) (Nat.le_refl _) (by simp) ?_; (case hd => rfl); (case hg => rfl); (case hr => first | (go_simp; done) | (go_simp; rfl)); (case hp => exact (Reps.none _ _)); intro v159 w48 ho49 hb hg_ hnew_; clear hg_ hnew_; (first | rw [← Ny158.out] at ho49 | (simp only [Int.reduceToNat] at ho49; rw [← Ny158.out] at ho49)); have z_ := p_ (Kd.R_lower ho49 (below_size th_)) <| bw1_ (kb_ BK156) th_ hb; clear BK156 HB; obtain ⟨HO160, BK156, HB⟩ := z_; clear hb ho49))
  go_ret
  exact ⟨_, tq_2, (raR_ HO160), th_⟩
 subst c3
 rw [if_pos rfl] at H
 obtain ⟨t161, A4, H⟩ := bd_ H
 obtain ⟨t162, A5, H⟩ := bd_ H
 obtain ⟨c6, H⟩ := fc_ H
 have c6b0 := eq_true c6
 have c6b1 := decide_eq_true c6
 try have c6b2 : (9223372036854775807 < t161.size + t162.size) = False := eq_false (Nat.not_lt.2 c6)
 obtain ⟨t163, A7, H⟩ := bd_ H
 obtain ⟨c8, H⟩ := fc_ H
 have c8b0 := eq_true c8
 have c8b1 := decide_eq_true c8
 try have c8b2 : (9223372036854775807 < (t161 ++ t162).size + t163.size) = False := eq_false (Nat.not_lt.2 c8)
 try have c8b2s : (9223372036854775807 < t161.size + t162.size + t163.size) = False := by rw [← ByteArray.size_append]; exact c8b2
 obtain ⟨t164, A9, H⟩ := bd_ H
 obtain ⟨t165, A10, H⟩ := bd_ H
 obtain ⟨y166, hy166⟩ : ∃ y_ : List ByteArray, y_ = (([t164, t165] : List ByteArray)) := ⟨_, rfl⟩
 replace H : (spec_InodeWords.l0 k y166 0 a0_0 a0_1 a0_2 a0_3 l0_4 l0_5) = some r := by first | (rw [hy166]; with_reducible exact H) | (have H2_ := (Option.bind_some _ _).symm.trans H; rw [hy166]; with_reducible exact H2_) | (have H2_ := (Option.bind_some _ _).symm.trans H; with_reducible exact H2_) | with_reducible exact H | (rw [hy166]; exact H) | exact H
 have Ny166 := Aside0.mk hy166
 clear hy166
 have H' := Aside0.mk H
 clear H
 go_enter Tryd.func34, Tryd.ntmps34
 try go_wp2_with (first | ((with_reducible refine gate_dst (N := 1) rfl ?_); refine be_ 1 (cs := #[.int .i64 a0_0, .int .i64 a0_1, .int .i64 a0_2, .string a0_3, .slice A0_4 l0_4.length c0_4, .slice A0_5 l0_5.length c0_5]) 27 ?_; intro gb156 hg w11 hbox hb; have z_ := bx0_ th_ hb hbox hg; clear HB; obtain ⟨HB, BK156, GW156, GE156⟩ := z_; clear hb hbox hg; obtain ⟨hcz12_0, hcz12_1, hcz12_2, hcz12_3, hcz12_4, hcz12_5⟩ := bk6_ BK156.out; obtain ⟨hfz12_0, hfz12_1, hfz12_2, hfz12_3, hfz12_4, hfz12_5⟩ := bf6_ BK156.out) | ((with_reducible refine gate_callee (f := 18) rfl ?_); refine goesL_ (some 7) rfl rfl Tryd.func18 (by kernel_rfl) rfl #[.agg #[.int .i64 a0_0, .int .i64 a0_1, .int .i64 a0_2, .string a0_3, .slice A0_4 l0_4.length c0_4, .slice A0_5 l0_5.length c0_5]] rfl tq_0 ?_; (with_reducible refine (spec_InodeOk.calls k a0_0 a0_1 a0_2 a0_3 _ _ l0_4 _ _ l0_5 true _ ?side1 ?side2 ?side3 ?side4 A2.out).mono ?_); (case side1 => exact tq_27); (case side2 => exact HC0_4.out); (case side3 => exact tq_46); (case side4 => exact HC0_5.out); rintro e w13 ⟨rfl, hb⟩; refine ⟨_, rfl, ?_⟩; have z_ := bw1_ (kb_ BK156) th_ hb; clear BK156 HB; obtain ⟨BK156, HB⟩ := z_; (try clear hb)))
 have z_ := dw1_ BK156 HB
 clear BK156 HB
 obtain ⟨BK156, HB⟩ := z_
 refine start_ (n := 17) (S := fun w' => w'.cell? ⟨gb156, 0, none⟩ = some (.int .i64 a0_0) ∧ w'.cell? ⟨gb156, 1, none⟩ = some (.int .i64 a0_1) ∧ w'.cell? ⟨gb156, 2, none⟩ = some (.int .i64 a0_2) ∧ w'.cell? ⟨gb156, 3, none⟩ = some (.string a0_3) ∧ w'.cell? ⟨gb156, 4, none⟩ = some (.slice A0_4 l0_4.length c0_4) ∧ w'.cell? ⟨gb156, 5, none⟩ = some (.slice A0_5 l0_5.length c0_5)) (ds := []) bq_121 (by kernel_rfl) rfl rfl (bk6_ BK156.out) (fun hHeld => ?_); refine with_tabW spec_InodeWords.tab3 spec_InodeWords.bits3 (fun HT_ HW_ => ?_)
 generalize w13.drew = w14 at BK156 HB hHeld ⊢
 refine yr_ 0 10 bq_122 HT_ ?_
 refine yr_ 3 13 bq_123 HT_ ?_
 refine yr_ 7 17 bq_124 HT_ ?_
 refine yr_ 12 22 bq_125 HT_ ?_
 refine tr_ 1 11 bq_126 HT_ HW_ hHeld ?_
 refine tr_ 4 14 bq_127 HT_ HW_ hHeld ?_
 refine tr_ 8 18 bq_128 HT_ HW_ hHeld ?_
 refine tr_ 13 23 bq_129 HT_ HW_ hHeld ?_
 refine one_ (i := 2) (N := some 12) bq_130 rfl rfl (one_of HT_.out (by kernel_rfl)) (by decide) (fun K hK => ?_)
 refine goes_ Tryd.func67 (by kernel_rfl) rfl #[.int .i64 a0_0, .int .i64 1] (by rfl) rfl rfl tq_0 ?_
 with_reducible refine (spec_NumText.calls k a0_0 1 t161 _ A4.out).mono ?_
 rintro e w15 ⟨rfl, hb⟩
 refine ⟨_, rfl, ?_⟩
 have z_ := bw1_ (kb_ BK156) th_ hb
 clear BK156 HB
 obtain ⟨BK156, HB⟩ := z_
 (try clear hb)
 refine hK.out _ _ (bk6_ BK156.out) (fun hHeld => ?_)
 clear hK K
 refine nm_ (some 12) ?_
 refine one_ (i := 5) (N := some 15) bq_131 rfl rfl (one_of HT_.out (by kernel_rfl)) (by decide) (fun K hK => ?_)
 refine goes_ Tryd.func67 (by kernel_rfl) rfl #[.int .i64 a0_1, .int .i64 2] (by rfl) rfl rfl tq_0 ?_
 with_reducible refine (spec_NumText.calls k a0_1 2 t162 _ A5.out).mono ?_
 rintro e w16 ⟨rfl, hb⟩
 refine ⟨_, rfl, ?_⟩
 have z_ := bw1_ (kb_ BK156) th_ hb
 clear BK156 HB
 obtain ⟨BK156, HB⟩ := z_
 (try clear hb)
 refine hK.out _ _ (bk6_ BK156.out) (fun hHeld => ?_)
 clear hK K
 refine nm_ (some 15) ?_
 refine yr_ 6 16 bq_132 HT_ ?_
 refine one_ (i := 9) (N := some 19) bq_133 rfl rfl (one_of HT_.out (by kernel_rfl)) (by decide) (fun K hK => ?_)
 refine goes_ Tryd.func67 (by kernel_rfl) rfl #[.int .i64 a0_2, .int .i64 2] (by rfl) rfl rfl tq_0 ?_
 with_reducible refine (spec_NumText.calls k a0_2 2 t163 _ A7.out).mono ?_
 rintro e w17 ⟨rfl, hb⟩
 refine ⟨_, rfl, ?_⟩
 have z_ := bw1_ (kb_ BK156) th_ hb
 clear BK156 HB
 obtain ⟨BK156, HB⟩ := z_
 (try clear hb)
 refine hK.out _ _ (bk6_ BK156.out) (fun hHeld => ?_)
 clear hK K
 refine nm_ (some 19) ?_
 refine yr_ 10 20 bq_134 HT_ ?_
 refine one_ (i := 11) (N := some 21) bq_135 rfl rfl (one_of HT_.out (by kernel_rfl)) (by decide) (fun K hK => ?_)
 refine goes_ Tryd.func66 (by kernel_rfl) rfl #[.string ((t161 ++ t162) ++ t163)] (by rfl) rfl rfl tq_0 ?_
 with_reducible refine (spec_WordText.calls k ((t161 ++ t162) ++ t163) t164 _ A9.out).mono ?_
 rintro e w18 ⟨rfl, hb⟩
 refine ⟨_, rfl, ?_⟩
 have z_ := bw1_ (kb_ BK156) th_ hb
 clear BK156 HB
 obtain ⟨BK156, HB⟩ := z_
 (try clear hb)
 refine hK.out _ _ (bk6_ BK156.out) (fun hHeld => ?_)
 clear hK K
 refine nm_ (some 21) ?_
 refine one_ (i := 14) (N := some 24) bq_136 rfl rfl (one_of HT_.out (by kernel_rfl)) (by decide) (fun K hK => ?_)
 refine goes_ Tryd.func66 (by kernel_rfl) rfl #[.string a0_3] (by rfl) rfl rfl tq_0 ?_
 with_reducible refine (spec_WordText.calls k a0_3 t165 _ A10.out).mono ?_
 rintro e w19 ⟨rfl, hb⟩
 refine ⟨_, rfl, ?_⟩
 have z_ := bw1_ (kb_ BK156) th_ hb
 clear BK156 HB
 obtain ⟨BK156, HB⟩ := z_
 (try clear hb)
 refine hK.out _ _ (bk6_ BK156.out) (fun hHeld => ?_)
 clear hK K
 refine nm_ (some 24) ?_
 refine one_ (i := 15) (N := some 25) bq_137 rfl rfl (one_of HT_.out (by kernel_rfl)) (by decide) (fun K hK => ?_)
 refine Kd.R_lit_step Kd.string _ 9 ?hg (N := 25) ?hd (xs := ([t164, t165] : List ByteArray)) (inner := [.string t164, .string t165]) (ok := fun _ => True) (okp := fun _ => True) ?hr ?hp (fun _ hk => hk) trivial (Below.refl _ _) (Nat.le_refl _) (by simp) ?_; (case hd => rfl); (case hg => rfl); (case hr => first | (go_simp; done) | (go_simp; rfl)); (case hp => exact (Reps.one (show Kd.M Kd.string _ _ _ t164 [.string t164] from rfl) (Reps.one (show Kd.M Kd.string _ _ _ t165 [.string t165] from rfl) (Reps.none _ _))))
 intro v167 w20 ho21 hb hg_ hnew_
 clear hg_ hnew_
 (first | rw [← Ny166.out] at ho21 | (simp only [Int.reduceToNat] at ho21; rw [← Ny166.out] at ho21))
 have z_ := p_ (Kd.R_lower ho21 (below_size th_)) <| bw1_ (kb_ BK156) th_ hb
 clear BK156 HB
 obtain ⟨HO168, BK156, HB⟩ := z_
 clear hb ho21
 refine hK.out _ _ (bk6_ BK156.out) (fun hHeld => ?_)
 clear hK K
 refine nm_ (some 25) ?_
 refine yr_ 16 3 bq_138 HT_ ?_
 refine done_ (done_of HT_.out (by kernel_rfl)) ?_
 try go_wp2
 go_loopg [3, 4] k (fun kq v3 v4 w' => ∃ (x3_1 : List ByteArray) (x4_1 : Int), v4 = .int .i64 x4_1 ∧ Aside0 (spec_InodeWords.l0 kq x3_1 x4_1 a0_0 a0_1 a0_2 a0_3 l0_4 l0_5 = some r) ∧ Aside0 (kq ≤ k) ∧ Aside0 (Kd.R Kd.string 9 w' w.heap.size (fun _ => True) v3 x3_1) ∧ Aside0 (w'.heap[gb156]? = some (.cells #[.int .i64 a0_0, .int .i64 a0_1, .int .i64 a0_2, .string a0_3, (.slice A0_4 l0_4.length c0_4), (.slice A0_5 l0_5.length c0_5)] 27 (0, 0))) ∧ Aside0 (Below w.heap.size w w'))
 case atStart => exact ⟨(y166), (0), tq_4, H', ⟨Nat.le_refl _⟩, ⟨(raR_ HO168)⟩, ⟨(kb_ BK156)⟩, ⟨th_⟩⟩
 case round =>
 clear H'
 try clear c1; try clear p2; try clear c3; try clear c6; try clear c6b0; try clear c6b1; try clear c6b2; try clear c8; try clear c8b0; try clear c8b1; try clear c8b2; try clear c18; try clear hcz12_0 hcz12_1 hcz12_2 hcz12_3 hcz12_4 hcz12_5 hfz12_0 hfz12_1 hfz12_2 hfz12_3 hfz12_4 hfz12_5
 obtain ⟨x3_1, x4_1, rfl, HA, HK1, HO_3, BK156, HB⟩ := hrel
 cases gk with
 | zero => exact absurd HA.out (by simp [spec_InodeWords.l0])
 | succ k1 =>
 have H := HA.out
 clear HA
 simp only [spec_InodeWords.l0] at H
 by_cases c22 : x4_1 < (l0_4.length : Int)
 ·rw [if_pos c22] at H
  have c22b0 := decide_eq_true c22
  clear c22
  obtain ⟨c23, H⟩ := fc_ H
  have c23b0 := decide_eq_true c23
  clear c23
  obtain ⟨t170, A24, H⟩ := bd_ H
  obtain ⟨c25, H⟩ := fc_ H
  have LMc25 := Aside0.mk c25
  clear c25
  obtain ⟨y171, hy171⟩ : ∃ y_ : List ByteArray, y_ = (x3_1 ++ [t170]) := ⟨_, rfl⟩
  replace H : (spec_InodeWords.l0 k1 y171 (wrap64 (x4_1 + 1)) a0_0 a0_1 a0_2 a0_3 l0_4 l0_5) = some r := by first | (rw [hy171]; with_reducible exact H) | (have H2_ := (Option.bind_some _ _).symm.trans H; rw [hy171]; with_reducible exact H2_) | (have H2_ := (Option.bind_some _ _).symm.trans H; with_reducible exact H2_) | with_reducible exact H | (rw [hy171]; exact H) | exact H
  have Ny171 := Aside0.mk hy171
  clear hy171
  have H' := Aside0.mk H
  clear H
  obtain ⟨hcz26_0, hcz26_1, hcz26_2, hcz26_3, hcz26_4, hcz26_5⟩ := bk6_ BK156.out
  obtain ⟨hfz26_0, hfz26_1, hfz26_2, hfz26_3, hfz26_4, hfz26_5⟩ := bf6_ BK156.out
  have p169 : 0 ≤ (x4_1 : Int) := of_decide_eq_true tq_1
  have q169 : x4_1 < (l0_4.length : Int) := of_decide_eq_true tq_1
  obtain ⟨ad169, e169, hx169_0, hx169_1, hx169_2⟩ := at_T42 HR0_4.out x4_1 p169 q169
  cases e169
  replace hx169_0 := hx_ HB.out hx169_0
  replace hx169_1 := hx_ HB.out hx169_1
  replace hx169_2 := hx_ HB.out hx169_2
  replace p169 := eq_true p169
  replace q169 := eq_true q169
  go_wp2_with (first | ((with_reducible refine gate_callee (f := 52) rfl ?_); refine goesL_ (some 39) rfl rfl Tryd.func52 (by kernel_rfl) rfl #[.agg #[.int .i64 ((rd_T42 l0_4 x4_1).f0), .int .i64 ((rd_T42 l0_4 x4_1).f1), .string ((rd_T42 l0_4 x4_1).f2)]] rfl tq_0 ?_; (with_reducible refine (spec_RecWord.calls k1 ((rd_T42 l0_4 x4_1).f0) ((rd_T42 l0_4 x4_1).f1) ((rd_T42 l0_4 x4_1).f2) t170 _ A24.out).mono ?_); rintro e w27 ⟨rfl, hb⟩; refine ⟨_, rfl, ?_⟩; have z_ := p_ (Kd.R_below (raR_ HO_3) hb) <| bw1_ (kb_ BK156) th_ hb; clear HO_3 BK156 HB; obtain ⟨HO_3, BK156, HB⟩ := z_; (try clear hb)) | ((with_reducible refine gate_builtin (b := .append) (xs := #[.tmp 33, .tmp 40]) rfl ?_); at_builtin; refine Kd.R_append Kd.string (w0 := w) w.heap.size rfl (.tmp 33) (.tmp 40) 22 9 (.string ⟨#[]⟩) 16 rfl Tryd.underlying22 info9 rfl (by decide) (by omega) u3 x3_1 t170 [.string t170] (fun _ => True) (fun _ => False) rfl rfl ?aP (fun _ hk => hk.elim) ?aF ?aO ?aB ?aS ?aL ?_; (case aP => exact rfl); (case aB => exact th_); (case aF => exact (fun _ _ => trivial)); (case aO => exact (raR_ HO_3)); (case aS => exact (below_size th_)); (case aL => have := LMc25.out; omega); intro v172 w28 ho hb hg hat; rw [← Ny171.out] at ho; have z_ := p_ (blk_grown (g := gb156) (o := .cells #[.int .i64 a0_0, .int .i64 a0_1, .int .i64 a0_2, .string a0_3, .slice (some ad169) l0_4.length c0_4, .slice A0_5 l0_5.length c0_5] 27 (0, 0)) (kb_ BK156) hg (Kd.R_ne HO_3.out BK156.out (by decide))) <| p_ (hb) <| a_ (ho); clear BK156 HB HO_3; obtain ⟨BK156, HB, HO173⟩ := z_; clear ho hb hg hat))
  go_roundg k1
  case measure => have := HK1.out; omega
  case rel => exact ⟨(y171), (wrap64 (x4_1 + 1)), tq_4, H', ⟨tq_56⟩, ⟨(raR_ HO173)⟩, ⟨(kb_ BK156)⟩, ⟨th_⟩⟩
 rw [if_neg c22] at H
 have c22b0 := decide_eq_false c22
 clear c22
 have H' := Aside0.mk H
 clear H
 obtain ⟨hcz29_0, hcz29_1, hcz29_2, hcz29_3, hcz29_4, hcz29_5⟩ := bk6_ BK156.out
 obtain ⟨hfz29_0, hfz29_1, hfz29_2, hfz29_3, hfz29_4, hfz29_5⟩ := bf6_ BK156.out
 go_wp2
 go_loopg [3, 5] k1 (fun kq v3 v5 w' => ∃ (x3_2 : List ByteArray) (x5_2 : Int), v5 = .int .i64 x5_2 ∧ Aside0 (spec_InodeWords.l1 kq x3_2 x5_2 a0_0 a0_1 a0_2 a0_3 l0_4 l0_5 = some r) ∧ Aside0 (kq ≤ k1) ∧ Aside0 (Kd.R Kd.string 9 w' w.heap.size (fun _ => True) v3 x3_2) ∧ Aside0 (w'.heap[gb156]? = some (.cells #[.int .i64 a0_0, .int .i64 a0_1, .int .i64 a0_2, .string a0_3, (.slice A0_4 l0_4.length c0_4), (.slice A0_5 l0_5.length c0_5)] 27 (0, 0))) ∧ Aside0 (Below w.heap.size w w'))
 case atStart => exact ⟨(x3_1), (0), tq_4, H', ⟨Nat.le_refl _⟩, ⟨(raR_ HO_3)⟩, ⟨(kb_ BK156)⟩, ⟨th_⟩⟩
 case round =>
 clear H'
 try clear c1; try clear p1; try clear q1; try clear hx1; try clear c2; try clear p2; try clear c3; try clear c5; try clear c6; try clear c6b0; try clear c6b1; try clear c6b2; try clear p6; try clear c8; try clear c8b0; try clear c8b1; try clear c8b2; try clear p16; try clear q16; try clear hx16; try clear c18; try clear c22; try clear c22b0; try clear c23; try clear c23b0; try clear c25; try clear hcz12_0 hcz12_1 hcz12_2 hcz12_3 hcz12_4 hcz12_5; try clear hcz26_0 hcz26_1 hcz26_2 hcz26_3 hcz26_4 hcz26_5; try clear hcz29_0 hcz29_1 hcz29_2 hcz29_3 hcz29_4 hcz29_5; try clear hfz12_0 hfz12_1 hfz12_2 hfz12_3 hfz12_4 hfz12_5; try clear hfz26_0 hfz26_1 hfz26_2 hfz26_3 hfz26_4 hfz26_5; try clear hfz29_0 hfz29_1 hfz29_2 hfz29_3 hfz29_4 hfz29_5; try clear hx169_0; try clear hx169_1; try clear hx169_2; try clear p169; try clear p2; try clear q169
 obtain ⟨x3_2, x5_2, rfl, HA, HK2, HO_3, BK156, HB⟩ := hrel
 cases gk with
 | zero => exact absurd HA.out (by simp [spec_InodeWords.l1])
 | succ k2 =>
 have H := HA.out
 clear HA
 simp only [spec_InodeWords.l1] at H
 by_cases c30 : x5_2 < (l0_5.length : Int)
 ·rw [if_pos c30] at H
  have c30b0 := decide_eq_true c30
  clear c30
  obtain ⟨c31, H⟩ := fc_ H
  have c31b0 := decide_eq_true c31
  clear c31
  obtain ⟨t175, A32, H⟩ := bd_ H
  obtain ⟨c33, H⟩ := fc_ H
  have LMc33 := Aside0.mk c33
  clear c33
  obtain ⟨y176, hy176⟩ : ∃ y_ : List ByteArray, y_ = (x3_2 ++ [t175]) := ⟨_, rfl⟩
  replace H : (spec_InodeWords.l1 k2 y176 (wrap64 (x5_2 + 1)) a0_0 a0_1 a0_2 a0_3 l0_4 l0_5) = some r := by first | (rw [hy176]; with_reducible exact H) | (have H2_ := (Option.bind_some _ _).symm.trans H; rw [hy176]; with_reducible exact H2_) | (have H2_ := (Option.bind_some _ _).symm.trans H; with_reducible exact H2_) | with_reducible exact H | (rw [hy176]; exact H) | exact H
  have Ny176 := Aside0.mk hy176
  clear hy176
  have H' := Aside0.mk H
  clear H
  obtain ⟨hcz34_0, hcz34_1, hcz34_2, hcz34_3, hcz34_4, hcz34_5⟩ := bk6_ BK156.out
  obtain ⟨hfz34_0, hfz34_1, hfz34_2, hfz34_3, hfz34_4, hfz34_5⟩ := bf6_ BK156.out
  have p174 : 0 ≤ (x5_2 : Int) := of_decide_eq_true tq_1
  have q174 : x5_2 < (l0_5.length : Int) := of_decide_eq_true tq_1
  obtain ⟨ad174, e174, hx174_0, hx174_1⟩ := at_T47 HR0_5.out x5_2 p174 q174
  cases e174
  replace hx174_0 := hx_ HB.out hx174_0
  replace hx174_1 := hx_ HB.out hx174_1
  replace p174 := eq_true p174
  replace q174 := eq_true q174
  go_wp2_with (first | ((with_reducible refine gate_callee (f := 53) rfl ?_); refine goesL_ (some 55) rfl rfl Tryd.func53 (by kernel_rfl) rfl #[.agg #[.int .i64 ((rd_T47 l0_5 x5_2).f0), .string ((rd_T47 l0_5 x5_2).f1)]] rfl tq_0 ?_; (with_reducible refine (spec_EntryWord.calls k2 ((rd_T47 l0_5 x5_2).f0) ((rd_T47 l0_5 x5_2).f1) t175 _ A32.out).mono ?_); rintro e w35 ⟨rfl, hb⟩; refine ⟨_, rfl, ?_⟩; have z_ := p_ (Kd.R_below (raR_ HO_3) hb) <| bw1_ (kb_ BK156) th_ hb; clear HO_3 BK156 HB; obtain ⟨HO_3, BK156, HB⟩ := z_; (try clear hb)) | ((with_reducible refine gate_builtin (b := .append) (xs := #[.tmp 49, .tmp 56]) rfl ?_); at_builtin; refine Kd.R_append Kd.string (w0 := w) w.heap.size rfl (.tmp 49) (.tmp 56) 22 9 (.string ⟨#[]⟩) 16 rfl Tryd.underlying22 info9 rfl (by decide) (by omega) u3 x3_2 t175 [.string t175] (fun _ => True) (fun _ => False) rfl rfl ?aP (fun _ hk => hk.elim) ?aF ?aO ?aB ?aS ?aL ?_; (case aP => exact rfl); (case aB => exact th_); (case aF => exact (fun _ _ => trivial)); (case aO => exact (raR_ HO_3)); (case aS => exact (below_size th_)); (case aL => have := LMc33.out; omega); intro v177 w36 ho hb hg hat; rw [← Ny176.out] at ho; have z_ := p_ (blk_grown (g := gb156) (o := .cells #[.int .i64 a0_0, .int .i64 a0_1, .int .i64 a0_2, .string a0_3, .slice A0_4 l0_4.length c0_4, .slice (some ad174) l0_5.length c0_5] 27 (0, 0)) (kb_ BK156) hg (Kd.R_ne HO_3.out BK156.out (by decide))) <| p_ (hb) <| a_ (ho); clear BK156 HB HO_3; obtain ⟨BK156, HB, HO178⟩ := z_; clear ho hb hg hat))
  go_roundg k2
  case measure => have := HK1.out; have := HK2.out; omega
  case rel => exact ⟨(y176), (wrap64 (x5_2 + 1)), tq_4, H', ⟨(by have := HK1.out; have := HK2.out; omega)⟩, ⟨(raR_ HO178)⟩, ⟨(kb_ BK156)⟩, ⟨th_⟩⟩
 rw [if_neg c30] at H
 have c30b0 := decide_eq_false c30
 clear c30
 have H' := Aside0.mk H
 clear H
 obtain ⟨hcz37_0, hcz37_1, hcz37_2, hcz37_3, hcz37_4, hcz37_5⟩ := bk6_ BK156.out
 obtain ⟨hfz37_0, hfz37_1, hfz37_2, hfz37_3, hfz37_4, hfz37_5⟩ := bf6_ BK156.out
 go_wp2
 go_loopg [3] k2 (fun kq v3 w' => ∃ (x3_3 : List ByteArray), Aside0 (spec_InodeWords.l2 kq x3_3 = some r) ∧ Aside0 (kq ≤ k2) ∧ Aside0 (Kd.R Kd.string 9 w' w.heap.size (fun _ => True) v3 x3_3) ∧ Aside0 (w'.heap[gb156]? = some (.cells #[.int .i64 a0_0, .int .i64 a0_1, .int .i64 a0_2, .string a0_3, (.slice A0_4 l0_4.length c0_4), (.slice A0_5 l0_5.length c0_5)] 27 (0, 0))) ∧ Aside0 (Below w.heap.size w w'))
 case atStart => exact ⟨(x3_2), H', ⟨Nat.le_refl _⟩, ⟨(raR_ HO_3)⟩, ⟨(kb_ BK156)⟩, ⟨th_⟩⟩
 case round =>
 clear H'
 try clear c1; try clear p1; try clear q1; try clear hx1; try clear c2; try clear p2; try clear c3; try clear c5; try clear c6; try clear c6b0; try clear c6b1; try clear c6b2; try clear p6; try clear c8; try clear c8b0; try clear c8b1; try clear c8b2; try clear p16; try clear q16; try clear hx16; try clear p17; try clear q17; try clear hx17; try clear c18; try clear c22; try clear c22b0; try clear c23; try clear c23b0; try clear c25; try clear c30; try clear c30b0; try clear c31; try clear c31b0; try clear c33; try clear c34; try clear hcz12_0 hcz12_1 hcz12_2 hcz12_3 hcz12_4 hcz12_5; try clear hcz26_0 hcz26_1 hcz26_2 hcz26_3 hcz26_4 hcz26_5; try clear hcz29_0 hcz29_1 hcz29_2 hcz29_3 hcz29_4 hcz29_5; try clear hcz34_0 hcz34_1 hcz34_2 hcz34_3 hcz34_4 hcz34_5; try clear hcz37_0 hcz37_1 hcz37_2 hcz37_3 hcz37_4 hcz37_5; try clear hfz12_0 hfz12_1 hfz12_2 hfz12_3 hfz12_4 hfz12_5; try clear hfz26_0 hfz26_1 hfz26_2 hfz26_3 hfz26_4 hfz26_5; try clear hfz29_0 hfz29_1 hfz29_2 hfz29_3 hfz29_4 hfz29_5; try clear hfz34_0 hfz34_1 hfz34_2 hfz34_3 hfz34_4 hfz34_5; try clear hfz37_0 hfz37_1 hfz37_2 hfz37_3 hfz37_4 hfz37_5; try clear hx169_0; try clear hx169_1; try clear hx169_2; try clear hx174_0; try clear hx174_1; try clear p1; try clear p16; try clear p169; try clear p174; try clear p2; try clear p6; try clear q1; try clear q16; try clear q169; try clear q174
 obtain ⟨x3_3, HA, HK3, HO_3, BK156, HB⟩ := hrel
 cases gk with
 | zero => exact absurd HA.out (by simp [spec_InodeWords.l2])
 | succ k3 =>
 have H := HA.out
 clear HA
 simp only [spec_InodeWords.l2] at H
 by_cases c38 : (x3_3.length : Int) < 8
 rotate_left
 ·rw [if_neg c38] at H
  have c38b0 := decide_eq_false c38
  have c38b1 : decide (x3_3.length < 8) = false := decide_eq_false (by omega)
  clear c38
  obtain rfl := Option.some.inj H
  obtain ⟨Ao44, co44, eo44⟩ := Kd.R_slice HO_3.out
  subst eo44
  go_wp2
  go_ret
  exact ⟨_, tq_2, (raR_ HO_3), th_⟩
 rw [if_pos c38] at H
 have c38b0 := decide_eq_true c38
 have c38b1 : decide (x3_3.length < 8) = true := decide_eq_true (by omega)
 clear c38
 obtain ⟨t179, A39, H⟩ := bd_ H
 obtain ⟨c40, H⟩ := fc_ H
 have LMc40 := Aside0.mk c40
 clear c40
 obtain ⟨y180, hy180⟩ : ∃ y_ : List ByteArray, y_ = (x3_3 ++ [t179]) := ⟨_, rfl⟩
 replace H : (spec_InodeWords.l2 k3 y180) = some r := by first | (rw [hy180]; with_reducible exact H) | (have H2_ := (Option.bind_some _ _).symm.trans H; rw [hy180]; with_reducible exact H2_) | (have H2_ := (Option.bind_some _ _).symm.trans H; with_reducible exact H2_) | with_reducible exact H | (rw [hy180]; exact H) | exact H
 have Ny180 := Aside0.mk hy180
 clear hy180
 have H' := Aside0.mk H
 clear H
 obtain ⟨Ao41, co41, eo41⟩ := Kd.R_slice HO_3.out
 subst eo41
 go_wp2_with (first | ((with_reducible refine gate_callee (f := 30) rfl ?_); refine goesL_ (some 62) rfl rfl Tryd.func30 (by kernel_rfl) rfl #[.int .i64 8] rfl tq_0 ?_; (with_reducible refine (spec_ZeroText.calls k3 8 t179 _ A39.out).mono ?_); rintro e w42 ⟨rfl, hb⟩; refine ⟨_, rfl, ?_⟩; have z_ := p_ (Kd.R_below (raR_ HO_3) hb) <| bw1_ (kb_ BK156) th_ hb; clear HO_3 BK156 HB; obtain ⟨HO_3, BK156, HB⟩ := z_; (try clear hb)) | ((with_reducible refine gate_builtin (b := .append) (xs := #[.tmp 61, .tmp 63]) rfl ?_); at_builtin; refine Kd.R_append Kd.string (w0 := w) w.heap.size rfl (.tmp 61) (.tmp 63) 22 9 (.string ⟨#[]⟩) 16 rfl Tryd.underlying22 info9 rfl (by decide) (by omega) (.slice Ao41 x3_3.length co41) x3_3 t179 [.string t179] (fun _ => True) (fun _ => False) rfl rfl ?aP (fun _ hk => hk.elim) ?aF ?aO ?aB ?aS ?aL ?_; (case aP => exact rfl); (case aB => exact th_); (case aF => exact (fun _ _ => trivial)); (case aO => exact (raR_ HO_3)); (case aS => exact (below_size th_)); (case aL => have := LMc40.out; omega); intro v181 w43 ho hb hg hat; rw [← Ny180.out] at ho; have z_ := p_ (blk_grown (g := gb156) (o := .cells #[.int .i64 a0_0, .int .i64 a0_1, .int .i64 a0_2, .string a0_3, .slice A0_4 l0_4.length c0_4, .slice A0_5 l0_5.length c0_5] 27 (0, 0)) (kb_ BK156) hg (Kd.R_ne HO_3.out BK156.out (by decide))) <| p_ (hb) <| a_ (ho); clear BK156 HB HO_3; obtain ⟨BK156, HB, HO182⟩ := z_; clear ho hb hg hat))
 go_roundg k3
 case measure => have := HK1.out; have := HK2.out; have := HK3.out; omega
 case rel => exact ⟨(y180), H', ⟨(by have := HK1.out; have := HK2.out; have := HK3.out; omega)⟩, ⟨(raR_ HO182)⟩, ⟨(kb_ BK156)⟩, ⟨th_⟩⟩

end Go.Proofs.YtjfhddenmnjgbaaDoor.PFnAnyInode
