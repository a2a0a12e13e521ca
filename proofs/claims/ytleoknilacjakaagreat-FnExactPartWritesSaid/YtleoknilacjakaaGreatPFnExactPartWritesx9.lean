/- Contracts of Go functions, written by a program of ours over the print of the kit: each says that the call returns what the Lean function beside it computes. Conditions: as each theorem states them. -/
import Derived.Test.YtleoknilacjakaaGreatPkFnExactPartWrites
import Derived.Test.YtleoknilacjakaaGreatPFnExactPartWritesx0
import Derived.Test.YtleoknilacjakaaGreatPFnExactPartWritesx1
import Derived.Test.YtleoknilacjakaaGreatPFnExactPartWritesx2
import Derived.Test.YtleoknilacjakaaGreatPFnExactPartWritesx3
import Derived.Test.YtleoknilacjakaaGreatPFnExactPartWritesx4
import Derived.Test.YtleoknilacjakaaGreatPFnExactPartWritesx8
namespace Go.Proofs.YtleoknilacjakaaGreat.PFnExactPartWrites
open Go.RowKit Go.Proofs.YtleoknilacjakaaGreatW.PrintWords Go.Proofs.YtleoknilacjakaaGreatW.PrintLast Go.Proofs.YtleoknilacjakaaGreatW.PrintMore
attribute [local go_sem] max2_int min2_int max_two min_two max_three min_three max_four min_four   -- for this text's walks alone
set_option linter.unusedVariables false
set_option linter.unusedSimpArgs false

/-! ### spec_InodeWords: function 45 -/
mutual
def spec_InodeWords.l0 : Nat → List ByteArray → Int → Int → Int → Int → ByteArray → List (S89) → List (S72) → Option (List ByteArray)
 | 0, _, _, _, _, _, _, _, _ => none
 | k + 1, x3, x4, x233000, x233001, x233002, x233003, x233004, x233005 => if x4 < (x233004.length : Int) then (if 0 ≤ x4 then ((spec_RecWord.f k ((rd_T89 x233004 x4).f0) ((rd_T89 x233004 x4).f1) ((rd_T89 x233004 x4).f2)).bind fun t246 => (if x3.length < 8796093022208 then (spec_InodeWords.l0 k (x3 ++ [t246]) (wrap64 (x4 + 1)) x233000 x233001 x233002 x233003 x233004 x233005) else (none))) else (none)) else (spec_InodeWords.l1 k x3 0 x233000 x233001 x233002 x233003 x233004 x233005)
def spec_InodeWords.l1 : Nat → List ByteArray → Int → Int → Int → Int → ByteArray → List (S89) → List (S72) → Option (List ByteArray)
 | 0, _, _, _, _, _, _, _, _ => none
 | k + 1, x3, x5, x233000, x233001, x233002, x233003, x233004, x233005 => if x5 < (x233005.length : Int) then (if 0 ≤ x5 then ((spec_EntryWord.f k ((rd_T72 x233005 x5).f0) ((rd_T72 x233005 x5).f1)).bind fun t251 => (if x3.length < 8796093022208 then (spec_InodeWords.l1 k (x3 ++ [t251]) (wrap64 (x5 + 1)) x233000 x233001 x233002 x233003 x233004 x233005) else (none))) else (none)) else (spec_InodeWords.l2 k x3)
def spec_InodeWords.l2 : Nat → List ByteArray → Option (List ByteArray)
 | 0, _ => none
 | k + 1, x3 => if (x3.length : Int) < 8 then ((spec_ZeroText.f k 8).bind fun t255 => (if x3.length < 8796093022208 then (spec_InodeWords.l2 k (x3 ++ [t255])) else (none))) else (some x3)
end
def spec_InodeWords.f (k : Nat) (a0_0 : Int) (a0_1 : Int) (a0_2 : Int) (a0_3 : ByteArray) (l0_4 : List (S89)) (l0_5 : List (S72)) : Option (List ByteArray) := (spec_InodeOk.f k a0_0 a0_1 a0_2 a0_3 l0_4 l0_5).bind fun t233 => (if t233 = true then ((spec_NumText.f k a0_0 1).bind fun t237 => ((spec_NumText.f k a0_1 2).bind fun t238 => (if t237.size + t238.size ≤ 9223372036854775807 then ((spec_NumText.f k a0_2 2).bind fun t239 => (if (t237 ++ t238).size + t239.size ≤ 9223372036854775807 then ((spec_WordText.f k ((t237 ++ t238) ++ t239)).bind fun t240 => ((spec_WordText.f k a0_3).bind fun t241 => (spec_InodeWords.l0 k (([t240, t241] : List ByteArray)) 0 a0_0 a0_1 a0_2 a0_3 l0_4 l0_5))) else (none))) else (none)))) else (some (([] : List ByteArray))))
def spec_InodeWords.T3 : Bool × List (List Nat × List Nat) := (true, [([], []), ([0], [0]), ([1], [1]), ([], []), ([3], [3]), ([4, 2], [4]), ([2, 5], [2, 5]), ([], []), ([7], [7]), ([8, 5], [8]), ([6, 9], [6, 9]), ([10, 9], [10]), ([], []), ([12], [12]), ([13, 11], [13]), ([11, 14], [11, 14]), ([15, 14, 0, 1, 2, 3, 4, 5, 6, 7, 8, 9, 10, 11, 12, 13, 14, 15], [15])])
def spec_InodeWords.B3 : List Nat := [0, 1, 3, 0, 8, 31, 63, 0, 128, 447, 1023, 2047, 0, 4096, 16383, 32767, 65535]
theorem spec_InodeWords.tab3 : rtab .any (opsOf Tryz.f45 3) = spec_InodeWords.T3 := by kernel_rfl
theorem spec_InodeWords.bits3 : waitsOk spec_InodeWords.T3.2 spec_InodeWords.B3 = true := by kernel_rfl
set_option maxHeartbeats 8000000 in
set_option maxRecDepth 100000 in
theorem spec_InodeWords.calls (k : Nat) (a8 : Int) (a9 : Int) (aa : Int) (ab : ByteArray) (am : Option Addr) (aj : Nat) (l0_4 : List (S89)) (an : Option Addr) (ak : Nat) (a6 : List (S72)) (r : List ByteArray) (w : World) (bd : Kd.C k89 w am l0_4.length l0_4) (be : l0_4.length ≤ aj) (bf : Kd.C k72 w an a6.length a6) (bg : a6.length ≤ ak) (h : spec_InodeWords.f k a8 a9 aa ab l0_4 a6 = some r) :
  Calls Tryz.prog 45 #[.agg #[.int .i64 a8, .int .i64 a9, .int .i64 aa, .string ab, .slice am l0_4.length aj, .slice an a6.length ak]] w fun e w' => ∃ v0_ : Value, e = .returned (v0_) ∧ Kd.R Kd.string 9 w' w.heap.size (fun _ => True) v0_ r ∧ Below w.heap.size w w' := by
 have hu69 := Tryz.underlying69
 have hu89 := Tryz.underlying89
 have hu72 := Tryz.underlying72
 have HR0_4 := Aside0.mk bd
 have bq := Aside0.mk be
 clear bd be
 have HR0_5 := Aside0.mk bf
 have br := Aside0.mk bg
 clear bf bg
 have HB := Aside0.mk (Below.refl w.heap.size w)
 unfold spec_InodeWords.f at h
 have H := h
 clear h
 obtain ⟨bs, A2, H⟩ := bd_ H
 have cq := Aside0.mk H
 clear H
 go_enter Tryz.func45, Tryz.ntmps45
 go_upto_if 8 with (first | ((with_reducible refine gate_dst (N := 1) rfl ?_); refine be_ 1 (cs := #[.int .i64 a8, .int .i64 a9, .int .i64 aa, .string ab, .slice am l0_4.length aj, .slice an a6.length ak]) 69 ?_; intro ac hg w4 hbox hb; have z_ := bx0_ th_ hb hbox hg; clear HB; obtain ⟨HB, a5, cr, ct⟩ := z_; clear hb hbox hg; have bm := bb6_ a5.out) | ((with_reducible refine gate_callee (f := 39) rfl ?_); refine goesL_ (some 7) rfl rfl Tryz.func39 (by kernel_rfl) rfl #[.agg #[.int .i64 a8, .int .i64 a9, .int .i64 aa, .string ab, .slice am l0_4.length aj, .slice an a6.length ak]] rfl tq_0 ?_; (with_reducible refine (spec_InodeOk.calls k a8 a9 aa ab _ _ l0_4 _ _ a6 bs _ ?side1 ?side2 ?side3 ?side4 A2.out).mono ?_); (case side1 => exact tq_26); (case side2 => exact bq.out); (case side3 => exact tq_25); (case side4 => exact br.out); rintro e w6 ⟨rfl, hb⟩; refine ⟨_, rfl, ?_⟩; have z_ := bw1_ (kb_ a5) th_ hb; clear a5 HB; obtain ⟨a5, HB⟩ := z_; (try clear hb)))
 (try simp only [Act.put, List.setIfInBounds_toArray, List.set_cons_zero, List.set_cons_succ])
 (try clear bm)
 have H := cq.out
 clear cq
 by_cases c7 : bs = true
 rotate_left
 ·replace c7 := Bool.eq_false_iff.mpr c7
  subst c7
  rw [if_neg nf_] at H
  obtain ⟨cj, hy234⟩ : ∃ y_ : List ByteArray, y_ = (([] : List ByteArray)) := ⟨_, rfl⟩
  replace H : (some cj) = some r := by first | (rw [hy234]; with_reducible exact H) | (have H2_ := (Option.bind_some _ _).symm.trans H; rw [hy234]; with_reducible exact H2_) | (have H2_ := (Option.bind_some _ _).symm.trans H; with_reducible exact H2_) | with_reducible exact H | (rw [hy234]; exact H) | exact H
  have Ny234 := Aside0.mk hy234
  clear hy234
  obtain rfl := Option.some.inj H
  go_wp2_with (first | ((with_reducible refine gate_dst (N := 9) rfl ?_); refine Kd.R_lit Kd.string _ 9 ?hg (N := 9) ?hd (xs := ([] : List ByteArray)) (inner := []) (ok := fun _ => True) (okp := fun _ => True) ?hr ?hp (fun _ hk => hk) trivial (Below.refl _ _) (Nat.le_refl _) (by simp) ?_; (case hd => rfl); (case hg => rfl); (case hr => first | (go_simp; done) | (go_simp; rfl)); (case hp => exact (Reps.none _ _)); intro v235 d1 ho49 hb hg_ hnew_; clear hg_ hnew_; (first | rw [← Ny234.out] at ho49 | (simp only [Int.reduceToNat] at ho49; rw [← Ny234.out] at ho49)); have z_ := p_ (Kd.R_lower ho49 (below_size th_)) <| bw1_ (kb_ a5) th_ hb; clear a5 HB; obtain ⟨HO236, a5, HB⟩ := z_; clear hb ho49))
  go_ret
  exact ⟨_, tq_1, (raR_ HO236), th_⟩
 subst c7
 rw [if_pos rfl] at H
 obtain ⟨aw, A8, H⟩ := bd_ H
 obtain ⟨ax, A9, H⟩ := bd_ H
 obtain ⟨bn, H⟩ := fc_ H
 have b2 := eq_true bn
 have b3 := decide_eq_true bn
 try have b4 : (9223372036854775807 < aw.size + ax.size) = False := eq_false (Nat.not_lt.2 bn)
 obtain ⟨b5, cv, H⟩ := bd_ H
 obtain ⟨bo, H⟩ := fc_ H
 have b6 := eq_true bo
 have b7 := decide_eq_true bo
 try have av : (9223372036854775807 < (aw ++ ax).size + b5.size) = False := eq_false (Nat.not_lt.2 bo)
 try have c12b2s : (9223372036854775807 < aw.size + ax.size + b5.size) = False := by rw [← ByteArray.size_append]; exact av
 obtain ⟨ay, cw, H⟩ := bd_ H
 obtain ⟨az, cx, H⟩ := bd_ H
 obtain ⟨bu, hy242⟩ : ∃ y_ : List ByteArray, y_ = (([ay, az] : List ByteArray)) := ⟨_, rfl⟩
 replace H : (spec_InodeWords.l0 k bu 0 a8 a9 aa ab l0_4 a6) = some r := by first | (rw [hy242]; with_reducible exact H) | (have H2_ := (Option.bind_some _ _).symm.trans H; rw [hy242]; with_reducible exact H2_) | (have H2_ := (Option.bind_some _ _).symm.trans H; with_reducible exact H2_) | with_reducible exact H | (rw [hy242]; exact H) | exact H
 have Ny242 := Aside0.mk hy242
 clear hy242
 have H' := Aside0.mk H
 clear H
 try go_wp2
 have z_ := dw1_ a5 HB
 clear a5 HB
 obtain ⟨a5, HB⟩ := z_
 refine start_ (n := 17) (S := fun w' => w'.cell? ⟨ac, 0, none⟩ = some (.int .i64 a8) ∧ w'.cell? ⟨ac, 1, none⟩ = some (.int .i64 a9) ∧ w'.cell? ⟨ac, 2, none⟩ = some (.int .i64 aa) ∧ w'.cell? ⟨ac, 3, none⟩ = some (.string ab) ∧ w'.cell? ⟨ac, 4, none⟩ = some (.slice am l0_4.length aj) ∧ w'.cell? ⟨ac, 5, none⟩ = some (.slice an a6.length ak)) (ds := []) bq_112 (by kernel_rfl) rfl rfl (bk6_ a5.out) (fun hHeld => ?_); refine with_tabW spec_InodeWords.tab3 spec_InodeWords.bits3 (fun HT_ HW_ => ?_)
 generalize w6.drew = d2 at a5 HB hHeld ⊢
 refine yr_ 0 10 bq_113 HT_ ?_
 refine yr_ 3 13 bq_114 HT_ ?_
 refine yr_ 7 17 bq_115 HT_ ?_
 refine yr_ 12 22 bq_116 HT_ ?_
 refine tr_ 1 11 bq_117 HT_ HW_ hHeld ?_
 refine tr_ 4 14 bq_118 HT_ HW_ hHeld ?_
 refine tr_ 8 18 bq_119 HT_ HW_ hHeld ?_
 refine tr_ 13 23 bq_120 HT_ HW_ hHeld ?_
 refine one_ (i := 2) (N := some 12) bq_121 rfl rfl (one_of HT_.out (by kernel_rfl)) (by decide) (fun K hK => ?_)
 refine goes_ Tryz.func69 (by kernel_rfl) rfl #[.int .i64 a8, .int .i64 1] (by rfl) rfl rfl tq_0 ?_
 with_reducible refine (spec_NumText.calls k a8 1 aw _ A8.out).mono ?_
 rintro e d3 ⟨rfl, hb⟩
 refine ⟨_, rfl, ?_⟩
 have z_ := bw1_ (kb_ a5) th_ hb
 clear a5 HB
 obtain ⟨a5, HB⟩ := z_
 (try clear hb)
 refine hK.out _ _ (bk6_ a5.out) (fun hHeld => ?_)
 clear hK K
 refine nm_ (some 12) ?_
 refine one_ (i := 5) (N := some 15) bq_122 rfl rfl (one_of HT_.out (by kernel_rfl)) (by decide) (fun K hK => ?_)
 refine goes_ Tryz.func69 (by kernel_rfl) rfl #[.int .i64 a9, .int .i64 2] (by rfl) rfl rfl tq_0 ?_
 with_reducible refine (spec_NumText.calls k a9 2 ax _ A9.out).mono ?_
 rintro e d4 ⟨rfl, hb⟩
 refine ⟨_, rfl, ?_⟩
 have z_ := bw1_ (kb_ a5) th_ hb
 clear a5 HB
 obtain ⟨a5, HB⟩ := z_
 (try clear hb)
 refine hK.out _ _ (bk6_ a5.out) (fun hHeld => ?_)
 clear hK K
 refine nm_ (some 15) ?_
 refine yr_ 6 16 bq_123 HT_ ?_
 refine one_ (i := 9) (N := some 19) bq_124 rfl rfl (one_of HT_.out (by kernel_rfl)) (by decide) (fun K hK => ?_)
 refine goes_ Tryz.func69 (by kernel_rfl) rfl #[.int .i64 aa, .int .i64 2] (by rfl) rfl rfl tq_0 ?_
 with_reducible refine (spec_NumText.calls k aa 2 b5 _ cv.out).mono ?_
 rintro e d5 ⟨rfl, hb⟩
 refine ⟨_, rfl, ?_⟩
 have z_ := bw1_ (kb_ a5) th_ hb
 clear a5 HB
 obtain ⟨a5, HB⟩ := z_
 (try clear hb)
 refine hK.out _ _ (bk6_ a5.out) (fun hHeld => ?_)
 clear hK K
 refine nm_ (some 19) ?_
 refine yr_ 10 20 bq_125 HT_ ?_
 refine one_ (i := 11) (N := some 21) bq_126 rfl rfl (one_of HT_.out (by kernel_rfl)) (by decide) (fun K hK => ?_)
 refine goes_ Tryz.func68 (by kernel_rfl) rfl #[.string ((aw ++ ax) ++ b5)] (by rfl) rfl rfl tq_0 ?_
 with_reducible refine (spec_WordText.calls k ((aw ++ ax) ++ b5) ay _ cw.out).mono ?_
 rintro e d6 ⟨rfl, hb⟩
 refine ⟨_, rfl, ?_⟩
 have z_ := bw1_ (kb_ a5) th_ hb
 clear a5 HB
 obtain ⟨a5, HB⟩ := z_
 (try clear hb)
 refine hK.out _ _ (bk6_ a5.out) (fun hHeld => ?_)
 clear hK K
 refine nm_ (some 21) ?_
 refine one_ (i := 14) (N := some 24) bq_127 rfl rfl (one_of HT_.out (by kernel_rfl)) (by decide) (fun K hK => ?_)
 refine goes_ Tryz.func68 (by kernel_rfl) rfl #[.string ab] (by rfl) rfl rfl tq_0 ?_
 with_reducible refine (spec_WordText.calls k ab az _ cx.out).mono ?_
 rintro e d7 ⟨rfl, hb⟩
 refine ⟨_, rfl, ?_⟩
 have z_ := bw1_ (kb_ a5) th_ hb
 clear a5 HB
 obtain ⟨a5, HB⟩ := z_
 (try clear hb)
 refine hK.out _ _ (bk6_ a5.out) (fun hHeld => ?_)
 clear hK K
 refine nm_ (some 24) ?_
 refine one_ (i := 15) (N := some 25) bq_128 rfl rfl (one_of HT_.out (by kernel_rfl)) (by decide) (fun K hK => ?_)
 refine Kd.R_lit_step Kd.string _ 9 ?hg (N := 25) ?hd (xs := ([ay, az] : List ByteArray)) (inner := [.string ay, .string az]) (ok := fun _ => True) (okp := fun _ => True) ?hr ?hp (fun _ hk => hk) trivial (Below.refl _ _) (Nat.le_refl _) (by simp) ?_; (case hd => rfl); (case hg => rfl); (case hr => first | (go_simp; done) | (go_simp; rfl)); (case hp => exact (Reps.one (show Kd.M Kd.string _ _ _ ay [.string ay] from rfl) (Reps.one (show Kd.M Kd.string _ _ _ az [.string az] from rfl) (Reps.none _ _))))
 intro v243 d8 ho22 hb hg_ hnew_
 clear hg_ hnew_
 (first | rw [← Ny242.out] at ho22 | (simp only [Int.reduceToNat] at ho22; rw [← Ny242.out] at ho22))
 have z_ := p_ (Kd.R_lower ho22 (below_size th_)) <| bw1_ (kb_ a5) th_ hb
 clear a5 HB
 obtain ⟨HO244, a5, HB⟩ := z_
 clear hb ho22
 refine hK.out _ _ (bk6_ a5.out) (fun hHeld => ?_)
 clear hK K
 refine nm_ (some 25) ?_
 refine yr_ 16 3 bq_129 HT_ ?_
 refine done_ (done_of HT_.out (by kernel_rfl)) ?_
 try go_wp2
 go_loopg [3, 4] k (fun kq v3 v4 w' => ∃ (b0 : List ByteArray) (ae : Int), v4 = .int .i64 ae ∧ Aside0 (spec_InodeWords.l0 kq b0 ae a8 a9 aa ab l0_4 a6 = some r) ∧ Aside0 (kq ≤ k) ∧ Aside0 (Kd.R Kd.string 9 w' w.heap.size (fun _ => True) v3 b0) ∧ Aside0 (w'.heap[ac]? = some (.cells #[.int .i64 a8, .int .i64 a9, .int .i64 aa, .string ab, (.slice am l0_4.length aj), (.slice an a6.length ak)] 69 (0, 0))) ∧ Aside0 (Below w.heap.size w w'))
 case atStart => exact ⟨(bu), (0), tq_3, H', ⟨Nat.le_refl _⟩, ⟨(raR_ HO244)⟩, ⟨(kb_ a5)⟩, ⟨th_⟩⟩
 case round =>
 clear H'
 try clear c1; try clear p2; try clear c3; try clear c4; try clear c6; try clear c7; try clear bn; try clear b2; try clear b3; try clear b4; try clear bo; try clear b6; try clear b7; try clear av; try clear bm
 obtain ⟨b0, ae, rfl, HA, HK1, a7, a5, HB⟩ := hrel
 cases gk with
 | zero => exact absurd HA.out (by simp [spec_InodeWords.l0])
 | succ k1 =>
 have H := HA.out
 clear HA
 simp only [spec_InodeWords.l0] at H
 have bv := Aside0.mk H
 clear H
 have b8 := bb6_ a5.out
 go_upto_if 30 with (fail)
 (try clear b8)
 have H := bv.out
 clear bv
 by_cases bh : ae < (l0_4.length : Int)
 ·rw [if_pos bh] at H
  have al := decide_eq_true bh
  clear bh
  (first | rw [al] | (simp only [i64_w, i32_w]; rw [al]) | skip)
  obtain ⟨ch, H⟩ := fc_ H
  have bi := decide_eq_true ch
  clear ch
  obtain ⟨b9, cy, H⟩ := bd_ H
  obtain ⟨ci, H⟩ := fc_ H
  have LMc28 := Aside0.mk ci
  clear ci
  obtain ⟨bw, hy247⟩ : ∃ y_ : List ByteArray, y_ = (b0 ++ [b9]) := ⟨_, rfl⟩
  replace H : (spec_InodeWords.l0 k1 bw (wrap64 (ae + 1)) a8 a9 aa ab l0_4 a6) = some r := by first | (rw [hy247]; with_reducible exact H) | (have H2_ := (Option.bind_some _ _).symm.trans H; rw [hy247]; with_reducible exact H2_) | (have H2_ := (Option.bind_some _ _).symm.trans H; with_reducible exact H2_) | with_reducible exact H | (rw [hy247]; exact H) | exact H
  have Ny247 := Aside0.mk hy247
  clear hy247
  have H' := Aside0.mk H
  clear H
  have ba := bb6_ a5.out
  have p245 : 0 ≤ (ae : Int) := of_decide_eq_true tq_2
  have q245 : ae < (l0_4.length : Int) := of_decide_eq_true tq_2
  obtain ⟨bx, ck, ag, ah, ai⟩ := at_T89 HR0_4.out ae p245 q245
  cases ck
  replace ag := hx_ HB.out ag
  replace ah := hx_ HB.out ah
  replace ai := hx_ HB.out ai
  replace p245 := eq_true p245
  replace q245 := eq_true q245
  go_wp2_with (first | ((with_reducible refine gate_callee (f := 64) rfl ?_); refine goesL_ (some 39) rfl rfl Tryz.func64 (by kernel_rfl) rfl #[.agg #[.int .i64 ((rd_T89 l0_4 ae).f0), .int .i64 ((rd_T89 l0_4 ae).f1), .string ((rd_T89 l0_4 ae).f2)]] rfl tq_0 ?_; (with_reducible refine (spec_RecWord.calls k1 ((rd_T89 l0_4 ae).f0) ((rd_T89 l0_4 ae).f1) ((rd_T89 l0_4 ae).f2) b9 _ cy.out).mono ?_); rintro e d9 ⟨rfl, hb⟩; refine ⟨_, rfl, ?_⟩; have z_ := p_ (Kd.R_below (raR_ a7) hb) <| bw1_ (kb_ a5) th_ hb; clear a7 a5 HB; obtain ⟨a7, a5, HB⟩ := z_; (try clear hb)) | ((with_reducible refine gate_builtin (b := .append) (xs := #[.tmp 33, .tmp 40]) rfl ?_); at_builtin; refine Kd.R_append Kd.string (w0 := w) w.heap.size rfl (.tmp 33) (.tmp 40) 75 9 (.string ⟨#[]⟩) 16 rfl Tryz.underlying75 info9 rfl (by decide) (by omega) u3 b0 b9 [.string b9] (fun _ => True) (fun _ => False) rfl rfl ?aP (fun _ hk => hk.elim) ?aF ?aO ?aB ?aS ?aL ?_; (case aP => exact rfl); (case aB => exact th_); (case aF => exact (fun _ _ => trivial)); (case aO => exact (raR_ a7)); (case aS => exact (below_size th_)); (case aL => have := LMc28.out; omega); intro v248 da ho hb hg hat; rw [← Ny247.out] at ho; have z_ := p_ (blk_grown (g := ac) (o := .cells #[.int .i64 a8, .int .i64 a9, .int .i64 aa, .string ab, .slice (some bx) l0_4.length aj, .slice an a6.length ak] 69 (0, 0)) (kb_ a5) hg (Kd.R_ne a7.out a5.out (by decide))) <| p_ (hb) <| a_ (ho); clear a5 HB a7; obtain ⟨a5, HB, HO249⟩ := z_; clear ho hb hg hat))
  go_roundg k1
  case measure => have := HK1.out; omega
  case rel => exact ⟨(bw), (wrap64 (ae + 1)), tq_3, H', ⟨tq_15⟩, ⟨(raR_ HO249)⟩, ⟨(kb_ a5)⟩, ⟨th_⟩⟩
 rw [if_neg bh] at H
 have al := decide_eq_false bh
 clear bh
 (first | rw [al] | (simp only [i64_w, i32_w]; rw [al]) | skip)
 have H' := Aside0.mk H
 clear H
 go_wp2
 go_loopg [3, 5] k1 (fun kq v3 v5 w' => ∃ (b1 : List ByteArray) (af : Int), v5 = .int .i64 af ∧ Aside0 (spec_InodeWords.l1 kq b1 af a8 a9 aa ab l0_4 a6 = some r) ∧ Aside0 (kq ≤ k1) ∧ Aside0 (Kd.R Kd.string 9 w' w.heap.size (fun _ => True) v3 b1) ∧ Aside0 (w'.heap[ac]? = some (.cells #[.int .i64 a8, .int .i64 a9, .int .i64 aa, .string ab, (.slice am l0_4.length aj), (.slice an a6.length ak)] 69 (0, 0))) ∧ Aside0 (Below w.heap.size w w'))
 case atStart => exact ⟨(b0), (0), tq_3, H', ⟨Nat.le_refl _⟩, ⟨(raR_ a7)⟩, ⟨(kb_ a5)⟩, ⟨th_⟩⟩
 case round =>
 clear H'
 try clear c1; try clear c2; try clear p2; try clear q2; try clear hx2; try clear c3; try clear c4; try clear c6; try clear p6; try clear c7; try clear bn; try clear b2; try clear b3; try clear b4; try clear bo; try clear b6; try clear b7; try clear av; try clear p24; try clear q24; try clear hx24; try clear bh; try clear al; try clear ch; try clear bi; try clear ci; try clear b8; try clear ba; try clear bm; try clear b8; try clear ba; try clear bm; try clear ag; try clear ah; try clear ai; try clear p2; try clear p245; try clear q245
 obtain ⟨b1, af, rfl, HA, HK2, a7, a5, HB⟩ := hrel
 cases gk with
 | zero => exact absurd HA.out (by simp [spec_InodeWords.l1])
 | succ k2 =>
 have H := HA.out
 clear HA
 simp only [spec_InodeWords.l1] at H
 have bz := Aside0.mk H
 clear H
 have bj := bb6_ a5.out
 go_upto_if 46 with (fail)
 (try clear bj)
 have H := bz.out
 clear bz
 by_cases bl : af < (a6.length : Int)
 ·rw [if_pos bl] at H
  have ao := decide_eq_true bl
  clear bl
  (first | rw [ao] | (simp only [i64_w, i32_w]; rw [ao]) | skip)
  obtain ⟨cl, H⟩ := fc_ H
  have ca := decide_eq_true cl
  clear cl
  obtain ⟨bb, cz, H⟩ := bd_ H
  obtain ⟨cm, H⟩ := fc_ H
  have LMc37 := Aside0.mk cm
  clear cm
  obtain ⟨cb, hy252⟩ : ∃ y_ : List ByteArray, y_ = (b1 ++ [bb]) := ⟨_, rfl⟩
  replace H : (spec_InodeWords.l1 k2 cb (wrap64 (af + 1)) a8 a9 aa ab l0_4 a6) = some r := by first | (rw [hy252]; with_reducible exact H) | (have H2_ := (Option.bind_some _ _).symm.trans H; rw [hy252]; with_reducible exact H2_) | (have H2_ := (Option.bind_some _ _).symm.trans H; with_reducible exact H2_) | with_reducible exact H | (rw [hy252]; exact H) | exact H
  have Ny252 := Aside0.mk hy252
  clear hy252
  have H' := Aside0.mk H
  clear H
  have cc := bb6_ a5.out
  have p250 : 0 ≤ (af : Int) := of_decide_eq_true tq_2
  have q250 : af < (a6.length : Int) := of_decide_eq_true tq_2
  obtain ⟨cd, cn, ap, aq⟩ := at_T72 HR0_5.out af p250 q250
  cases cn
  replace ap := hx_ HB.out ap
  replace aq := hx_ HB.out aq
  replace p250 := eq_true p250
  replace q250 := eq_true q250
  go_wp2_with (first | ((with_reducible refine gate_callee (f := 65) rfl ?_); refine goesL_ (some 55) rfl rfl Tryz.func65 (by kernel_rfl) rfl #[.agg #[.int .i64 ((rd_T72 a6 af).f0), .string ((rd_T72 a6 af).f1)]] rfl tq_0 ?_; (with_reducible refine (spec_EntryWord.calls k2 ((rd_T72 a6 af).f0) ((rd_T72 a6 af).f1) bb _ cz.out).mono ?_); rintro e db ⟨rfl, hb⟩; refine ⟨_, rfl, ?_⟩; have z_ := p_ (Kd.R_below (raR_ a7) hb) <| bw1_ (kb_ a5) th_ hb; clear a7 a5 HB; obtain ⟨a7, a5, HB⟩ := z_; (try clear hb)) | ((with_reducible refine gate_builtin (b := .append) (xs := #[.tmp 49, .tmp 56]) rfl ?_); at_builtin; refine Kd.R_append Kd.string (w0 := w) w.heap.size rfl (.tmp 49) (.tmp 56) 75 9 (.string ⟨#[]⟩) 16 rfl Tryz.underlying75 info9 rfl (by decide) (by omega) u3 b1 bb [.string bb] (fun _ => True) (fun _ => False) rfl rfl ?aP (fun _ hk => hk.elim) ?aF ?aO ?aB ?aS ?aL ?_; (case aP => exact rfl); (case aB => exact th_); (case aF => exact (fun _ _ => trivial)); (case aO => exact (raR_ a7)); (case aS => exact (below_size th_)); (case aL => have := LMc37.out; omega); intro v253 dc ho hb hg hat; rw [← Ny252.out] at ho; have z_ := p_ (blk_grown (g := ac) (o := .cells #[.int .i64 a8, .int .i64 a9, .int .i64 aa, .string ab, .slice am l0_4.length aj, .slice (some cd) a6.length ak] 69 (0, 0)) (kb_ a5) hg (Kd.R_ne a7.out a5.out (by decide))) <| p_ (hb) <| a_ (ho); clear a5 HB a7; obtain ⟨a5, HB, HO254⟩ := z_; clear ho hb hg hat))
  go_roundg k2
  case measure => have := HK1.out; have := HK2.out; omega
  case rel => exact ⟨(cb), (wrap64 (af + 1)), tq_3, H', ⟨tq_20⟩, ⟨(raR_ HO254)⟩, ⟨(kb_ a5)⟩, ⟨th_⟩⟩
 rw [if_neg bl] at H
 have ao := decide_eq_false bl
 clear bl
 (first | rw [ao] | (simp only [i64_w, i32_w]; rw [ao]) | skip)
 have H' := Aside0.mk H
 clear H
 go_wp2
 go_loopg [3] k2 (fun kq v3 w' => ∃ (ar : List ByteArray), Aside0 (spec_InodeWords.l2 kq ar = some r) ∧ Aside0 (kq ≤ k2) ∧ Aside0 (Kd.R Kd.string 9 w' w.heap.size (fun _ => True) v3 ar) ∧ Aside0 (w'.heap[ac]? = some (.cells #[.int .i64 a8, .int .i64 a9, .int .i64 aa, .string ab, (.slice am l0_4.length aj), (.slice an a6.length ak)] 69 (0, 0))) ∧ Aside0 (Below w.heap.size w w'))
 case atStart => exact ⟨(b1), H', ⟨Nat.le_refl _⟩, ⟨(raR_ a7)⟩, ⟨(kb_ a5)⟩, ⟨th_⟩⟩
 case round =>
 clear H'
 try clear c1; try clear c2; try clear p2; try clear q2; try clear hx2; try clear c3; try clear c4; try clear c6; try clear p6; try clear c7; try clear bn; try clear b2; try clear b3; try clear b4; try clear bo; try clear b6; try clear b7; try clear av; try clear p24; try clear q24; try clear hx24; try clear bh; try clear al; try clear p25; try clear q25; try clear hx25; try clear ch; try clear bi; try clear ci; try clear bl; try clear ao; try clear cl; try clear ca; try clear cm; try clear dd; try clear b8; try clear ba; try clear bj; try clear cc; try clear bm; try clear b8; try clear ba; try clear bj; try clear cc; try clear bm; try clear ag; try clear ah; try clear ai; try clear ap; try clear aq; try clear p2; try clear p24; try clear p245; try clear p250; try clear p6; try clear q2; try clear q24; try clear q245; try clear q250
 obtain ⟨ar, HA, HK3, a7, a5, HB⟩ := hrel
 cases gk with
 | zero => exact absurd HA.out (by simp [spec_InodeWords.l2])
 | succ k3 =>
 have H := HA.out
 clear HA
 simp only [spec_InodeWords.l2] at H
 have ce := Aside0.mk H
 clear H
 obtain ⟨Ao42, co, cp⟩ := Kd.R_slice a7.out
 subst cp
 go_upto_if 60 with (fail)
 have H := ce.out
 clear ce
 by_cases bp : (ar.length : Int) < 8
 rotate_left
 ·rw [if_neg bp] at H
  have au := decide_eq_false bp
  have cf : decide (ar.length < 8) = false := decide_eq_false (by omega)
  clear bp
  (first | rw [au] | (simp only [i64_w, i32_w]; rw [au]) | skip)
  obtain rfl := Option.some.inj H
  go_wp2
  go_ret
  exact ⟨_, tq_1, (raR_ a7), th_⟩
 rw [if_pos bp] at H
 have au := decide_eq_true bp
 have cf : decide (ar.length < 8) = true := decide_eq_true (by omega)
 clear bp
 (first | rw [au] | (simp only [i64_w, i32_w]; rw [au]) | skip)
 obtain ⟨bc, d0, H⟩ := bd_ H
 obtain ⟨cu, H⟩ := fc_ H
 have LMc45 := Aside0.mk cu
 clear cu
 obtain ⟨cg, hy256⟩ : ∃ y_ : List ByteArray, y_ = (ar ++ [bc]) := ⟨_, rfl⟩
 replace H : (spec_InodeWords.l2 k3 cg) = some r := by first | (rw [hy256]; with_reducible exact H) | (have H2_ := (Option.bind_some _ _).symm.trans H; rw [hy256]; with_reducible exact H2_) | (have H2_ := (Option.bind_some _ _).symm.trans H; with_reducible exact H2_) | with_reducible exact H | (rw [hy256]; exact H) | exact H
 have Ny256 := Aside0.mk hy256
 clear hy256
 have H' := Aside0.mk H
 clear H
 go_wp2_with (first | ((with_reducible refine gate_callee (f := 70) rfl ?_); refine goesL_ (some 62) rfl rfl Tryz.func70 (by kernel_rfl) rfl #[.int .i64 8] rfl tq_0 ?_; (with_reducible refine (spec_ZeroText.calls k3 8 bc _ d0.out).mono ?_); rintro e de ⟨rfl, hb⟩; refine ⟨_, rfl, ?_⟩; have z_ := p_ (Kd.R_below (raR_ a7) hb) <| bw1_ (kb_ a5) th_ hb; clear a7 a5 HB; obtain ⟨a7, a5, HB⟩ := z_; (try clear hb)) | ((with_reducible refine gate_builtin (b := .append) (xs := #[.tmp 61, .tmp 63]) rfl ?_); at_builtin; refine Kd.R_append Kd.string (w0 := w) w.heap.size rfl (.tmp 61) (.tmp 63) 75 9 (.string ⟨#[]⟩) 16 rfl Tryz.underlying75 info9 rfl (by decide) (by omega) (.slice Ao42 ar.length co) ar bc [.string bc] (fun _ => True) (fun _ => False) rfl rfl ?aP (fun _ hk => hk.elim) ?aF ?aO ?aB ?aS ?aL ?_; (case aP => exact rfl); (case aB => exact th_); (case aF => exact (fun _ _ => trivial)); (case aO => exact (raR_ a7)); (case aS => exact (below_size th_)); (case aL => have := LMc45.out; omega); intro v257 df ho hb hg hat; rw [← Ny256.out] at ho; have z_ := p_ (blk_grown (g := ac) (o := .cells #[.int .i64 a8, .int .i64 a9, .int .i64 aa, .string ab, .slice am l0_4.length aj, .slice an a6.length ak] 69 (0, 0)) (kb_ a5) hg (Kd.R_ne a7.out a5.out (by decide))) <| p_ (hb) <| a_ (ho); clear a5 HB a7; obtain ⟨a5, HB, HO258⟩ := z_; clear ho hb hg hat))
 go_roundg k3
 case measure => have := HK1.out; have := HK2.out; have := HK3.out; omega
 case rel => exact ⟨(cg), H', ⟨tq_29⟩, ⟨(raR_ HO258)⟩, ⟨(kb_ a5)⟩, ⟨th_⟩⟩

/-! ### spec_InodeAt: function 46 -/
def spec_InodeAt.f (a0_0 : Int) (a0_1 : Int) (a0_2 : Int) (a0_3 : Int) (a1 : Int) (a2 : Int) : Option (Int) := (spec_GeoOk.f a0_0 a0_1 a0_2 a0_3).bind fun t260 => (if t260 = true then ((spec_l01In.f a2 0 (wrap64 (a0_2 - 1))).bind fun t261 => (if t261 = true then ((spec_l11At.f a0_0 a0_1 a0_2 a0_3 a1 (wrap64 (38 + (wrap64 (8 * a2))))).bind fun t262 => (some t262)) else (some (-1)))) else (some (-1)))
set_option maxHeartbeats 8000000 in
set_option maxRecDepth 100000 in
theorem spec_InodeAt.calls (a7 : Int) (a8 : Int) (a6 : Int) (a9 : Int) (a1 : Int) (a2 : Int) (r : Int) (w : World) (h : spec_InodeAt.f a7 a8 a6 a9 a1 a2 = some r) :
  Calls Tryz.prog 46 #[.agg #[.int .i64 a7, .int .i64 a8, .int .i64 a6, .int .i64 a9], .int .i64 a1, .int .i64 a2] w fun e w' => e = .returned (.int .i64 r) ∧ Below w.heap.size w w' := by
 have hu31 := Tryz.underlying31
 have HB := Aside0.mk (Below.refl w.heap.size w)
 unfold spec_InodeAt.f at h
 have H := h
 clear h
 obtain ⟨ah, A4, H⟩ := bd_ H
 by_cases c5 : ah = true
 rotate_left
 ·replace c5 := Bool.eq_false_iff.mpr c5
  subst c5
  rw [if_neg nf_] at H
  obtain rfl := Option.some.inj H
  go_enter Tryz.func46, Tryz.ntmps46
  go_wp2_with (first | ((with_reducible refine gate_dst (N := 3) rfl ?_); refine be_ 3 (cs := #[.int .i64 a7, .int .i64 a8, .int .i64 a6, .int .i64 a9]) 31 ?_; intro aa hg ao hbox hb; have z_ := bx0_ th_ hb hbox hg; clear HB; obtain ⟨HB, a5, ab, ac⟩ := z_; clear hb hbox hg; have al := bb4_ a5.out) | ((with_reducible refine gate_callee (f := 35) rfl ?_); refine goesL_ (some 8) rfl rfl Tryz.func35 (by kernel_rfl) rfl #[.agg #[.int .i64 a7, .int .i64 a8, .int .i64 a6, .int .i64 a9]] rfl tq_0 ?_; (with_reducible refine (spec_GeoOk.calls a7 a8 a6 a9 false _ A4.out).mono ?_); rintro e ap ⟨rfl, hb⟩; refine ⟨_, rfl, ?_⟩; have z_ := bw1_ (kb_ a5) th_ hb; clear a5 HB; obtain ⟨a5, HB⟩ := z_; (try clear hb)))
  go_ret
  exact ⟨tq_1, th_⟩
 subst c5
 rw [if_pos rfl] at H
 obtain ⟨ae, A6, H⟩ := bd_ H
 have aj := Aside0.mk H
 clear H
 go_enter Tryz.func46, Tryz.ntmps46
 go_upto_if 17 with (first | ((with_reducible refine gate_dst (N := 3) rfl ?_); refine be_ 3 (cs := #[.int .i64 a7, .int .i64 a8, .int .i64 a6, .int .i64 a9]) 31 ?_; intro aa hg w8 hbox hb; have z_ := bx0_ th_ hb hbox hg; clear HB; obtain ⟨HB, a5, ab, ac⟩ := z_; clear hb hbox hg; have ak := bb4_ a5.out) | ((with_reducible refine gate_callee (f := 35) rfl ?_); refine goesL_ (some 8) rfl rfl Tryz.func35 (by kernel_rfl) rfl #[.agg #[.int .i64 a7, .int .i64 a8, .int .i64 a6, .int .i64 a9]] rfl tq_0 ?_; (with_reducible refine (spec_GeoOk.calls a7 a8 a6 a9 true _ A4.out).mono ?_); rintro e aq ⟨rfl, hb⟩; refine ⟨_, rfl, ?_⟩; have z_ := bw1_ (kb_ a5) th_ hb; clear a5 HB; obtain ⟨a5, HB⟩ := z_; (try clear hb); have af := bb4_ a5.out) | (go_at_call 36; (with_reducible refine (spec_l01In.calls a2 0 (wrap64 (a6 - 1)) ae _ A6.out).mono ?_); rintro e w' ⟨rfl, ⟨nd, rfl⟩⟩))
 (try simp only [Act.put, List.setIfInBounds_toArray, List.set_cons_zero, List.set_cons_succ])
 (try clear af)
 (try clear ak)
 (try clear af)
 (try clear ak)
 have H := aj.out
 clear aj
 by_cases ag : ae = true
 rotate_left
 ·replace ag := Bool.eq_false_iff.mpr ag
  subst ag
  rw [if_neg nf_] at H
  obtain rfl := Option.some.inj H
  go_wp2
  go_ret
  exact ⟨tq_1, th_⟩
 subst ag
 rw [if_pos rfl] at H
 obtain ⟨ai, am, H⟩ := bd_ H
 obtain rfl := Option.some.inj H
 have an := bb4_ a5.out
 go_wp2_with (first | ((with_reducible refine gate_callee (f := 43) rfl ?_); refine goesL_ (some 23) rfl rfl Tryz.func43 (by kernel_rfl) rfl #[.agg #[.int .i64 a7, .int .i64 a8, .int .i64 a6, .int .i64 a9], .int .i64 a1, .int .i64 (wrap64 (38 + (wrap64 (8 * a2))))] rfl tq_0 ?_; (with_reducible refine (spec_l11At.calls a7 a8 a6 a9 a1 (wrap64 (38 + (wrap64 (8 * a2)))) ai _ am.out).mono ?_); rintro e ar ⟨rfl, hb⟩; refine ⟨_, rfl, ?_⟩; have z_ := bw1_ (kb_ a5) th_ hb; clear a5 HB; obtain ⟨a5, HB⟩ := z_; (try clear hb)))
 go_ret
 exact ⟨tq_1, th_⟩

end Go.Proofs.YtleoknilacjakaaGreat.PFnExactPartWrites
