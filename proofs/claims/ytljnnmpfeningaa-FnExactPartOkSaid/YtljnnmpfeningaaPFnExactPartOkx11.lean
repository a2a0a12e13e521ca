/- Contracts of Go functions, written by a program of ours over the print of the kit: each says that the call returns what the Lean function beside it computes. Conditions: as each theorem states them. -/
import Derived.Test.YtljnnmpfeningaaPkFnExactPartOk
import Derived.Test.YtljnnmpfeningaaPFnExactPartOkx0
import Derived.Test.YtljnnmpfeningaaPFnExactPartOkx9
import Derived.Test.YtljnnmpfeningaaPFnExactPartOkx10
namespace Go.Proofs.Ytljnnmpfeningaa.PFnExactPartOk
open Go.RowKit Go.Proofs.YtljnnmpfeningaaW.PrintWords Go.Proofs.YtljnnmpfeningaaW.PrintLast Go.Proofs.YtljnnmpfeningaaW.PrintMore
attribute [local go_sem] max2_int min2_int max_two min_two max_three min_three max_four min_four   -- for this text's walks alone
set_option linter.unusedVariables false
set_option linter.unusedSimpArgs false

/-! ### impl_RecWord: function 115 -/
def impl_RecWord.j0 : Nat → Bool → Int → Int → ByteArray → Option (ByteArray)
 | 0, _, _, _, _ => none
 | k + 1, x18, x288000, x288001, x288002 => if x18 = true then (some (⟨#[]⟩ : ByteArray)) else ((impl_NumText.f k x288000 1).bind fun t290 => ((impl_NumText.f k x288001 3).bind fun t291 => (if t290.size + t291.size ≤ 9223372036854775807 then (if (t290 ++ t291).size + x288002.size ≤ 9223372036854775807 then (some ((t290 ++ t291) ++ x288002)) else (none)) else (none))))
def impl_RecWord.f (k : Nat) (a0_0 : Int) (a0_1 : Int) (a0_2 : ByteArray) : Option (ByteArray) := (impl_within.f a0_0 1 12).bind fun t288 => (if t288 = true then ((impl_within.f a0_1 1 16777215).bind fun t289 => (if t289 = true then (impl_RecWord.j0 k ((a0_2.size : Int) != 4) a0_0 a0_1 a0_2) else (impl_RecWord.j0 k true a0_0 a0_1 a0_2))) else (impl_RecWord.j0 k true a0_0 a0_1 a0_2))
theorem impl_RecWord.mono_l : ∀ k, (∀ y0 y1 y2 y3, LeO (impl_RecWord.j0 k y0 y1 y2 y3) (impl_RecWord.j0 (k + 1) y0 y1 y2 y3))
 | 0 => fun _ _ _ _ r h => by simp [impl_RecWord.j0] at h
 | k + 1 => by
  have ih0 := impl_RecWord.mono_l k
  ·intro y0 y1 y2 y3
   unfold impl_RecWord.j0
   repeat' first
   | (with_reducible exact ih0 ..)
   | (with_reducible exact impl_NumText.mono ..)
   | (with_reducible exact LeO.refl _)
   | (with_reducible exact LeO.none _)
   | (with_reducible refine LeO.ite ?_ ?_)
   | (with_reducible refine LeO.bind ?_ (fun _ => ?_))
   | exact ih0 ..
   | exact impl_NumText.mono ..
   | exact LeO.none _
   | refine LeO.ite ?_ ?_
   | refine LeO.bind ?_ (fun _ => ?_)
theorem impl_RecWord.mono : ∀ a0 a1 a2 k, LeO (impl_RecWord.f k a0 a1 a2) (impl_RecWord.f (k + 1) a0 a1 a2) := by
 intro a0 a1 a2 k
 have ih0 := impl_RecWord.mono_l k
 unfold impl_RecWord.f
 repeat' first
   | (with_reducible exact ih0 ..)
   | (with_reducible exact impl_NumText.mono ..)
   | (with_reducible exact LeO.refl _)
   | (with_reducible exact LeO.none _)
   | (with_reducible refine LeO.ite ?_ ?_)
   | (with_reducible refine LeO.bind ?_ (fun _ => ?_))
   | exact ih0 ..
   | exact impl_NumText.mono ..
   | exact LeO.none _
   | refine LeO.ite ?_ ?_
   | refine LeO.bind ?_ (fun _ => ?_)
def impl_RecWord.T3 : Bool × List (List Nat × List Nat) := (true, [([], []), ([0], [0]), ([1], [1]), ([], []), ([3], [3]), ([4, 2], [4]), ([2, 5], [2, 5]), ([], []), ([7], [7]), ([6, 8], [6, 8]), ([9, 5, 0, 1, 2, 3, 4, 5, 6, 7, 8, 9], [9])])
def impl_RecWord.B3 : List Nat := [0, 1, 3, 0, 8, 31, 63, 0, 128, 511, 1023]
theorem impl_RecWord.tab3 : rtab .any (opsOf Try.f115 3) = impl_RecWord.T3 := by kernel_rfl
theorem impl_RecWord.bits3 : waitsOk impl_RecWord.T3.2 impl_RecWord.B3 = true := by kernel_rfl
set_option maxHeartbeats 8000000 in
set_option maxRecDepth 100000 in
theorem impl_RecWord.calls (k : Nat) (a0_0 : Int) (a0_1 : Int) (a0_2 : ByteArray) (r : ByteArray) (w : World) (h : impl_RecWord.f k a0_0 a0_1 a0_2 = some r) :
  Calls Try.prog 115 #[.agg #[.int .i64 a0_0, .int .i64 a0_1, .string a0_2]] w fun e w' => e = .returned (.string r) ∧ Below w.heap.size w w' := by
 have hu96 := Try.underlying96
 have HB := Aside0.mk (Below.refl w.heap.size w)
 have H : ((impl_within.f a0_0 1 12).bind fun t288 => (if t288 = true then ((impl_within.f a0_1 1 16777215).bind fun t289 => (if t289 = true then (impl_RecWord.j0 k ((a0_2.size : Int) != 4) a0_0 a0_1 a0_2) else (impl_RecWord.j0 k true a0_0 a0_1 a0_2))) else (impl_RecWord.j0 k true a0_0 a0_1 a0_2))) = some r := h
 clear h
 have HC2 := Aside0.mk H
 clear H
 go_enter Try.func115, Try.ntmps115
 go_upto_region 1 with (first | ((with_reducible refine gate_dst (N := 1) rfl ?_); (try (refine gate_guard (by rfl) ?_; dsimp only)); refine box_event ?hg (N := 1) ?hd (cs := #[.int .i64 a0_0, .int .i64 a0_1, .string a0_2]) (t := 96) ?hr ?_; (case hd => rfl); (case hg => rfl); (case hr => first | (go_simp; done) | (go_simp; rfl)); intro gb287 hg w3 hbox hb; have z_ := p_ (below_step tq_0 hb) <| p_ (hbox) <| p_ (gb_ hg tq_0) <| a_ (gb_ hg tq_0); clear HB; obtain ⟨HB, BK287, GW287, GE287⟩ := z_; clear hb hbox hg))
 (try simp only [Act.put, List.setIfInBounds_toArray, List.set_cons_zero, List.set_cons_succ])
 go_cut [18] (fun v18 wc => ∃ (kq : Nat) (x18_1 : Bool), v18 = .bool x18_1 ∧ Aside0 (impl_RecWord.j0 kq x18_1 a0_0 a0_1 a0_2 = some r) ∧ Aside0 (kq ≤ k) ∧ Aside0 (wc.heap[gb287]? = some (.cells #[.int .i64 a0_0, .int .i64 a0_1, .string a0_2] 96 (0, 0))) ∧ Aside0 (Below w.heap.size w wc))
 case first =>
  have H := HC2.out
  clear HC2
  replace H := Option.bind_eq_some_iff.mp H
  obtain ⟨t288, A40, H⟩ := H
  replace H : (if t288 = true then ((impl_within.f a0_1 1 16777215).bind fun t289 => (if t289 = true then (impl_RecWord.j0 k ((a0_2.size : Int) != 4) a0_0 a0_1 a0_2) else (impl_RecWord.j0 k true a0_0 a0_1 a0_2))) else (impl_RecWord.j0 k true a0_0 a0_1 a0_2)) = some r := H
  have A4 := Aside0.mk A40
  clear A40
  by_cases c5 : t288 = true
  rotate_left
  ·replace c5 := Bool.eq_false_iff.mpr c5
   subst c5
   have H1 : (impl_RecWord.j0 k true a0_0 a0_1 a0_2) = some r := by rw [if_neg (show ¬ (false = true) by decide)] at H; exact H
   clear H
   have H := H1
   clear H1
   have H' := Aside0.mk H
   clear H
   obtain ⟨hcz10_0, hcz10_1, hcz10_2⟩ := bk3_ BK287.out
   obtain ⟨hfz10_0, hfz10_1, hfz10_2⟩ := bf3_ BK287.out
   go_wp2_with (first | ((with_reducible refine gate_callee (f := 40) rfl ?_); refine goesL_ (some 5) rfl rfl Try.func40 (by kernel_rfl) rfl #[.int .i64 a0_0, .int .i64 1, .int .i64 12] rfl tq_1 ?_; (with_reducible refine (impl_within.calls a0_0 1 12 false _ A4.out).mono ?_); rintro e w' ⟨rfl, ⟨nd, rfl⟩⟩; refine ⟨_, rfl, ?_⟩))
   go_meet
   case rel => exact ⟨_, (true), tq_4, H', ⟨tq_59⟩, ⟨tq_111⟩, ⟨tq_65⟩⟩
  subst c5
  have H1 : ((impl_within.f a0_1 1 16777215).bind fun t289 => (if t289 = true then (impl_RecWord.j0 k ((a0_2.size : Int) != 4) a0_0 a0_1 a0_2) else (impl_RecWord.j0 k true a0_0 a0_1 a0_2))) = some r := by rw [if_pos rfl] at H; exact H
  clear H
  have H := H1
  clear H1
  replace H := Option.bind_eq_some_iff.mp H
  obtain ⟨t289, A60, H⟩ := H
  replace H : (if t289 = true then (impl_RecWord.j0 k ((a0_2.size : Int) != 4) a0_0 a0_1 a0_2) else (impl_RecWord.j0 k true a0_0 a0_1 a0_2)) = some r := H
  have A6 := Aside0.mk A60
  clear A60
  by_cases c7 : t289 = true
  ·subst c7
   have H1 : (impl_RecWord.j0 k ((a0_2.size : Int) != 4) a0_0 a0_1 a0_2) = some r := by rw [if_pos rfl] at H; exact H
   clear H
   have H := H1
   clear H1
   have H' := Aside0.mk H
   clear H
   obtain ⟨hcz8_0, hcz8_1, hcz8_2⟩ := bk3_ BK287.out
   obtain ⟨hfz8_0, hfz8_1, hfz8_2⟩ := bf3_ BK287.out
   go_wp2_with (first | ((with_reducible refine gate_callee (f := 40) rfl ?_); refine goesL_ (some 5) rfl rfl Try.func40 (by kernel_rfl) rfl #[.int .i64 a0_0, .int .i64 1, .int .i64 12] rfl tq_1 ?_; (with_reducible refine (impl_within.calls a0_0 1 12 true _ A4.out).mono ?_); rintro e w' ⟨rfl, ⟨nd, rfl⟩⟩; refine ⟨_, rfl, ?_⟩) | (go_at_call 40; (with_reducible refine (impl_within.calls a0_1 1 16777215 true _ A6.out).mono ?_); rintro e w' ⟨rfl, ⟨nd, rfl⟩⟩))
   go_meet
   case rel => exact ⟨_, (((a0_2.size : Int) != 4)), tq_4, H', ⟨tq_59⟩, ⟨tq_111⟩, ⟨tq_65⟩⟩
  replace c7 := Bool.eq_false_iff.mpr c7
  subst c7
  have H1 : (impl_RecWord.j0 k true a0_0 a0_1 a0_2) = some r := by rw [if_neg (show ¬ (false = true) by decide)] at H; exact H
  clear H
  have H := H1
  clear H1
  have H' := Aside0.mk H
  clear H
  obtain ⟨hcz9_0, hcz9_1, hcz9_2⟩ := bk3_ BK287.out
  obtain ⟨hfz9_0, hfz9_1, hfz9_2⟩ := bf3_ BK287.out
  go_wp2_with (first | ((with_reducible refine gate_callee (f := 40) rfl ?_); refine goesL_ (some 5) rfl rfl Try.func40 (by kernel_rfl) rfl #[.int .i64 a0_0, .int .i64 1, .int .i64 12] rfl tq_1 ?_; (with_reducible refine (impl_within.calls a0_0 1 12 true _ A4.out).mono ?_); rintro e w' ⟨rfl, ⟨nd, rfl⟩⟩; refine ⟨_, rfl, ?_⟩) | (go_at_call 40; (with_reducible refine (impl_within.calls a0_1 1 16777215 false _ A6.out).mono ?_); rintro e w' ⟨rfl, ⟨nd, rfl⟩⟩))
  go_meet
  case rel => exact ⟨_, (true), tq_4, H', ⟨tq_59⟩, ⟨tq_111⟩, ⟨tq_65⟩⟩
 case rest =>
 clear HC2
 try clear c1; try clear p2; try clear c4; try clear c5; try clear c7; try clear hcz10_0 hcz10_1 hcz10_2; try clear hcz8_0 hcz8_1 hcz8_2; try clear hcz9_0 hcz9_1 hcz9_2; try clear hfz10_0 hfz10_1 hfz10_2; try clear hfz8_0 hfz8_1 hfz8_2; try clear hfz9_0 hfz9_1 hfz9_2
 obtain ⟨kq, x18_1, rfl, HA, HJ1, BK287, HB⟩ := hcut
 cases kq with
 | zero => exact absurd HA.out (by simp [impl_RecWord.j0])
 | succ kj1 =>
 have H := HA.out
 clear HA
 simp only [impl_RecWord.j0] at H
 by_cases c11 : x18_1 = true
 ·subst c11
  have H1 : (some (⟨#[]⟩ : ByteArray)) = some r := by rw [if_pos rfl] at H; exact H
  clear H
  have H := H1
  clear H1
  obtain rfl := Option.some.inj H
  go_wp2
  go_ret
  exact ⟨tq_2, tq_65⟩
 replace c11 := Bool.eq_false_iff.mpr c11
 subst c11
 have H1 : ((impl_NumText.f kj1 a0_0 1).bind fun t290 => ((impl_NumText.f kj1 a0_1 3).bind fun t291 => (if t290.size + t291.size ≤ 9223372036854775807 then (if (t290 ++ t291).size + a0_2.size ≤ 9223372036854775807 then (some ((t290 ++ t291) ++ a0_2)) else (none)) else (none)))) = some r := by rw [if_neg (show ¬ (false = true) by decide)] at H; exact H
 clear H
 have H := H1
 clear H1
 replace H := Option.bind_eq_some_iff.mp H
 obtain ⟨t290, A120, H⟩ := H
 replace H : ((impl_NumText.f kj1 a0_1 3).bind fun t291 => (if t290.size + t291.size ≤ 9223372036854775807 then (if (t290 ++ t291).size + a0_2.size ≤ 9223372036854775807 then (some ((t290 ++ t291) ++ a0_2)) else (none)) else (none))) = some r := H
 have A12 := Aside0.mk A120
 clear A120
 replace H := Option.bind_eq_some_iff.mp H
 obtain ⟨t291, A130, H⟩ := H
 replace H : (if t290.size + t291.size ≤ 9223372036854775807 then (if (t290 ++ t291).size + a0_2.size ≤ 9223372036854775807 then (some ((t290 ++ t291) ++ a0_2)) else (none)) else (none)) = some r := H
 have A13 := Aside0.mk A130
 clear A130
 by_cases c14 : t290.size + t291.size ≤ 9223372036854775807
 rotate_left
 ·rw [if_neg c14] at H
  exact absurd H (by simp)
 rw [if_pos c14] at H
 have c14b0 := eq_true c14
 have c14b1 := decide_eq_true c14
 try have c14b2 : (9223372036854775807 < t290.size + t291.size) = False := eq_false (Nat.not_lt.2 c14)
 by_cases c15 : (t290 ++ t291).size + a0_2.size ≤ 9223372036854775807
 rotate_left
 ·rw [if_neg c15] at H
  exact absurd H (by simp)
 rw [if_pos c15] at H
 have c15b0 := eq_true c15
 have c15b1 := decide_eq_true c15
 try have c15b2 : (9223372036854775807 < (t290 ++ t291).size + a0_2.size) = False := eq_false (Nat.not_lt.2 c15)
 try have c15b2s : (9223372036854775807 < t290.size + t291.size + a0_2.size) = False := by rw [← ByteArray.size_append]; exact c15b2
 obtain rfl := Option.some.inj H
 try go_wp2
 have z_ := p_ (blk_drew BK287.out) <| a_ (below_drew1 HB.out)
 clear BK287 HB
 obtain ⟨BK287, HB⟩ := z_
 refine start_ (n := 11) (S := fun w' => w'.cell? ⟨gb287, 0, none⟩ = some (.int .i64 a0_0) ∧ w'.cell? ⟨gb287, 1, none⟩ = some (.int .i64 a0_1) ∧ w'.cell? ⟨gb287, 2, none⟩ = some (.string a0_2)) (ds := []) bq_81 (by kernel_rfl) rfl rfl (bk3_ BK287.out) (fun hHeld => ?_); refine with_tabW impl_RecWord.tab3 impl_RecWord.bits3 (fun HT_ HW_ => ?_)
 generalize wc.drew = w16 at BK287 HB hHeld ⊢
 refine yq_ (i := 0) (N := some 19) bq_82 (any_of HT_.out (by kernel_rfl)) ?_
 refine yq_ (i := 3) (N := some 22) bq_83 (any_of HT_.out (by kernel_rfl)) ?_
 refine yq_ (i := 7) (N := some 26) bq_84 (any_of HT_.out (by kernel_rfl)) ?_
 refine tk_ (i := 1) (N := some 20) bq_85 (take_ofW HT_.out HW_.out (by kernel_rfl)) hHeld ?_
 refine tk_ (i := 4) (N := some 23) bq_86 (take_ofW HT_.out HW_.out (by kernel_rfl)) hHeld ?_
 refine tk_ (i := 8) (N := some 27) bq_87 (take_ofW HT_.out HW_.out (by kernel_rfl)) hHeld ?_
 refine one_ (i := 2) (N := some 21) bq_88 rfl rfl (one_of HT_.out (by kernel_rfl)) (by decide) (fun K hK => ?_)
 refine goes_ Try.func134 (by kernel_rfl) rfl #[.int .i64 a0_0, .int .i64 1] (by rfl) rfl rfl tq_1 ?_
 with_reducible refine (impl_NumText.calls kj1 a0_0 1 t290 _ A12.out).mono ?_
 rintro e w17 ⟨rfl, hb⟩
 refine ⟨_, rfl, ?_⟩
 have z_ := p_ (blk_below tq_111 hb) <| a_ (below_step tq_65 hb)
 clear BK287 HB
 obtain ⟨BK287, HB⟩ := z_
 (try clear hb)
 (try clear hb2)
 (try clear hk)
 (try clear hi)
 refine hK.out _ _ (bk3_ BK287.out) (fun hHeld => ?_)
 clear hK K
 refine nm_ (some 21) ?_
 refine one_ (i := 5) (N := some 24) bq_89 rfl rfl (one_of HT_.out (by kernel_rfl)) (by decide) (fun K hK => ?_)
 refine goes_ Try.func134 (by kernel_rfl) rfl #[.int .i64 a0_1, .int .i64 3] (by rfl) rfl rfl tq_1 ?_
 with_reducible refine (impl_NumText.calls kj1 a0_1 3 t291 _ A13.out).mono ?_
 rintro e w18 ⟨rfl, hb⟩
 refine ⟨_, rfl, ?_⟩
 have z_ := p_ (blk_below tq_111 hb) <| a_ (below_step tq_65 hb)
 clear BK287 HB
 obtain ⟨BK287, HB⟩ := z_
 (try clear hb)
 (try clear hb2)
 (try clear hk)
 (try clear hi)
 refine hK.out _ _ (bk3_ BK287.out) (fun hHeld => ?_)
 clear hK K
 refine nm_ (some 24) ?_
 refine yq_ (i := 6) (N := some 25) bq_90 (any_of HT_.out (by kernel_rfl)) ?_
 refine yq_ (i := 9) (N := some 28) bq_91 (any_of HT_.out (by kernel_rfl)) ?_
 refine yq_ (i := 10) (N := some 2) bq_92 (any_of HT_.out (by kernel_rfl)) ?_
 refine done_ (done_of HT_.out (by kernel_rfl)) ?_
 try go_wp2
 go_ret
 exact ⟨tq_2, tq_65⟩

/-! ### impl_isFile_1: function 117 -/
def clo117.p (c0_0 : Int) (c0_1 : Int) (c0_2 : ByteArray) (x : S96) : Bool := x.f0 == c0_0
theorem clo117 (x : S96) (gb0 : Nat) (c0_0 : Int) (c0_1 : Int) (c0_2 : ByteArray) (W : World) (hcl0 : W.heap[gb0]? = some (.cells #[.int .i64 c0_0, .int .i64 c0_1, .string c0_2] 96 (0, 0))) : Calls Try.prog 117 (#[.agg #[.int .i64 x.f0, .int .i64 x.f1, .string x.f2]] ++ #[.pointer (some ⟨gb0, 0, none⟩)]) W fun e w' => e = .returned (.bool (clo117.p c0_0 c0_1 c0_2 x)) ∧ Below W.heap.size W w' := by
 have hu96 := Try.underlying96
 have hb0 : gb0 < W.heap.size := blk_lt hcl0
 have h0_0 : W.cell? ⟨gb0, 0, none⟩ = some (.int .i64 c0_0) := (blk_cell hcl0 0).trans rfl
 have h0_1 : W.cell? ⟨gb0, 1, none⟩ = some (.int .i64 c0_1) := (blk_cell hcl0 1).trans rfl
 have h0_2 : W.cell? ⟨gb0, 2, none⟩ = some (.string c0_2) := (blk_cell hcl0 2).trans rfl
 clear hcl0
 show Calls Try.prog 117 #[.agg #[.int .i64 x.f0, .int .i64 x.f1, .string x.f2], .pointer (some ⟨gb0, 0, none⟩)] W _
 go_enter Try.func117, Try.ntmps117
 go_wp2
 go_ret
 exact ⟨(by unfold clo117.p; first | rfl | (simp; done)), (by repeat (first | (with_reducible first | exact Below.refl _ _ | apply below_alloc) | exact Below.refl ..))⟩

/-! ### slices_IndexFunc_Rec: function 135 -/
def lq135_ren : Go.Shelf.Ren := ⟨fun | 6 => 135 | n => n, fun | 22 => 61 | 23 => 96 | 25 => 143 | 3 => 3 | 0 => 0 | 4 => 4 | n => n, fun | n => n⟩
theorem lq135 : Go.Proofs.SlLaysH0.n6 Try.prog lq135_ren := {
 mixed := by kernel_rfl
 f6 := ⟨Try.f135.name, (by decide), Try.func135.trans (congrArg some (by kernel_rfl))⟩
 t0 := Try.underlying0
 a0 := Try.isAgg0
 z0 := Try.sizeOf0
 v0 := Try.zeroValue0
 t3 := Try.underlying3
 a3 := Try.isAgg3
 z3 := Try.sizeOf3
 v3 := Try.zeroValue3
 t4 := Try.underlying4
 a4 := Try.isAgg4
 z4 := Try.sizeOf4
 v4 := Try.zeroValue4
 t22 := Try.underlying61
 a22 := Try.isAgg61
 z22 := Try.sizeOf61
 v22 := Try.zeroValue61
 t25 := Try.underlying143
 a25 := Try.isAgg143
 z25 := Try.sizeOf143
 v25 := Try.zeroValue143 }
theorem idx135_nil (a : Option Addr) (c : Nat) (fv : Value) (w : World) : Calls Try.prog 135 #[.slice a 0 c, fv] w fun e w' => e = .returned (.int .i64 (-1)) ∧ w' = w := by
 go_enter Try.func135, Try.ntmps135
 go_wp2
 go_loopg [5, 8] 0 (fun gg _ s8 wr => s8 = .int .i64 0 ∧ wr = w)
 case atStart => exact ⟨rfl, rfl⟩
 case round =>
 obtain ⟨rfl, rfl⟩ := hrel
 go_wp2
 go_ret
 exact ⟨rfl, rfl⟩
instance inh96 : Inhabited S96 := ⟨z96⟩
def enc96 (x : S96) : List Value := [.int .i64 x.f0, .int .i64 x.f1, .string x.f2]
theorem idx135 (p : S96 → Bool) (g : Nat) (lb : Array Value) (eg : ∀ args w, (callFunc g args).run Try.prog w = .ok (.enter g args) w) (A0 : Option Addr) (c0 : Nat) (l0 : List S96) (w : World) (hr0 : Kd.C k96 w A0 l0.length l0) (hbig : l0.length ≤ 9223372036854775807)
  (hp : PredBelow Try.prog g lb (fun x => .agg (enc96 x).toArray) p w) :
  Calls Try.prog 135 #[.slice A0 l0.length c0, .func (.func g) #[] lb] w fun e w' => e = .returned (.int .i64 (Lib.idxBy (fun _ y => p y) l0 default)) ∧ Below w.heap.size w w' := by
 rcases Nat.eq_zero_or_pos l0.length with hz | hz
 ·have hn := List.eq_nil_of_length_eq_zero hz
  subst hn
  refine (idx135_nil A0 c0 _ w).mono ?_
  rintro e w' ⟨rfl, rfl⟩
  exact ⟨rfl, Below.refl _ _⟩
 ·obtain ⟨ad, rfl, hcell⟩ := hr0.2.2 hz
  have cells : ∀ (j : Nat) x, l0[j]? = some x → ∀ i v, (enc96 x)[i]? = some v → w.cell? (ad.add (j * 3 + i)) = some v := by
   intro j x hx i v hv
   obtain ⟨c, _, hk, hc⟩ := hcell j x hx
   have hk2 := k96_open hk
   subst hk2
   exact hc i _ hv
  have h0 := cells 0 _ (List.getElem?_eq_getElem hz) 0 _ rfl
  have hsp : ad.spot = none := by
   have h0' : w.cell? ad = some _ := h0
   unfold World.cell? at h0'
   split at h0'
   ·split at h0'
    ·cases h0'
    ·simpa using ‹¬ ad.spot.isSome = true›
   ·cases h0'
  obtain ⟨bk, o, sp⟩ := ad
  cases hsp
  have := AnyQ.slices_IndexFunc lq135 3 Try.isAgg96 Try.sizeOf96 enc96 (fun _ => rfl) p g lb eg bk o l0.length c0 l0 w hp (Nat.le_refl _) hbig (World.block_lt_of_cell? w _ h0) (fun j hj i v hv => by
   have := cells j _ (List.getElem?_eq_getElem hj) i v (by rw [← getElem!_pos l0 j hj]; exact hv)
   rw [Addr.add_lit] at this
   rw [Nat.add_assoc]
   exact this)
  rw [List.take_length] at this
  exact this
def slices_IndexFunc_Rec_g117.f (l0 : List S96) (c0_0 : Int) (c0_1 : Int) (c0_2 : ByteArray) : Option (Int) := if l0.length ≤ 9223372036854775807 then some (Lib.idxBy (fun _ y => clo117.p c0_0 c0_1 c0_2 y) l0 z96) else none
theorem slices_IndexFunc_Rec_g117.calls (A0 : Option Addr) (c0 : Nat) (l0 : List S96) (gb0 : Nat) (c0_0 : Int) (c0_1 : Int) (c0_2 : ByteArray) (r : Int) (w : World) (hr0 : Kd.C k96 w A0 l0.length l0) (hc0 : l0.length ≤ c0) (hcl0 : w.heap[gb0]? = some (.cells #[.int .i64 c0_0, .int .i64 c0_1, .string c0_2] 96 (0, 0))) (h : slices_IndexFunc_Rec_g117.f l0 c0_0 c0_1 c0_2 = some r) :
  Calls Try.prog 135 #[.slice A0 l0.length c0, .func (.func 117) #[] #[.pointer (some ⟨gb0, 0, none⟩)]] w fun e w' => e = .returned (.int .i64 r) ∧ Below w.heap.size w w' := by
 unfold slices_IndexFunc_Rec_g117.f at h
 split at h
 case isFalse => cases h
 case isTrue hl =>
 obtain rfl := Option.some.inj h
 exact idx135 (fun y => clo117.p c0_0 c0_1 c0_2 y) 117 #[.pointer (some ⟨gb0, 0, none⟩)] (fun args W => enters_ Try.func117 rfl rfl args W) A0 c0 l0 w hr0 hl (fun W x hW => (clo117 x gb0 c0_0 c0_1 c0_2 W (blk_below hcl0 hW)).mono fun e w' hq => ⟨hq.1, hW.trans (hq.2.mono hW.size)⟩)

/-! ### slices_ContainsFunc_Rec: function 116 -/
def slices_ContainsFunc_Rec_g117.f (l0 : List S96) (c0_0 : Int) (c0_1 : Int) (c0_2 : ByteArray) : Option (Bool) := if l0.length ≤ 9223372036854775807 then some (decide (Lib.idxBy (fun _ y => clo117.p c0_0 c0_1 c0_2 y) l0 z96 ≥ 0)) else none
theorem slices_ContainsFunc_Rec_g117.calls (A0 : Option Addr) (c0 : Nat) (l0 : List S96) (gb0 : Nat) (c0_0 : Int) (c0_1 : Int) (c0_2 : ByteArray) (r : Bool) (w : World) (hr0 : Kd.C k96 w A0 l0.length l0) (hc0 : l0.length ≤ c0) (hcl0 : w.heap[gb0]? = some (.cells #[.int .i64 c0_0, .int .i64 c0_1, .string c0_2] 96 (0, 0))) (h : slices_ContainsFunc_Rec_g117.f l0 c0_0 c0_1 c0_2 = some r) :
  Calls Try.prog 116 #[.slice A0 l0.length c0, .func (.func 117) #[] #[.pointer (some ⟨gb0, 0, none⟩)]] w fun e w' => e = .returned (.bool r) ∧ Below w.heap.size w w' := by
 unfold slices_ContainsFunc_Rec_g117.f at h
 split at h
 case isFalse => cases h
 case isTrue hl =>
 obtain rfl := Option.some.inj h
 have hI := slices_IndexFunc_Rec_g117.calls A0 c0 l0 gb0 c0_0 c0_1 c0_2 _ w hr0 hc0 hcl0 (by unfold slices_IndexFunc_Rec_g117.f; rw [if_pos hl])
 go_enter Try.func116, Try.ntmps116
 go_wp2_with (go_at_call 135; refine hI.mono ?_; rintro e w1 ⟨rfl, hb⟩)
 go_ret
 exact ⟨rfl, hb⟩

/-! ### impl_isFile: function 101 -/
def impl_isFile.l0 : Nat → List (S96) → Int → Int → Int → Int → Int → ByteArray → List (S96) → List (S67) → Option (Bool)
 | 0, _, _, _, _, _, _, _, _, _ => none
 | k + 1, x6, x7, x8, x293000, x293001, x293002, x293003, x293004, x293005 => if x8 < x7 then (if 0 ≤ x8 then (if x8 < (x6.length : Int) then ((impl_RecWord.f k ((rd_T96 x6 x8).f0) ((rd_T96 x6 x8).f1) ((rd_T96 x6 x8).f2)).bind fun t297 => (if t297.toList = ([] : List UInt8) then (some false) else (if x8 ≤ (x293004.length : Int) then ((slices_ContainsFunc_Rec_g117.f (x293004.take (x8 : Int).toNat) ((rd_T96 x6 x8).f0) ((rd_T96 x6 x8).f1) ((rd_T96 x6 x8).f2)).bind fun t302 => (if t302 = true then (some false) else (impl_isFile.l0 k x6 x7 (wrap64 (x8 + 1)) x293000 x293001 x293002 x293003 x293004 x293005))) else (none)))) else (none)) else (none)) else ((impl_within.f x293001 0 128).bind fun t293 => (if t293 = true then (if (x293003.size : Int) = 8 then ((impl_PagesFor.f x293001).bind fun t294 => (if (x293004.length : Int) = t294 then (some ((x293005.length : Int) == 0)) else (some false))) else (some false)) else (some false)))
def impl_isFile.f (k : Nat) (a0_0 : Int) (a0_1 : Int) (a0_2 : Int) (a0_3 : ByteArray) (l0_4 : List (S96)) (l0_5 : List (S67)) : Option (Bool) := impl_isFile.l0 k l0_4 (l0_4.length : Int) 0 a0_0 a0_1 a0_2 a0_3 l0_4 l0_5
theorem impl_isFile.mono_l : ∀ k, (∀ y0 y1 y2 y3 y4 y5 y6 y7 y8, LeO (impl_isFile.l0 k y0 y1 y2 y3 y4 y5 y6 y7 y8) (impl_isFile.l0 (k + 1) y0 y1 y2 y3 y4 y5 y6 y7 y8))
 | 0 => fun _ _ _ _ _ _ _ _ _ r h => by simp [impl_isFile.l0] at h
 | k + 1 => by
  have ih0 := impl_isFile.mono_l k
  ·intro y0 y1 y2 y3 y4 y5 y6 y7 y8
   unfold impl_isFile.l0
   repeat' first
   | (with_reducible exact ih0 ..)
   | (with_reducible exact impl_RecWord.mono ..)
   | (with_reducible exact LeO.refl _)
   | (with_reducible exact LeO.none _)
   | (with_reducible refine LeO.ite ?_ ?_)
   | (with_reducible refine LeO.bind ?_ (fun _ => ?_))
   | exact ih0 ..
   | exact impl_RecWord.mono ..
   | exact LeO.none _
   | refine LeO.ite ?_ ?_
   | refine LeO.bind ?_ (fun _ => ?_)
theorem impl_isFile.mono : ∀ a0 a1 a2 a3 a4 a5 k, LeO (impl_isFile.f k a0 a1 a2 a3 a4 a5) (impl_isFile.f (k + 1) a0 a1 a2 a3 a4 a5) := by
 intro a0 a1 a2 a3 a4 a5 k
 have ih0 := impl_isFile.mono_l k
 unfold impl_isFile.f
 repeat' first
   | (with_reducible exact ih0 ..)
   | (with_reducible exact impl_RecWord.mono ..)
   | (with_reducible exact LeO.refl _)
   | (with_reducible exact LeO.none _)
   | (with_reducible refine LeO.ite ?_ ?_)
   | (with_reducible refine LeO.bind ?_ (fun _ => ?_))
   | exact ih0 ..
   | exact impl_RecWord.mono ..
   | exact LeO.none _
   | refine LeO.ite ?_ ?_
   | refine LeO.bind ?_ (fun _ => ?_)
set_option maxHeartbeats 8000000 in
set_option maxRecDepth 100000 in
theorem impl_isFile.calls (k : Nat) (a0_0 : Int) (a0_1 : Int) (a0_2 : Int) (a0_3 : ByteArray) (A0_4 : Option Addr) (c0_4 : Nat) (l0_4 : List (S96)) (A0_5 : Option Addr) (c0_5 : Nat) (l0_5 : List (S67)) (r : Bool) (w : World) (hr0_4 : Kd.C k96 w A0_4 l0_4.length l0_4) (hc0_4 : l0_4.length ≤ c0_4) (hr0_5 : Kd.C k67 w A0_5 l0_5.length l0_5) (hc0_5 : l0_5.length ≤ c0_5) (h : impl_isFile.f k a0_0 a0_1 a0_2 a0_3 l0_4 l0_5 = some r) :
  Calls Try.prog 101 #[.agg #[.int .i64 a0_0, .int .i64 a0_1, .int .i64 a0_2, .string a0_3, .slice A0_4 l0_4.length c0_4, .slice A0_5 l0_5.length c0_5]] w fun e w' => e = .returned (.bool r) ∧ Below w.heap.size w w' := by
 have hu64 := Try.underlying64
 have hu96 := Try.underlying96
 have HR0_4 := Aside0.mk hr0_4
 have HC0_4 := Aside0.mk hc0_4
 clear hr0_4 hc0_4
 have HR0_5 := Aside0.mk hr0_5
 have HC0_5 := Aside0.mk hc0_5
 clear hr0_5 hc0_5
 have HB := Aside0.mk (Below.refl w.heap.size w)
 have H : (impl_isFile.l0 k l0_4 (l0_4.length : Int) 0 a0_0 a0_1 a0_2 a0_3 l0_4 l0_5) = some r := h
 clear h
 have H' := Aside0.mk H
 clear H
 go_enter Try.func101, Try.ntmps101
 go_wp2_with (first | ((with_reducible refine gate_dst (N := 1) rfl ?_); (try (refine gate_guard (by rfl) ?_; dsimp only)); refine box_event ?hg (N := 1) ?hd (cs := #[.int .i64 a0_0, .int .i64 a0_1, .int .i64 a0_2, .string a0_3, .slice A0_4 l0_4.length c0_4, .slice A0_5 l0_5.length c0_5]) (t := 64) ?hr ?_; (case hd => rfl); (case hg => rfl); (case hr => first | (go_simp; done) | (go_simp; rfl)); intro gb292 hg w2 hbox hb; have z_ := p_ (below_step tq_0 hb) <| p_ (hbox) <| p_ (gb_ hg tq_0) <| a_ (gb_ hg tq_0); clear HB; obtain ⟨HB, BK292, GW292, GE292⟩ := z_; clear hb hbox hg; obtain ⟨hcz3_0, hcz3_1, hcz3_2, hcz3_3, hcz3_4, hcz3_5⟩ := bk6_ BK292.out; obtain ⟨hfz3_0, hfz3_1, hfz3_2, hfz3_3, hfz3_4, hfz3_5⟩ := bf6_ BK292.out))
 repeat (go_quiet (first | ((with_reducible refine gate_dst (N := 1) rfl ?_); (try (refine gate_guard (by rfl) ?_; dsimp only)); refine box_event ?hg (N := 1) ?hd (cs := #[.int .i64 a0_0, .int .i64 a0_1, .int .i64 a0_2, .string a0_3, .slice A0_4 l0_4.length c0_4, .slice A0_5 l0_5.length c0_5]) (t := 64) ?hr ?_; (case hd => rfl); (case hg => rfl); (case hr => first | (go_simp; done) | (go_simp; rfl)); intro gb292 hg w2 hbox hb; have z_ := p_ (below_step tq_0 hb) <| p_ (hbox) <| p_ (gb_ hg tq_0) <| a_ (gb_ hg tq_0); clear HB; obtain ⟨HB, BK292, GW292, GE292⟩ := z_; clear hb hbox hg; obtain ⟨hcz3_0, hcz3_1, hcz3_2, hcz3_3, hcz3_4, hcz3_5⟩ := bk6_ BK292.out; obtain ⟨hfz3_0, hfz3_1, hfz3_2, hfz3_3, hfz3_4, hfz3_5⟩ := bf6_ BK292.out)); try go_wp2_with (first | ((with_reducible refine gate_dst (N := 1) rfl ?_); (try (refine gate_guard (by rfl) ?_; dsimp only)); refine box_event ?hg (N := 1) ?hd (cs := #[.int .i64 a0_0, .int .i64 a0_1, .int .i64 a0_2, .string a0_3, .slice A0_4 l0_4.length c0_4, .slice A0_5 l0_5.length c0_5]) (t := 64) ?hr ?_; (case hd => rfl); (case hg => rfl); (case hr => first | (go_simp; done) | (go_simp; rfl)); intro gb292 hg w2 hbox hb; have z_ := p_ (below_step tq_0 hb) <| p_ (hbox) <| p_ (gb_ hg tq_0) <| a_ (gb_ hg tq_0); clear HB; obtain ⟨HB, BK292, GW292, GE292⟩ := z_; clear hb hbox hg; obtain ⟨hcz3_0, hcz3_1, hcz3_2, hcz3_3, hcz3_4, hcz3_5⟩ := bk6_ BK292.out; obtain ⟨hfz3_0, hfz3_1, hfz3_2, hfz3_3, hfz3_4, hfz3_5⟩ := bf6_ BK292.out)))
 go_loopg [8] k (fun kq v8 w' => ∃ (x8_1 : Int), v8 = .int .i64 x8_1 ∧ Aside0 (impl_isFile.l0 kq l0_4 (l0_4.length : Int) x8_1 a0_0 a0_1 a0_2 a0_3 l0_4 l0_5 = some r) ∧ Aside0 (kq ≤ k) ∧ Aside0 (w'.heap[gb292]? = some (.cells #[.int .i64 a0_0, .int .i64 a0_1, .int .i64 a0_2, .string a0_3, (.slice A0_4 l0_4.length c0_4), (.slice A0_5 l0_5.length c0_5)] 64 (0, 0))) ∧ Aside0 (Below w.heap.size w w'))
 case atStart => exact ⟨(0), tq_4, H', ⟨Nat.le_refl _⟩, ⟨tq_15⟩, ⟨tq_9⟩⟩
 case round =>
 clear H'
 try clear c1; try clear p2; try clear hcz3_0 hcz3_1 hcz3_2 hcz3_3 hcz3_4 hcz3_5 hfz3_0 hfz3_1 hfz3_2 hfz3_3 hfz3_4 hfz3_5
 obtain ⟨x8_1, rfl, HA, HK1, BK292, HB⟩ := hrel
 cases gk with
 | zero => exact absurd HA.out (by simp [impl_isFile.l0])
 | succ k1 =>
 have H := HA.out
 clear HA
 simp only [impl_isFile.l0] at H
 by_cases c4 : x8_1 < (l0_4.length : Int)
 rotate_left
 ·rw [if_neg c4] at H
  have c4b0 := decide_eq_false c4
  clear c4
  replace H := Option.bind_eq_some_iff.mp H
  obtain ⟨t293, A310, H⟩ := H
  replace H : (if t293 = true then (if (a0_3.size : Int) = 8 then ((impl_PagesFor.f a0_1).bind fun t294 => (if (l0_4.length : Int) = t294 then (some ((l0_5.length : Int) == 0)) else (some false))) else (some false)) else (some false)) = some r := H
  have A31 := Aside0.mk A310
  clear A310
  by_cases c32 : t293 = true
  rotate_left
  ·replace c32 := Bool.eq_false_iff.mpr c32
   subst c32
   have H1 : (some false) = some r := by rw [if_neg (show ¬ (false = true) by decide)] at H; exact H
   clear H
   have H := H1
   clear H1
   obtain rfl := Option.some.inj H
   obtain ⟨hcz39_0, hcz39_1, hcz39_2, hcz39_3, hcz39_4, hcz39_5⟩ := bk6_ BK292.out
   obtain ⟨hfz39_0, hfz39_1, hfz39_2, hfz39_3, hfz39_4, hfz39_5⟩ := bf6_ BK292.out
   go_wp2_with (first | (go_at_call 40; (with_reducible refine (impl_within.calls a0_1 0 128 false _ A31.out).mono ?_); rintro e w' ⟨rfl, ⟨nd, rfl⟩⟩; (try first | exact ⟨rfl, _, World.drewN_drewN _ _ _⟩ | exact ⟨rfl, _, Eq.trans (World.drewN_drewN _ _ _) (congrArg (World.drewN _) (Nat.add_assoc _ _ _))⟩)))
   repeat (go_quiet (first | (go_at_call 40; (with_reducible refine (impl_within.calls a0_1 0 128 false _ A31.out).mono ?_); rintro e w' ⟨rfl, ⟨nd, rfl⟩⟩; (try first | exact ⟨rfl, _, World.drewN_drewN _ _ _⟩ | exact ⟨rfl, _, Eq.trans (World.drewN_drewN _ _ _) (congrArg (World.drewN _) (Nat.add_assoc _ _ _))⟩))); try go_wp2_with (first | (go_at_call 40; (with_reducible refine (impl_within.calls a0_1 0 128 false _ A31.out).mono ?_); rintro e w' ⟨rfl, ⟨nd, rfl⟩⟩; (try first | exact ⟨rfl, _, World.drewN_drewN _ _ _⟩ | exact ⟨rfl, _, Eq.trans (World.drewN_drewN _ _ _) (congrArg (World.drewN _) (Nat.add_assoc _ _ _))⟩))))
   go_ret
   exact ⟨tq_2, tq_9⟩
  subst c32
  have H1 : (if (a0_3.size : Int) = 8 then ((impl_PagesFor.f a0_1).bind fun t294 => (if (l0_4.length : Int) = t294 then (some ((l0_5.length : Int) == 0)) else (some false))) else (some false)) = some r := by rw [if_pos rfl] at H; exact H
  clear H
  have H := H1
  clear H1
  by_cases c33 : (a0_3.size : Int) = 8
  rotate_left
  ·rw [if_neg c33] at H
   have c33b0 := beq_eq_false_iff_ne.mpr c33
   have c33b1 := bne_iff_ne.mpr c33
   obtain rfl := Option.some.inj H
   obtain ⟨hcz38_0, hcz38_1, hcz38_2, hcz38_3, hcz38_4, hcz38_5⟩ := bk6_ BK292.out
   obtain ⟨hfz38_0, hfz38_1, hfz38_2, hfz38_3, hfz38_4, hfz38_5⟩ := bf6_ BK292.out
   go_wp2_with (first | (go_at_call 40; (with_reducible refine (impl_within.calls a0_1 0 128 true _ A31.out).mono ?_); rintro e w' ⟨rfl, ⟨nd, rfl⟩⟩; (try first | exact ⟨rfl, _, World.drewN_drewN _ _ _⟩ | exact ⟨rfl, _, Eq.trans (World.drewN_drewN _ _ _) (congrArg (World.drewN _) (Nat.add_assoc _ _ _))⟩)))
   repeat (go_quiet (first | (go_at_call 40; (with_reducible refine (impl_within.calls a0_1 0 128 true _ A31.out).mono ?_); rintro e w' ⟨rfl, ⟨nd, rfl⟩⟩; (try first | exact ⟨rfl, _, World.drewN_drewN _ _ _⟩ | exact ⟨rfl, _, Eq.trans (World.drewN_drewN _ _ _) (congrArg (World.drewN _) (Nat.add_assoc _ _ _))⟩))); try go_wp2_with (first | (go_at_call 40; (with_reducible refine (impl_within.calls a0_1 0 128 true _ A31.out).mono ?_); rintro e w' ⟨rfl, ⟨nd, rfl⟩⟩; (try first | exact ⟨rfl, _, World.drewN_drewN _ _ _⟩ | exact ⟨rfl, _, Eq.trans (World.drewN_drewN _ _ _) (congrArg (World.drewN _) (Nat.add_assoc _ _ _))⟩))))
   go_ret
   exact ⟨tq_2, tq_9⟩
  rw [if_pos c33] at H
  have c33b0 := beq_iff_eq.mpr c33
  have c33b1 := bne_eq_false_iff_eq.mpr c33
  clear c33
  replace H := Option.bind_eq_some_iff.mp H
  obtain ⟨t294, A340, H⟩ := H
  replace H : (if (l0_4.length : Int) = t294 then (some ((l0_5.length : Int) == 0)) else (some false)) = some r := H
  have A34 := Aside0.mk A340
  clear A340
  by_cases c35 : (l0_4.length : Int) = t294
  rotate_left
  ·rw [if_neg c35] at H
   have c35b0 := beq_eq_false_iff_ne.mpr c35
   have c35b1 := bne_iff_ne.mpr c35
   obtain rfl := Option.some.inj H
   obtain ⟨hcz37_0, hcz37_1, hcz37_2, hcz37_3, hcz37_4, hcz37_5⟩ := bk6_ BK292.out
   obtain ⟨hfz37_0, hfz37_1, hfz37_2, hfz37_3, hfz37_4, hfz37_5⟩ := bf6_ BK292.out
   go_wp2_with (first | (go_at_call 40; (with_reducible refine (impl_within.calls a0_1 0 128 true _ A31.out).mono ?_); rintro e w' ⟨rfl, ⟨nd, rfl⟩⟩; (try first | exact ⟨rfl, _, World.drewN_drewN _ _ _⟩ | exact ⟨rfl, _, Eq.trans (World.drewN_drewN _ _ _) (congrArg (World.drewN _) (Nat.add_assoc _ _ _))⟩)) | (go_at_call 61; (with_reducible refine (impl_PagesFor.calls a0_1 t294 _ A34.out).mono ?_); rintro e w' ⟨rfl, ⟨nd, rfl⟩⟩; (try first | exact ⟨rfl, _, World.drewN_drewN _ _ _⟩ | exact ⟨rfl, _, Eq.trans (World.drewN_drewN _ _ _) (congrArg (World.drewN _) (Nat.add_assoc _ _ _))⟩)))
   repeat (go_quiet (first | (go_at_call 40; (with_reducible refine (impl_within.calls a0_1 0 128 true _ A31.out).mono ?_); rintro e w' ⟨rfl, ⟨nd, rfl⟩⟩; (try first | exact ⟨rfl, _, World.drewN_drewN _ _ _⟩ | exact ⟨rfl, _, Eq.trans (World.drewN_drewN _ _ _) (congrArg (World.drewN _) (Nat.add_assoc _ _ _))⟩)) | (go_at_call 61; (with_reducible refine (impl_PagesFor.calls a0_1 t294 _ A34.out).mono ?_); rintro e w' ⟨rfl, ⟨nd, rfl⟩⟩; (try first | exact ⟨rfl, _, World.drewN_drewN _ _ _⟩ | exact ⟨rfl, _, Eq.trans (World.drewN_drewN _ _ _) (congrArg (World.drewN _) (Nat.add_assoc _ _ _))⟩))); try go_wp2_with (first | (go_at_call 40; (with_reducible refine (impl_within.calls a0_1 0 128 true _ A31.out).mono ?_); rintro e w' ⟨rfl, ⟨nd, rfl⟩⟩; (try first | exact ⟨rfl, _, World.drewN_drewN _ _ _⟩ | exact ⟨rfl, _, Eq.trans (World.drewN_drewN _ _ _) (congrArg (World.drewN _) (Nat.add_assoc _ _ _))⟩)) | (go_at_call 61; (with_reducible refine (impl_PagesFor.calls a0_1 t294 _ A34.out).mono ?_); rintro e w' ⟨rfl, ⟨nd, rfl⟩⟩; (try first | exact ⟨rfl, _, World.drewN_drewN _ _ _⟩ | exact ⟨rfl, _, Eq.trans (World.drewN_drewN _ _ _) (congrArg (World.drewN _) (Nat.add_assoc _ _ _))⟩))))
   go_ret
   exact ⟨tq_2, tq_9⟩
  rw [if_pos c35] at H
  have c35b0 := beq_iff_eq.mpr c35
  have c35b1 := bne_eq_false_iff_eq.mpr c35
  clear c35
  obtain rfl := Option.some.inj H
  obtain ⟨hcz36_0, hcz36_1, hcz36_2, hcz36_3, hcz36_4, hcz36_5⟩ := bk6_ BK292.out
  obtain ⟨hfz36_0, hfz36_1, hfz36_2, hfz36_3, hfz36_4, hfz36_5⟩ := bf6_ BK292.out
  go_wp2_with (first | (go_at_call 40; (with_reducible refine (impl_within.calls a0_1 0 128 true _ A31.out).mono ?_); rintro e w' ⟨rfl, ⟨nd, rfl⟩⟩; (try first | exact ⟨rfl, _, World.drewN_drewN _ _ _⟩ | exact ⟨rfl, _, Eq.trans (World.drewN_drewN _ _ _) (congrArg (World.drewN _) (Nat.add_assoc _ _ _))⟩)) | (go_at_call 61; (with_reducible refine (impl_PagesFor.calls a0_1 t294 _ A34.out).mono ?_); rintro e w' ⟨rfl, ⟨nd, rfl⟩⟩; (try first | exact ⟨rfl, _, World.drewN_drewN _ _ _⟩ | exact ⟨rfl, _, Eq.trans (World.drewN_drewN _ _ _) (congrArg (World.drewN _) (Nat.add_assoc _ _ _))⟩)))
  repeat (go_quiet (first | (go_at_call 40; (with_reducible refine (impl_within.calls a0_1 0 128 true _ A31.out).mono ?_); rintro e w' ⟨rfl, ⟨nd, rfl⟩⟩; (try first | exact ⟨rfl, _, World.drewN_drewN _ _ _⟩ | exact ⟨rfl, _, Eq.trans (World.drewN_drewN _ _ _) (congrArg (World.drewN _) (Nat.add_assoc _ _ _))⟩)) | (go_at_call 61; (with_reducible refine (impl_PagesFor.calls a0_1 t294 _ A34.out).mono ?_); rintro e w' ⟨rfl, ⟨nd, rfl⟩⟩; (try first | exact ⟨rfl, _, World.drewN_drewN _ _ _⟩ | exact ⟨rfl, _, Eq.trans (World.drewN_drewN _ _ _) (congrArg (World.drewN _) (Nat.add_assoc _ _ _))⟩))); try go_wp2_with (first | (go_at_call 40; (with_reducible refine (impl_within.calls a0_1 0 128 true _ A31.out).mono ?_); rintro e w' ⟨rfl, ⟨nd, rfl⟩⟩; (try first | exact ⟨rfl, _, World.drewN_drewN _ _ _⟩ | exact ⟨rfl, _, Eq.trans (World.drewN_drewN _ _ _) (congrArg (World.drewN _) (Nat.add_assoc _ _ _))⟩)) | (go_at_call 61; (with_reducible refine (impl_PagesFor.calls a0_1 t294 _ A34.out).mono ?_); rintro e w' ⟨rfl, ⟨nd, rfl⟩⟩; (try first | exact ⟨rfl, _, World.drewN_drewN _ _ _⟩ | exact ⟨rfl, _, Eq.trans (World.drewN_drewN _ _ _) (congrArg (World.drewN _) (Nat.add_assoc _ _ _))⟩))))
  go_ret
  exact ⟨tq_2, tq_9⟩
 rw [if_pos c4] at H
 have c4b0 := decide_eq_true c4
 clear c4
 by_cases c5 : 0 ≤ x8_1
 rotate_left
 ·rw [if_neg c5] at H
  exact absurd H (by simp)
 rw [if_pos c5] at H
 have c5b0 := decide_eq_true c5
 clear c5
 by_cases c6 : x8_1 < (l0_4.length : Int)
 rotate_left
 ·rw [if_neg c6] at H
  exact absurd H (by simp)
 rw [if_pos c6] at H
 have c6b0 := decide_eq_true c6
 clear c6
 replace H := Option.bind_eq_some_iff.mp H
 obtain ⟨t297, A70, H⟩ := H
 replace H : (if t297.toList = ([] : List UInt8) then (some false) else (if x8_1 ≤ (l0_4.length : Int) then ((slices_ContainsFunc_Rec_g117.f (l0_4.take (x8_1 : Int).toNat) ((rd_T96 l0_4 x8_1).f0) ((rd_T96 l0_4 x8_1).f1) ((rd_T96 l0_4 x8_1).f2)).bind fun t302 => (if t302 = true then (some false) else (impl_isFile.l0 k1 l0_4 (l0_4.length : Int) (wrap64 (x8_1 + 1)) a0_0 a0_1 a0_2 a0_3 l0_4 l0_5))) else (none))) = some r := H
 have A7 := Aside0.mk A70
 clear A70
 by_cases c8 : t297.toList = ([] : List UInt8)
 ·rw [if_pos c8] at H
  have c8b0 := beq_iff_eq.mpr c8
  have c8b1 := bne_eq_false_iff_eq.mpr c8
  clear c8
  obtain rfl := Option.some.inj H
  have p295 : 0 ≤ (x8_1 : Int) := of_decide_eq_true tq_3
  have q295 : x8_1 < (l0_4.length : Int) := of_decide_eq_true tq_3
  obtain ⟨ad295, e295, hx295_0, hx295_1, hx295_2⟩ := at_T96 HR0_4.out x8_1 p295 q295
  cases e295
  replace hx295_0 := hx_ HB.out hx295_0
  replace hx295_1 := hx_ HB.out hx295_1
  replace hx295_2 := hx_ HB.out hx295_2
  replace p295 := eq_true p295
  replace q295 := eq_true q295
  go_wp2_with (first | ((with_reducible refine gate_dst (N := 4) rfl ?_); (try (refine gate_guard (by rfl) ?_; dsimp only)); refine box_event ?hg (N := 4) ?hd (cs := #[.int .i64 0, .int .i64 0, .string (⟨#[]⟩ : ByteArray)]) (t := 96) ?hr ?_; (case hd => rfl); (case hg => rfl); (case hr => first | (go_simp; done) | (go_simp; rfl)); intro gb296 hg w9 hbox hb; have z_ := p_ (blk_below tq_15 hb) <| p_ (below_step tq_9 hb) <| p_ (hbox) <| p_ (gb_ hg tq_9) <| p_ (gb_ hg tq_9) <| p_ (ltne_ hg (blk_lt tq_15)) <| a_ (gtne_ hg (blk_lt tq_15)); clear BK292 HB; obtain ⟨BK292, HB, BK296, GW296, GE296, NB292_296, NB296_292⟩ := z_; clear hb hbox hg; have hnb10 := NB296_292.out; have hnc10 := NB292_296.out; obtain ⟨hcz11_0, hcz11_1, hcz11_2⟩ := bk3_ BK296.out; obtain ⟨hfz11_0, hfz11_1, hfz11_2⟩ := bf3_ BK296.out) | (go_at_call 115; (with_reducible refine (impl_RecWord.calls k1 ((rd_T96 l0_4 x8_1).f0) ((rd_T96 l0_4 x8_1).f1) ((rd_T96 l0_4 x8_1).f2) t297 _ A7.out).mono ?_); rintro e w12 ⟨rfl, hb⟩; have z_ := p_ (blk_below (g := gb292) (o := .cells #[.int .i64 a0_0, .int .i64 a0_1, .int .i64 a0_2, .string a0_3, .slice (some ad295) l0_4.length c0_4, .slice A0_5 l0_5.length c0_5] 64 (0, 0)) tq_14 hb) <| p_ (blk_below (g := gb296) (o := .cells #[.int .i64 ((rd_T96 l0_4 x8_1).f0), .int .i64 ((rd_T96 l0_4 x8_1).f1), .string ((rd_T96 l0_4 x8_1).f2)] 96 (0, 0)) tq_6 hb) <| a_ (below_step tq_18 hb); clear BK292 BK296 HB; obtain ⟨BK292, BK296, HB⟩ := z_; (try clear hb); (try clear hb2); (try clear hk); (try clear hi)))
  repeat (go_quiet (first | ((with_reducible refine gate_dst (N := 4) rfl ?_); (try (refine gate_guard (by rfl) ?_; dsimp only)); refine box_event ?hg (N := 4) ?hd (cs := #[.int .i64 0, .int .i64 0, .string (⟨#[]⟩ : ByteArray)]) (t := 96) ?hr ?_; (case hd => rfl); (case hg => rfl); (case hr => first | (go_simp; done) | (go_simp; rfl)); intro gb296 hg w9 hbox hb; have z_ := p_ (blk_below tq_15 hb) <| p_ (below_step tq_9 hb) <| p_ (hbox) <| p_ (gb_ hg tq_9) <| p_ (gb_ hg tq_9) <| p_ (ltne_ hg (blk_lt tq_15)) <| a_ (gtne_ hg (blk_lt tq_15)); clear BK292 HB; obtain ⟨BK292, HB, BK296, GW296, GE296, NB292_296, NB296_292⟩ := z_; clear hb hbox hg; have hnb10 := NB296_292.out; have hnc10 := NB292_296.out; obtain ⟨hcz11_0, hcz11_1, hcz11_2⟩ := bk3_ BK296.out; obtain ⟨hfz11_0, hfz11_1, hfz11_2⟩ := bf3_ BK296.out) | (go_at_call 115; (with_reducible refine (impl_RecWord.calls k1 ((rd_T96 l0_4 x8_1).f0) ((rd_T96 l0_4 x8_1).f1) ((rd_T96 l0_4 x8_1).f2) t297 _ A7.out).mono ?_); rintro e w12 ⟨rfl, hb⟩; have z_ := p_ (blk_below (g := gb292) (o := .cells #[.int .i64 a0_0, .int .i64 a0_1, .int .i64 a0_2, .string a0_3, .slice (some ad295) l0_4.length c0_4, .slice A0_5 l0_5.length c0_5] 64 (0, 0)) tq_14 hb) <| p_ (blk_below (g := gb296) (o := .cells #[.int .i64 ((rd_T96 l0_4 x8_1).f0), .int .i64 ((rd_T96 l0_4 x8_1).f1), .string ((rd_T96 l0_4 x8_1).f2)] 96 (0, 0)) tq_6 hb) <| a_ (below_step tq_18 hb); clear BK292 BK296 HB; obtain ⟨BK292, BK296, HB⟩ := z_; (try clear hb); (try clear hb2); (try clear hk); (try clear hi))); try go_wp2_with (first | ((with_reducible refine gate_dst (N := 4) rfl ?_); (try (refine gate_guard (by rfl) ?_; dsimp only)); refine box_event ?hg (N := 4) ?hd (cs := #[.int .i64 0, .int .i64 0, .string (⟨#[]⟩ : ByteArray)]) (t := 96) ?hr ?_; (case hd => rfl); (case hg => rfl); (case hr => first | (go_simp; done) | (go_simp; rfl)); intro gb296 hg w9 hbox hb; have z_ := p_ (blk_below tq_15 hb) <| p_ (below_step tq_9 hb) <| p_ (hbox) <| p_ (gb_ hg tq_9) <| p_ (gb_ hg tq_9) <| p_ (ltne_ hg (blk_lt tq_15)) <| a_ (gtne_ hg (blk_lt tq_15)); clear BK292 HB; obtain ⟨BK292, HB, BK296, GW296, GE296, NB292_296, NB296_292⟩ := z_; clear hb hbox hg; have hnb10 := NB296_292.out; have hnc10 := NB292_296.out; obtain ⟨hcz11_0, hcz11_1, hcz11_2⟩ := bk3_ BK296.out; obtain ⟨hfz11_0, hfz11_1, hfz11_2⟩ := bf3_ BK296.out) | (go_at_call 115; (with_reducible refine (impl_RecWord.calls k1 ((rd_T96 l0_4 x8_1).f0) ((rd_T96 l0_4 x8_1).f1) ((rd_T96 l0_4 x8_1).f2) t297 _ A7.out).mono ?_); rintro e w12 ⟨rfl, hb⟩; have z_ := p_ (blk_below (g := gb292) (o := .cells #[.int .i64 a0_0, .int .i64 a0_1, .int .i64 a0_2, .string a0_3, .slice (some ad295) l0_4.length c0_4, .slice A0_5 l0_5.length c0_5] 64 (0, 0)) tq_14 hb) <| p_ (blk_below (g := gb296) (o := .cells #[.int .i64 ((rd_T96 l0_4 x8_1).f0), .int .i64 ((rd_T96 l0_4 x8_1).f1), .string ((rd_T96 l0_4 x8_1).f2)] 96 (0, 0)) tq_6 hb) <| a_ (below_step tq_18 hb); clear BK292 BK296 HB; obtain ⟨BK292, BK296, HB⟩ := z_; (try clear hb); (try clear hb2); (try clear hk); (try clear hi))))
  go_ret
  exact ⟨tq_2, tq_18⟩
 rw [if_neg c8] at H
 have c8b0 := beq_eq_false_iff_ne.mpr c8
 have c8b1 := bne_iff_ne.mpr c8
 have c13b0 := eq_true (of_decide_eq_true tq_3 : 0 ≤ x8_1)
 by_cases c14 : x8_1 ≤ (l0_4.length : Int)
 rotate_left
 ·rw [if_neg c14] at H
  exact absurd H (by simp)
 rw [if_pos c14] at H
 have c14b0 := eq_true c14
 have c14b1 := decide_eq_true c14
 clear c14
 obtain ⟨y298, hy298⟩ : ∃ y_ : List (S96), y_ = (l0_4.take (x8_1 : Int).toNat) := ⟨_, rfl⟩
 replace H : ((slices_ContainsFunc_Rec_g117.f y298 ((rd_T96 l0_4 x8_1).f0) ((rd_T96 l0_4 x8_1).f1) ((rd_T96 l0_4 x8_1).f2)).bind fun t302 => (if t302 = true then (some false) else (impl_isFile.l0 k1 l0_4 (l0_4.length : Int) (wrap64 (x8_1 + 1)) a0_0 a0_1 a0_2 a0_3 l0_4 l0_5))) = some r := by first | (rw [hy298]; with_reducible exact H) | (have H2_ := (Option.bind_some _ _).symm.trans H; rw [hy298]; with_reducible exact H2_) | (have H2_ := (Option.bind_some _ _).symm.trans H; with_reducible exact H2_) | with_reducible exact H | (rw [hy298]; exact H) | exact H
 have Ny298 := Aside0.mk hy298
 clear hy298
 replace H := Option.bind_eq_some_iff.mp H
 obtain ⟨t302, A150, H⟩ := H
 replace H : (if t302 = true then (some false) else (impl_isFile.l0 k1 l0_4 (l0_4.length : Int) (wrap64 (x8_1 + 1)) a0_0 a0_1 a0_2 a0_3 l0_4 l0_5)) = some r := H
 have A15 := Aside0.mk A150
 clear A150
 by_cases c16 : t302 = true
 ·subst c16
  have H1 : (some false) = some r := by rw [if_pos rfl] at H; exact H
  clear H
  have H := H1
  clear H1
  obtain rfl := Option.some.inj H
  have p295 : 0 ≤ (x8_1 : Int) := of_decide_eq_true tq_3
  have q295 : x8_1 < (l0_4.length : Int) := of_decide_eq_true tq_3
  obtain ⟨ad295, e295, hx295_0, hx295_1, hx295_2⟩ := at_T96 HR0_4.out x8_1 p295 q295
  cases e295
  replace hx295_0 := hx_ HB.out hx295_0
  replace hx295_1 := hx_ HB.out hx295_1
  replace hx295_2 := hx_ HB.out hx295_2
  replace p295 := eq_true p295
  replace q295 := eq_true q295
  go_wp2_with (first | ((with_reducible refine gate_dst (N := 4) rfl ?_); (try (refine gate_guard (by rfl) ?_; dsimp only)); refine box_event ?hg (N := 4) ?hd (cs := #[.int .i64 0, .int .i64 0, .string (⟨#[]⟩ : ByteArray)]) (t := 96) ?hr ?_; (case hd => rfl); (case hg => rfl); (case hr => first | (go_simp; done) | (go_simp; rfl)); intro gb296 hg w17 hbox hb; have z_ := p_ (blk_below tq_15 hb) <| p_ (below_step tq_9 hb) <| p_ (hbox) <| p_ (gb_ hg tq_9) <| p_ (gb_ hg tq_9) <| p_ (ltne_ hg (blk_lt tq_15)) <| a_ (gtne_ hg (blk_lt tq_15)); clear BK292 HB; obtain ⟨BK292, HB, BK296, GW296, GE296, NB292_296, NB296_292⟩ := z_; clear hb hbox hg; have hnb18 := NB296_292.out; have hnc18 := NB292_296.out; obtain ⟨hcz19_0, hcz19_1, hcz19_2⟩ := bk3_ BK296.out; obtain ⟨hfz19_0, hfz19_1, hfz19_2⟩ := bf3_ BK296.out) | (go_at_call 115; (with_reducible refine (impl_RecWord.calls k1 ((rd_T96 l0_4 x8_1).f0) ((rd_T96 l0_4 x8_1).f1) ((rd_T96 l0_4 x8_1).f2) t297 _ A7.out).mono ?_); rintro e w20 ⟨rfl, hb⟩; have z_ := p_ (blk_below (g := gb292) (o := .cells #[.int .i64 a0_0, .int .i64 a0_1, .int .i64 a0_2, .string a0_3, .slice (some ad295) l0_4.length c0_4, .slice A0_5 l0_5.length c0_5] 64 (0, 0)) tq_14 hb) <| p_ (blk_below (g := gb296) (o := .cells #[.int .i64 ((rd_T96 l0_4 x8_1).f0), .int .i64 ((rd_T96 l0_4 x8_1).f1), .string ((rd_T96 l0_4 x8_1).f2)] 96 (0, 0)) tq_6 hb) <| a_ (below_step tq_18 hb); clear BK292 BK296 HB; obtain ⟨BK292, BK296, HB⟩ := z_; (try clear hb); (try clear hb2); (try clear hk); (try clear hi); obtain ⟨hcz21_0, hcz21_1, hcz21_2, hcz21_3, hcz21_4, hcz21_5⟩ := bk6_ BK292.out; obtain ⟨hfz21_0, hfz21_1, hfz21_2, hfz21_3, hfz21_4, hfz21_5⟩ := bf6_ BK292.out; have q22 : (x8_1 : Int) ≤ ((l0_4.length : Int) : Int) := of_decide_eq_true tq_3; obtain ⟨i022, hi022, _, hsz22, _⟩ := info_parts info96; have hroom22 : l0_4.length ≤ c0_4 := HC0_4.out; have hC22 : Kd.C k96 _ (some ad295) l0_4.length l0_4 := HR0_4.out; have hcut22 := cut_to (P := Try.prog) 61 96 .i64 Try.underlying61 hi022 (some ad295) l0_4.length c0_4 x8_1 (of_decide_eq_true tq_3) q22 hroom22; have hr22 := Kd.C_take (m := (x8_1 : Int).toNat) hC22 (by omega); have hy22 : y298.length = (x8_1 : Int).toNat := tq_154; rw [← Ny298.out] at hr22; rw [← hy22] at hcut22; have HR301 := Aside0.mk hr22; have HC301 := Aside0.mk (show y298.length ≤ c0_4 from by omega); clear hr22 hC22 hroom22 hi022 hsz22; have KY22 := Aside0.mk hy22; clear hy22; replace q22 := eq_true q22) | (go_at_call 116; (with_reducible refine (slices_ContainsFunc_Rec_g117.calls _ _ y298 gb296 ((rd_T96 l0_4 x8_1).f0) ((rd_T96 l0_4 x8_1).f1) ((rd_T96 l0_4 x8_1).f2) true _ ?side1 ?side2 ?side3 A15.out).mono ?_); (case side1 => exact tq_76); (case side2 => exact HC301.out); (case side3 => (with_reducible repeat (first | refine blk_drewN ?_ _ | refine blk_drew ?_ | refine blk_alloc ?_ _)); exact BK296.out); rintro e w23 ⟨rfl, hb⟩; have z_ := p_ (blk_below tq_15 hb) <| p_ (blk_below tq_95 hb) <| a_ (below_step tq_18 hb); clear BK292 BK296 HB; obtain ⟨BK292, BK296, HB⟩ := z_; (try clear hb); (try clear hb2); (try clear hk); (try clear hi)))
  repeat (go_quiet (first | ((with_reducible refine gate_dst (N := 4) rfl ?_); (try (refine gate_guard (by rfl) ?_; dsimp only)); refine box_event ?hg (N := 4) ?hd (cs := #[.int .i64 0, .int .i64 0, .string (⟨#[]⟩ : ByteArray)]) (t := 96) ?hr ?_; (case hd => rfl); (case hg => rfl); (case hr => first | (go_simp; done) | (go_simp; rfl)); intro gb296 hg w17 hbox hb; have z_ := p_ (blk_below tq_15 hb) <| p_ (below_step tq_9 hb) <| p_ (hbox) <| p_ (gb_ hg tq_9) <| p_ (gb_ hg tq_9) <| p_ (ltne_ hg (blk_lt tq_15)) <| a_ (gtne_ hg (blk_lt tq_15)); clear BK292 HB; obtain ⟨BK292, HB, BK296, GW296, GE296, NB292_296, NB296_292⟩ := z_; clear hb hbox hg; have hnb18 := NB296_292.out; have hnc18 := NB292_296.out; obtain ⟨hcz19_0, hcz19_1, hcz19_2⟩ := bk3_ BK296.out; obtain ⟨hfz19_0, hfz19_1, hfz19_2⟩ := bf3_ BK296.out) | (go_at_call 115; (with_reducible refine (impl_RecWord.calls k1 ((rd_T96 l0_4 x8_1).f0) ((rd_T96 l0_4 x8_1).f1) ((rd_T96 l0_4 x8_1).f2) t297 _ A7.out).mono ?_); rintro e w20 ⟨rfl, hb⟩; have z_ := p_ (blk_below (g := gb292) (o := .cells #[.int .i64 a0_0, .int .i64 a0_1, .int .i64 a0_2, .string a0_3, .slice (some ad295) l0_4.length c0_4, .slice A0_5 l0_5.length c0_5] 64 (0, 0)) tq_14 hb) <| p_ (blk_below (g := gb296) (o := .cells #[.int .i64 ((rd_T96 l0_4 x8_1).f0), .int .i64 ((rd_T96 l0_4 x8_1).f1), .string ((rd_T96 l0_4 x8_1).f2)] 96 (0, 0)) tq_6 hb) <| a_ (below_step tq_18 hb); clear BK292 BK296 HB; obtain ⟨BK292, BK296, HB⟩ := z_; (try clear hb); (try clear hb2); (try clear hk); (try clear hi); obtain ⟨hcz21_0, hcz21_1, hcz21_2, hcz21_3, hcz21_4, hcz21_5⟩ := bk6_ BK292.out; obtain ⟨hfz21_0, hfz21_1, hfz21_2, hfz21_3, hfz21_4, hfz21_5⟩ := bf6_ BK292.out; have q22 : (x8_1 : Int) ≤ ((l0_4.length : Int) : Int) := of_decide_eq_true tq_3; obtain ⟨i022, hi022, _, hsz22, _⟩ := info_parts info96; have hroom22 : l0_4.length ≤ c0_4 := HC0_4.out; have hC22 : Kd.C k96 _ (some ad295) l0_4.length l0_4 := HR0_4.out; have hcut22 := cut_to (P := Try.prog) 61 96 .i64 Try.underlying61 hi022 (some ad295) l0_4.length c0_4 x8_1 (of_decide_eq_true tq_3) q22 hroom22; have hr22 := Kd.C_take (m := (x8_1 : Int).toNat) hC22 (by omega); have hy22 : y298.length = (x8_1 : Int).toNat := tq_154; rw [← Ny298.out] at hr22; rw [← hy22] at hcut22; have HR301 := Aside0.mk hr22; have HC301 := Aside0.mk (show y298.length ≤ c0_4 from by omega); clear hr22 hC22 hroom22 hi022 hsz22; have KY22 := Aside0.mk hy22; clear hy22; replace q22 := eq_true q22) | (go_at_call 116; (with_reducible refine (slices_ContainsFunc_Rec_g117.calls _ _ y298 gb296 ((rd_T96 l0_4 x8_1).f0) ((rd_T96 l0_4 x8_1).f1) ((rd_T96 l0_4 x8_1).f2) true _ ?side1 ?side2 ?side3 A15.out).mono ?_); (case side1 => exact tq_76); (case side2 => exact HC301.out); (case side3 => (with_reducible repeat (first | refine blk_drewN ?_ _ | refine blk_drew ?_ | refine blk_alloc ?_ _)); exact BK296.out); rintro e w23 ⟨rfl, hb⟩; have z_ := p_ (blk_below tq_15 hb) <| p_ (blk_below tq_95 hb) <| a_ (below_step tq_18 hb); clear BK292 BK296 HB; obtain ⟨BK292, BK296, HB⟩ := z_; (try clear hb); (try clear hb2); (try clear hk); (try clear hi))); try go_wp2_with (first | ((with_reducible refine gate_dst (N := 4) rfl ?_); (try (refine gate_guard (by rfl) ?_; dsimp only)); refine box_event ?hg (N := 4) ?hd (cs := #[.int .i64 0, .int .i64 0, .string (⟨#[]⟩ : ByteArray)]) (t := 96) ?hr ?_; (case hd => rfl); (case hg => rfl); (case hr => first | (go_simp; done) | (go_simp; rfl)); intro gb296 hg w17 hbox hb; have z_ := p_ (blk_below tq_15 hb) <| p_ (below_step tq_9 hb) <| p_ (hbox) <| p_ (gb_ hg tq_9) <| p_ (gb_ hg tq_9) <| p_ (ltne_ hg (blk_lt tq_15)) <| a_ (gtne_ hg (blk_lt tq_15)); clear BK292 HB; obtain ⟨BK292, HB, BK296, GW296, GE296, NB292_296, NB296_292⟩ := z_; clear hb hbox hg; have hnb18 := NB296_292.out; have hnc18 := NB292_296.out; obtain ⟨hcz19_0, hcz19_1, hcz19_2⟩ := bk3_ BK296.out; obtain ⟨hfz19_0, hfz19_1, hfz19_2⟩ := bf3_ BK296.out) | (go_at_call 115; (with_reducible refine (impl_RecWord.calls k1 ((rd_T96 l0_4 x8_1).f0) ((rd_T96 l0_4 x8_1).f1) ((rd_T96 l0_4 x8_1).f2) t297 _ A7.out).mono ?_); rintro e w20 ⟨rfl, hb⟩; have z_ := p_ (blk_below (g := gb292) (o := .cells #[.int .i64 a0_0, .int .i64 a0_1, .int .i64 a0_2, .string a0_3, .slice (some ad295) l0_4.length c0_4, .slice A0_5 l0_5.length c0_5] 64 (0, 0)) tq_14 hb) <| p_ (blk_below (g := gb296) (o := .cells #[.int .i64 ((rd_T96 l0_4 x8_1).f0), .int .i64 ((rd_T96 l0_4 x8_1).f1), .string ((rd_T96 l0_4 x8_1).f2)] 96 (0, 0)) tq_6 hb) <| a_ (below_step tq_18 hb); clear BK292 BK296 HB; obtain ⟨BK292, BK296, HB⟩ := z_; (try clear hb); (try clear hb2); (try clear hk); (try clear hi); obtain ⟨hcz21_0, hcz21_1, hcz21_2, hcz21_3, hcz21_4, hcz21_5⟩ := bk6_ BK292.out; obtain ⟨hfz21_0, hfz21_1, hfz21_2, hfz21_3, hfz21_4, hfz21_5⟩ := bf6_ BK292.out; have q22 : (x8_1 : Int) ≤ ((l0_4.length : Int) : Int) := of_decide_eq_true tq_3; obtain ⟨i022, hi022, _, hsz22, _⟩ := info_parts info96; have hroom22 : l0_4.length ≤ c0_4 := HC0_4.out; have hC22 : Kd.C k96 _ (some ad295) l0_4.length l0_4 := HR0_4.out; have hcut22 := cut_to (P := Try.prog) 61 96 .i64 Try.underlying61 hi022 (some ad295) l0_4.length c0_4 x8_1 (of_decide_eq_true tq_3) q22 hroom22; have hr22 := Kd.C_take (m := (x8_1 : Int).toNat) hC22 (by omega); have hy22 : y298.length = (x8_1 : Int).toNat := tq_154; rw [← Ny298.out] at hr22; rw [← hy22] at hcut22; have HR301 := Aside0.mk hr22; have HC301 := Aside0.mk (show y298.length ≤ c0_4 from by omega); clear hr22 hC22 hroom22 hi022 hsz22; have KY22 := Aside0.mk hy22; clear hy22; replace q22 := eq_true q22) | (go_at_call 116; (with_reducible refine (slices_ContainsFunc_Rec_g117.calls _ _ y298 gb296 ((rd_T96 l0_4 x8_1).f0) ((rd_T96 l0_4 x8_1).f1) ((rd_T96 l0_4 x8_1).f2) true _ ?side1 ?side2 ?side3 A15.out).mono ?_); (case side1 => exact tq_76); (case side2 => exact HC301.out); (case side3 => (with_reducible repeat (first | refine blk_drewN ?_ _ | refine blk_drew ?_ | refine blk_alloc ?_ _)); exact BK296.out); rintro e w23 ⟨rfl, hb⟩; have z_ := p_ (blk_below tq_15 hb) <| p_ (blk_below tq_95 hb) <| a_ (below_step tq_18 hb); clear BK292 BK296 HB; obtain ⟨BK292, BK296, HB⟩ := z_; (try clear hb); (try clear hb2); (try clear hk); (try clear hi))))
  go_ret
  exact ⟨tq_2, tq_18⟩
 replace c16 := Bool.eq_false_iff.mpr c16
 subst c16
 have H1 : (impl_isFile.l0 k1 l0_4 (l0_4.length : Int) (wrap64 (x8_1 + 1)) a0_0 a0_1 a0_2 a0_3 l0_4 l0_5) = some r := by rw [if_neg (show ¬ (false = true) by decide)] at H; exact H
 clear H
 have H := H1
 clear H1
 have H' := Aside0.mk H
 clear H
 have p295 : 0 ≤ (x8_1 : Int) := of_decide_eq_true tq_3
 have q295 : x8_1 < (l0_4.length : Int) := of_decide_eq_true tq_3
 obtain ⟨ad295, e295, hx295_0, hx295_1, hx295_2⟩ := at_T96 HR0_4.out x8_1 p295 q295
 cases e295
 replace hx295_0 := hx_ HB.out hx295_0
 replace hx295_1 := hx_ HB.out hx295_1
 replace hx295_2 := hx_ HB.out hx295_2
 replace p295 := eq_true p295
 replace q295 := eq_true q295
 go_wp2_with (first | ((with_reducible refine gate_dst (N := 4) rfl ?_); (try (refine gate_guard (by rfl) ?_; dsimp only)); refine box_event ?hg (N := 4) ?hd (cs := #[.int .i64 0, .int .i64 0, .string (⟨#[]⟩ : ByteArray)]) (t := 96) ?hr ?_; (case hd => rfl); (case hg => rfl); (case hr => first | (go_simp; done) | (go_simp; rfl)); intro gb296 hg w24 hbox hb; have z_ := p_ (blk_below tq_15 hb) <| p_ (below_step tq_9 hb) <| p_ (hbox) <| p_ (gb_ hg tq_9) <| p_ (gb_ hg tq_9) <| p_ (ltne_ hg (blk_lt tq_15)) <| a_ (gtne_ hg (blk_lt tq_15)); clear BK292 HB; obtain ⟨BK292, HB, BK296, GW296, GE296, NB292_296, NB296_292⟩ := z_; clear hb hbox hg; have hnb25 := NB296_292.out; have hnc25 := NB292_296.out; obtain ⟨hcz26_0, hcz26_1, hcz26_2⟩ := bk3_ BK296.out; obtain ⟨hfz26_0, hfz26_1, hfz26_2⟩ := bf3_ BK296.out) | (go_at_call 115; (with_reducible refine (impl_RecWord.calls k1 ((rd_T96 l0_4 x8_1).f0) ((rd_T96 l0_4 x8_1).f1) ((rd_T96 l0_4 x8_1).f2) t297 _ A7.out).mono ?_); rintro e w27 ⟨rfl, hb⟩; have z_ := p_ (blk_below (g := gb292) (o := .cells #[.int .i64 a0_0, .int .i64 a0_1, .int .i64 a0_2, .string a0_3, .slice (some ad295) l0_4.length c0_4, .slice A0_5 l0_5.length c0_5] 64 (0, 0)) tq_14 hb) <| p_ (blk_below (g := gb296) (o := .cells #[.int .i64 ((rd_T96 l0_4 x8_1).f0), .int .i64 ((rd_T96 l0_4 x8_1).f1), .string ((rd_T96 l0_4 x8_1).f2)] 96 (0, 0)) tq_6 hb) <| a_ (below_step tq_18 hb); clear BK292 BK296 HB; obtain ⟨BK292, BK296, HB⟩ := z_; (try clear hb); (try clear hb2); (try clear hk); (try clear hi); obtain ⟨hcz28_0, hcz28_1, hcz28_2, hcz28_3, hcz28_4, hcz28_5⟩ := bk6_ BK292.out; obtain ⟨hfz28_0, hfz28_1, hfz28_2, hfz28_3, hfz28_4, hfz28_5⟩ := bf6_ BK292.out; have q29 : (x8_1 : Int) ≤ ((l0_4.length : Int) : Int) := of_decide_eq_true tq_3; obtain ⟨i029, hi029, _, hsz29, _⟩ := info_parts info96; have hroom29 : l0_4.length ≤ c0_4 := HC0_4.out; have hC29 : Kd.C k96 _ (some ad295) l0_4.length l0_4 := HR0_4.out; have hcut29 := cut_to (P := Try.prog) 61 96 .i64 Try.underlying61 hi029 (some ad295) l0_4.length c0_4 x8_1 (of_decide_eq_true tq_3) q29 hroom29; have hr29 := Kd.C_take (m := (x8_1 : Int).toNat) hC29 (by omega); have hy29 : y298.length = (x8_1 : Int).toNat := tq_154; rw [← Ny298.out] at hr29; rw [← hy29] at hcut29; have HR301 := Aside0.mk hr29; have HC301 := Aside0.mk (show y298.length ≤ c0_4 from by omega); clear hr29 hC29 hroom29 hi029 hsz29; have KY29 := Aside0.mk hy29; clear hy29; replace q29 := eq_true q29) | (go_at_call 116; (with_reducible refine (slices_ContainsFunc_Rec_g117.calls _ _ y298 gb296 ((rd_T96 l0_4 x8_1).f0) ((rd_T96 l0_4 x8_1).f1) ((rd_T96 l0_4 x8_1).f2) false _ ?side1 ?side2 ?side3 A15.out).mono ?_); (case side1 => exact tq_76); (case side2 => exact HC301.out); (case side3 => (with_reducible repeat (first | refine blk_drewN ?_ _ | refine blk_drew ?_ | refine blk_alloc ?_ _)); exact BK296.out); rintro e w30 ⟨rfl, hb⟩; have z_ := p_ (blk_below tq_15 hb) <| p_ (blk_below tq_95 hb) <| a_ (below_step tq_18 hb); clear BK292 BK296 HB; obtain ⟨BK292, BK296, HB⟩ := z_; (try clear hb); (try clear hb2); (try clear hk); (try clear hi)))
 repeat (go_quiet (first | ((with_reducible refine gate_dst (N := 4) rfl ?_); (try (refine gate_guard (by rfl) ?_; dsimp only)); refine box_event ?hg (N := 4) ?hd (cs := #[.int .i64 0, .int .i64 0, .string (⟨#[]⟩ : ByteArray)]) (t := 96) ?hr ?_; (case hd => rfl); (case hg => rfl); (case hr => first | (go_simp; done) | (go_simp; rfl)); intro gb296 hg w24 hbox hb; have z_ := p_ (blk_below tq_15 hb) <| p_ (below_step tq_9 hb) <| p_ (hbox) <| p_ (gb_ hg tq_9) <| p_ (gb_ hg tq_9) <| p_ (ltne_ hg (blk_lt tq_15)) <| a_ (gtne_ hg (blk_lt tq_15)); clear BK292 HB; obtain ⟨BK292, HB, BK296, GW296, GE296, NB292_296, NB296_292⟩ := z_; clear hb hbox hg; have hnb25 := NB296_292.out; have hnc25 := NB292_296.out; obtain ⟨hcz26_0, hcz26_1, hcz26_2⟩ := bk3_ BK296.out; obtain ⟨hfz26_0, hfz26_1, hfz26_2⟩ := bf3_ BK296.out) | (go_at_call 115; (with_reducible refine (impl_RecWord.calls k1 ((rd_T96 l0_4 x8_1).f0) ((rd_T96 l0_4 x8_1).f1) ((rd_T96 l0_4 x8_1).f2) t297 _ A7.out).mono ?_); rintro e w27 ⟨rfl, hb⟩; have z_ := p_ (blk_below (g := gb292) (o := .cells #[.int .i64 a0_0, .int .i64 a0_1, .int .i64 a0_2, .string a0_3, .slice (some ad295) l0_4.length c0_4, .slice A0_5 l0_5.length c0_5] 64 (0, 0)) tq_14 hb) <| p_ (blk_below (g := gb296) (o := .cells #[.int .i64 ((rd_T96 l0_4 x8_1).f0), .int .i64 ((rd_T96 l0_4 x8_1).f1), .string ((rd_T96 l0_4 x8_1).f2)] 96 (0, 0)) tq_6 hb) <| a_ (below_step tq_18 hb); clear BK292 BK296 HB; obtain ⟨BK292, BK296, HB⟩ := z_; (try clear hb); (try clear hb2); (try clear hk); (try clear hi); obtain ⟨hcz28_0, hcz28_1, hcz28_2, hcz28_3, hcz28_4, hcz28_5⟩ := bk6_ BK292.out; obtain ⟨hfz28_0, hfz28_1, hfz28_2, hfz28_3, hfz28_4, hfz28_5⟩ := bf6_ BK292.out; have q29 : (x8_1 : Int) ≤ ((l0_4.length : Int) : Int) := of_decide_eq_true tq_3; obtain ⟨i029, hi029, _, hsz29, _⟩ := info_parts info96; have hroom29 : l0_4.length ≤ c0_4 := HC0_4.out; have hC29 : Kd.C k96 _ (some ad295) l0_4.length l0_4 := HR0_4.out; have hcut29 := cut_to (P := Try.prog) 61 96 .i64 Try.underlying61 hi029 (some ad295) l0_4.length c0_4 x8_1 (of_decide_eq_true tq_3) q29 hroom29; have hr29 := Kd.C_take (m := (x8_1 : Int).toNat) hC29 (by omega); have hy29 : y298.length = (x8_1 : Int).toNat := tq_154; rw [← Ny298.out] at hr29; rw [← hy29] at hcut29; have HR301 := Aside0.mk hr29; have HC301 := Aside0.mk (show y298.length ≤ c0_4 from by omega); clear hr29 hC29 hroom29 hi029 hsz29; have KY29 := Aside0.mk hy29; clear hy29; replace q29 := eq_true q29) | (go_at_call 116; (with_reducible refine (slices_ContainsFunc_Rec_g117.calls _ _ y298 gb296 ((rd_T96 l0_4 x8_1).f0) ((rd_T96 l0_4 x8_1).f1) ((rd_T96 l0_4 x8_1).f2) false _ ?side1 ?side2 ?side3 A15.out).mono ?_); (case side1 => exact tq_76); (case side2 => exact HC301.out); (case side3 => (with_reducible repeat (first | refine blk_drewN ?_ _ | refine blk_drew ?_ | refine blk_alloc ?_ _)); exact BK296.out); rintro e w30 ⟨rfl, hb⟩; have z_ := p_ (blk_below tq_15 hb) <| p_ (blk_below tq_95 hb) <| a_ (below_step tq_18 hb); clear BK292 BK296 HB; obtain ⟨BK292, BK296, HB⟩ := z_; (try clear hb); (try clear hb2); (try clear hk); (try clear hi))); try go_wp2_with (first | ((with_reducible refine gate_dst (N := 4) rfl ?_); (try (refine gate_guard (by rfl) ?_; dsimp only)); refine box_event ?hg (N := 4) ?hd (cs := #[.int .i64 0, .int .i64 0, .string (⟨#[]⟩ : ByteArray)]) (t := 96) ?hr ?_; (case hd => rfl); (case hg => rfl); (case hr => first | (go_simp; done) | (go_simp; rfl)); intro gb296 hg w24 hbox hb; have z_ := p_ (blk_below tq_15 hb) <| p_ (below_step tq_9 hb) <| p_ (hbox) <| p_ (gb_ hg tq_9) <| p_ (gb_ hg tq_9) <| p_ (ltne_ hg (blk_lt tq_15)) <| a_ (gtne_ hg (blk_lt tq_15)); clear BK292 HB; obtain ⟨BK292, HB, BK296, GW296, GE296, NB292_296, NB296_292⟩ := z_; clear hb hbox hg; have hnb25 := NB296_292.out; have hnc25 := NB292_296.out; obtain ⟨hcz26_0, hcz26_1, hcz26_2⟩ := bk3_ BK296.out; obtain ⟨hfz26_0, hfz26_1, hfz26_2⟩ := bf3_ BK296.out) | (go_at_call 115; (with_reducible refine (impl_RecWord.calls k1 ((rd_T96 l0_4 x8_1).f0) ((rd_T96 l0_4 x8_1).f1) ((rd_T96 l0_4 x8_1).f2) t297 _ A7.out).mono ?_); rintro e w27 ⟨rfl, hb⟩; have z_ := p_ (blk_below (g := gb292) (o := .cells #[.int .i64 a0_0, .int .i64 a0_1, .int .i64 a0_2, .string a0_3, .slice (some ad295) l0_4.length c0_4, .slice A0_5 l0_5.length c0_5] 64 (0, 0)) tq_14 hb) <| p_ (blk_below (g := gb296) (o := .cells #[.int .i64 ((rd_T96 l0_4 x8_1).f0), .int .i64 ((rd_T96 l0_4 x8_1).f1), .string ((rd_T96 l0_4 x8_1).f2)] 96 (0, 0)) tq_6 hb) <| a_ (below_step tq_18 hb); clear BK292 BK296 HB; obtain ⟨BK292, BK296, HB⟩ := z_; (try clear hb); (try clear hb2); (try clear hk); (try clear hi); obtain ⟨hcz28_0, hcz28_1, hcz28_2, hcz28_3, hcz28_4, hcz28_5⟩ := bk6_ BK292.out; obtain ⟨hfz28_0, hfz28_1, hfz28_2, hfz28_3, hfz28_4, hfz28_5⟩ := bf6_ BK292.out; have q29 : (x8_1 : Int) ≤ ((l0_4.length : Int) : Int) := of_decide_eq_true tq_3; obtain ⟨i029, hi029, _, hsz29, _⟩ := info_parts info96; have hroom29 : l0_4.length ≤ c0_4 := HC0_4.out; have hC29 : Kd.C k96 _ (some ad295) l0_4.length l0_4 := HR0_4.out; have hcut29 := cut_to (P := Try.prog) 61 96 .i64 Try.underlying61 hi029 (some ad295) l0_4.length c0_4 x8_1 (of_decide_eq_true tq_3) q29 hroom29; have hr29 := Kd.C_take (m := (x8_1 : Int).toNat) hC29 (by omega); have hy29 : y298.length = (x8_1 : Int).toNat := tq_154; rw [← Ny298.out] at hr29; rw [← hy29] at hcut29; have HR301 := Aside0.mk hr29; have HC301 := Aside0.mk (show y298.length ≤ c0_4 from by omega); clear hr29 hC29 hroom29 hi029 hsz29; have KY29 := Aside0.mk hy29; clear hy29; replace q29 := eq_true q29) | (go_at_call 116; (with_reducible refine (slices_ContainsFunc_Rec_g117.calls _ _ y298 gb296 ((rd_T96 l0_4 x8_1).f0) ((rd_T96 l0_4 x8_1).f1) ((rd_T96 l0_4 x8_1).f2) false _ ?side1 ?side2 ?side3 A15.out).mono ?_); (case side1 => exact tq_76); (case side2 => exact HC301.out); (case side3 => (with_reducible repeat (first | refine blk_drewN ?_ _ | refine blk_drew ?_ | refine blk_alloc ?_ _)); exact BK296.out); rintro e w30 ⟨rfl, hb⟩; have z_ := p_ (blk_below tq_15 hb) <| p_ (blk_below tq_95 hb) <| a_ (below_step tq_18 hb); clear BK292 BK296 HB; obtain ⟨BK292, BK296, HB⟩ := z_; (try clear hb); (try clear hb2); (try clear hk); (try clear hi))))
 go_roundg k1
 case measure => have := HK1.out; omega
 case rel => exact ⟨(wrap64 (x8_1 + 1)), tq_4, H', ⟨tq_93⟩, ⟨tq_15⟩, ⟨tq_18⟩⟩

end Go.Proofs.Ytljnnmpfeningaa.PFnExactPartOk
