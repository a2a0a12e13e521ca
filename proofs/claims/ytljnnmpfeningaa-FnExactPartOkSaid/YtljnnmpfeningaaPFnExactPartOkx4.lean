/- Contracts of Go functions, written by a program of ours over the print of the kit: each says that the call returns what the Lean function beside it computes. Conditions: as each theorem states them. -/
import Derived.Test.YtljnnmpfeningaaPkFnExactPartOk
import Derived.Test.YtljnnmpfeningaaPFnExactPartOkx0
import Derived.Test.YtljnnmpfeningaaPFnExactPartOkx1
import Derived.Test.YtljnnmpfeningaaPFnExactPartOkx2
import Derived.Test.YtljnnmpfeningaaPFnExactPartOkx3
namespace Go.Proofs.Ytljnnmpfeningaa.PFnExactPartOk
open Go.RowKit Go.Proofs.YtljnnmpfeningaaW.PrintWords Go.Proofs.YtljnnmpfeningaaW.PrintLast Go.Proofs.YtljnnmpfeningaaW.PrintMore
attribute [local go_sem] max2_int min2_int max_two min_two max_three min_three max_four min_four   -- for this text's walks alone
set_option linter.unusedVariables false
set_option linter.unusedSimpArgs false

/-! ### spec_EntryWord: function 69 -/
def spec_EntryWord.j0 : Nat → Bool → Int → ByteArray → Option (ByteArray)
 | 0, _, _, _ => none
 | k + 1, x12, x151000, x151001 => if x12 = true then (some (⟨#[]⟩ : ByteArray)) else ((spec_NumText.f k x151000 1).bind fun t153 => (if t153.size + x151001.size ≤ 9223372036854775807 then ((spec_WordText.f k (t153 ++ x151001)).bind fun t154 => (some t154)) else (none)))
def spec_EntryWord.f (k : Nat) (a0_0 : Int) (a0_1 : ByteArray) : Option (ByteArray) := (spec_l01In.f a0_0 1 5).bind fun t151 => (if t151 = true then ((spec_NameOk.f k a0_1).bind fun t152 => (spec_EntryWord.j0 k (!t152) a0_0 a0_1)) else (spec_EntryWord.j0 k true a0_0 a0_1))
theorem spec_EntryWord.mono_l : ∀ k, (∀ y0 y1 y2, LeO (spec_EntryWord.j0 k y0 y1 y2) (spec_EntryWord.j0 (k + 1) y0 y1 y2))
 | 0 => fun _ _ _ r h => by simp [spec_EntryWord.j0] at h
 | k + 1 => by
  have ih0 := spec_EntryWord.mono_l k
  ·intro y0 y1 y2
   unfold spec_EntryWord.j0
   repeat' first
   | (with_reducible exact ih0 ..)
   | (with_reducible exact spec_NameOk.mono ..)
   | (with_reducible exact spec_NumText.mono ..)
   | (with_reducible exact spec_WordText.mono ..)
   | (with_reducible exact LeO.refl _)
   | (with_reducible exact LeO.none _)
   | (with_reducible refine LeO.ite ?_ ?_)
   | (with_reducible refine LeO.bind ?_ (fun _ => ?_))
   | exact ih0 ..
   | exact spec_NameOk.mono ..
   | exact spec_NumText.mono ..
   | exact spec_WordText.mono ..
   | exact LeO.none _
   | refine LeO.ite ?_ ?_
   | refine LeO.bind ?_ (fun _ => ?_)
theorem spec_EntryWord.mono : ∀ a0 a1 k, LeO (spec_EntryWord.f k a0 a1) (spec_EntryWord.f (k + 1) a0 a1) := by
 intro a0 a1 k
 have ih0 := spec_EntryWord.mono_l k
 unfold spec_EntryWord.f
 repeat' first
   | (with_reducible exact ih0 ..)
   | (with_reducible exact spec_NameOk.mono ..)
   | (with_reducible exact spec_NumText.mono ..)
   | (with_reducible exact spec_WordText.mono ..)
   | (with_reducible exact LeO.refl _)
   | (with_reducible exact LeO.none _)
   | (with_reducible refine LeO.ite ?_ ?_)
   | (with_reducible refine LeO.bind ?_ (fun _ => ?_))
   | exact ih0 ..
   | exact spec_NameOk.mono ..
   | exact spec_NumText.mono ..
   | exact spec_WordText.mono ..
   | exact LeO.none _
   | refine LeO.ite ?_ ?_
   | refine LeO.bind ?_ (fun _ => ?_)
def spec_EntryWord.T3 : Bool × List (List Nat × List Nat) := (true, [([], []), ([0], [0]), ([1], [1]), ([], []), ([3], [3]), ([2, 4], [2, 4]), ([5, 2], [5]), ([6, 6, 0, 1, 2, 3, 4, 5, 6], [6])])
def spec_EntryWord.B3 : List Nat := [0, 1, 3, 0, 8, 31, 63, 127]
theorem spec_EntryWord.tab3 : rtab .any (opsOf Try.f69 3) = spec_EntryWord.T3 := by kernel_rfl
theorem spec_EntryWord.bits3 : waitsOk spec_EntryWord.T3.2 spec_EntryWord.B3 = true := by kernel_rfl
set_option maxHeartbeats 8000000 in
set_option maxRecDepth 100000 in
theorem spec_EntryWord.calls (k : Nat) (a0_0 : Int) (a0_1 : ByteArray) (r : ByteArray) (w : World) (h : spec_EntryWord.f k a0_0 a0_1 = some r) :
  Calls Try.prog 69 #[.agg #[.int .i64 a0_0, .string a0_1]] w fun e w' => e = .returned (.string r) ∧ Below w.heap.size w w' := by
 have hu67 := Try.underlying67
 have HB := Aside0.mk (Below.refl w.heap.size w)
 have H : ((spec_l01In.f a0_0 1 5).bind fun t151 => (if t151 = true then ((spec_NameOk.f k a0_1).bind fun t152 => (spec_EntryWord.j0 k (!t152) a0_0 a0_1)) else (spec_EntryWord.j0 k true a0_0 a0_1))) = some r := h
 clear h
 have HC2 := Aside0.mk H
 clear H
 go_enter Try.func69, Try.ntmps69
 go_upto_region 1 with (first | ((with_reducible refine gate_dst (N := 1) rfl ?_); refine box_event ?hg (N := 1) ?hd (cs := #[.int .i64 a0_0, .string a0_1]) (t := 67) ?hr ?_; (case hd => rfl); (case hg => rfl); (case hr => first | (go_simp; done) | (go_simp; rfl)); intro gb150 hg w3 hbox hb; have z_ := p_ (below_step tq_0 hb) <| p_ (hbox) <| p_ (gb_ hg tq_0) <| a_ (gb_ hg tq_0); clear HB; obtain ⟨HB, BK150, GW150, GE150⟩ := z_; clear hb hbox hg))
 (try simp only [Act.put, List.setIfInBounds_toArray, List.set_cons_zero, List.set_cons_succ])
 go_cut [12] (fun v12 wc => ∃ (kq : Nat) (x12_1 : Bool), v12 = .bool x12_1 ∧ Aside0 (spec_EntryWord.j0 kq x12_1 a0_0 a0_1 = some r) ∧ Aside0 (kq ≤ k) ∧ Aside0 (wc.heap[gb150]? = some (.cells #[.int .i64 a0_0, .string a0_1] 67 (0, 0))) ∧ Aside0 (Below w.heap.size w wc))
 case first =>
  have H := HC2.out
  clear HC2
  replace H := Option.bind_eq_some_iff.mp H
  obtain ⟨t151, A40, H⟩ := H
  replace H : (if t151 = true then ((spec_NameOk.f k a0_1).bind fun t152 => (spec_EntryWord.j0 k (!t152) a0_0 a0_1)) else (spec_EntryWord.j0 k true a0_0 a0_1)) = some r := H
  have A4 := Aside0.mk A40
  clear A40
  by_cases c5 : t151 = true
  rotate_left
  ·replace c5 := Bool.eq_false_iff.mpr c5
   subst c5
   have H1 : (spec_EntryWord.j0 k true a0_0 a0_1) = some r := by rw [if_neg (show ¬ (false = true) by decide)] at H; exact H
   clear H
   have H := H1
   clear H1
   have H' := Aside0.mk H
   clear H
   obtain ⟨hcz8_0, hcz8_1⟩ := bk2_ BK150.out
   obtain ⟨hfz8_0, hfz8_1⟩ := bf2_ BK150.out
   go_wp2_with (first | ((with_reducible refine gate_callee (f := 30) rfl ?_); refine goesL_ (some 5) rfl rfl Try.func30 (by kernel_rfl) rfl #[.int .i64 a0_0, .int .i64 1, .int .i64 5] rfl tq_1 ?_; (with_reducible refine (spec_l01In.calls a0_0 1 5 false _ A4.out).mono ?_); rintro e w' ⟨rfl, ⟨nd, rfl⟩⟩; refine ⟨_, rfl, ?_⟩))
   go_meet
   case rel => exact ⟨_, (true), tq_4, H', ⟨tq_59⟩, ⟨tq_127⟩, ⟨tq_80⟩⟩
  subst c5
  have H1 : ((spec_NameOk.f k a0_1).bind fun t152 => (spec_EntryWord.j0 k (!t152) a0_0 a0_1)) = some r := by rw [if_pos rfl] at H; exact H
  clear H
  have H := H1
  clear H1
  replace H := Option.bind_eq_some_iff.mp H
  obtain ⟨t152, A60, H⟩ := H
  replace H : (spec_EntryWord.j0 k (!t152) a0_0 a0_1) = some r := H
  have A6 := Aside0.mk A60
  clear A60
  have H' := Aside0.mk H
  clear H
  obtain ⟨hcz7_0, hcz7_1⟩ := bk2_ BK150.out
  obtain ⟨hfz7_0, hfz7_1⟩ := bf2_ BK150.out
  go_wp2_with (first | ((with_reducible refine gate_callee (f := 30) rfl ?_); refine goesL_ (some 5) rfl rfl Try.func30 (by kernel_rfl) rfl #[.int .i64 a0_0, .int .i64 1, .int .i64 5] rfl tq_1 ?_; (with_reducible refine (spec_l01In.calls a0_0 1 5 true _ A4.out).mono ?_); rintro e w' ⟨rfl, ⟨nd, rfl⟩⟩; refine ⟨_, rfl, ?_⟩) | (go_at_call 96; (with_reducible refine (spec_NameOk.calls k a0_1 t152 _ A6.out).mono ?_); rintro e w' ⟨rfl, ⟨nd, rfl⟩⟩))
  go_meet
  case rel => exact ⟨_, (!t152), tq_4, H', ⟨tq_59⟩, ⟨tq_127⟩, ⟨tq_80⟩⟩
 case rest =>
 clear HC2
 try clear p2; try clear c3; try clear c5; try clear c6; try clear hcz7_0 hcz7_1; try clear hcz8_0 hcz8_1; try clear hfz7_0 hfz7_1; try clear hfz8_0 hfz8_1
 obtain ⟨kq, x12_1, rfl, HA, HJ1, BK150, HB⟩ := hcut
 cases kq with
 | zero => exact absurd HA.out (by simp [spec_EntryWord.j0])
 | succ kj1 =>
 have H := HA.out
 clear HA
 simp only [spec_EntryWord.j0] at H
 by_cases c9 : x12_1 = true
 ·subst c9
  have H1 : (some (⟨#[]⟩ : ByteArray)) = some r := by rw [if_pos rfl] at H; exact H
  clear H
  have H := H1
  clear H1
  obtain rfl := Option.some.inj H
  go_wp2
  go_ret
  exact ⟨tq_2, tq_80⟩
 replace c9 := Bool.eq_false_iff.mpr c9
 subst c9
 have H1 : ((spec_NumText.f kj1 a0_0 1).bind fun t153 => (if t153.size + a0_1.size ≤ 9223372036854775807 then ((spec_WordText.f kj1 (t153 ++ a0_1)).bind fun t154 => (some t154)) else (none))) = some r := by rw [if_neg (show ¬ (false = true) by decide)] at H; exact H
 clear H
 have H := H1
 clear H1
 replace H := Option.bind_eq_some_iff.mp H
 obtain ⟨t153, A100, H⟩ := H
 replace H : (if t153.size + a0_1.size ≤ 9223372036854775807 then ((spec_WordText.f kj1 (t153 ++ a0_1)).bind fun t154 => (some t154)) else (none)) = some r := H
 have A10 := Aside0.mk A100
 clear A100
 by_cases c11 : t153.size + a0_1.size ≤ 9223372036854775807
 rotate_left
 ·rw [if_neg c11] at H
  exact absurd H (by simp)
 rw [if_pos c11] at H
 have c11b0 := eq_true c11
 have c11b1 := decide_eq_true c11
 try have c11b2 : (9223372036854775807 < t153.size + a0_1.size) = False := eq_false (Nat.not_lt.2 c11)
 replace H := Option.bind_eq_some_iff.mp H
 obtain ⟨t154, A120, H⟩ := H
 replace H : (some t154) = some r := H
 have A12 := Aside0.mk A120
 clear A120
 obtain rfl := Option.some.inj H
 try go_wp2
 have z_ := p_ (blk_drew BK150.out) <| a_ (below_drew1 HB.out)
 clear BK150 HB
 obtain ⟨BK150, HB⟩ := z_
 refine start_ (n := 8) (S := fun w' => w'.cell? ⟨gb150, 0, none⟩ = some (.int .i64 a0_0) ∧ w'.cell? ⟨gb150, 1, none⟩ = some (.string a0_1)) (ds := []) bq_71 (by kernel_rfl) rfl rfl (bk2_ BK150.out) (fun hHeld => ?_); refine with_tabW spec_EntryWord.tab3 spec_EntryWord.bits3 (fun HT_ HW_ => ?_)
 generalize wc.drew = w13 at BK150 HB hHeld ⊢
 refine yq_ (i := 0) (N := some 13) bq_72 (any_of HT_.out (by kernel_rfl)) ?_
 refine yq_ (i := 3) (N := some 16) bq_93 (any_of HT_.out (by kernel_rfl)) ?_
 refine tk_ (i := 1) (N := some 14) bq_94 (take_ofW HT_.out HW_.out (by kernel_rfl)) hHeld ?_
 refine tk_ (i := 4) (N := some 17) bq_95 (take_ofW HT_.out HW_.out (by kernel_rfl)) hHeld ?_
 refine one_ (i := 2) (N := some 15) #[true, true, true, true, true, false, false, false] rfl rfl (one_of HT_.out (by kernel_rfl)) (by decide) (fun K hK => ?_)
 refine goes_ Try.func95 (by kernel_rfl) rfl #[.int .i64 a0_0, .int .i64 1] (by rfl) rfl rfl tq_1 ?_
 with_reducible refine (spec_NumText.calls kj1 a0_0 1 t153 _ A10.out).mono ?_
 rintro e w14 ⟨rfl, hb⟩
 refine ⟨_, rfl, ?_⟩
 have z_ := p_ (blk_below tq_127 hb) <| a_ (below_step tq_80 hb)
 clear BK150 HB
 obtain ⟨BK150, HB⟩ := z_
 (try clear hb)
 (try clear hb2)
 (try clear hk)
 (try clear hi)
 refine hK.out _ _ (bk2_ BK150.out) (fun hHeld => ?_)
 clear hK K
 refine nm_ (some 15) ?_
 refine yq_ (i := 5) (N := some 18) bq_73 (any_of HT_.out (by kernel_rfl)) ?_
 refine one_ (i := 6) (N := some 19) bq_74 rfl rfl (one_of HT_.out (by kernel_rfl)) (by decide) (fun K hK => ?_)
 refine goes_ Try.func97 (by kernel_rfl) rfl #[.string (t153 ++ a0_1)] (by rfl) rfl rfl tq_1 ?_
 with_reducible refine (spec_WordText.calls kj1 (t153 ++ a0_1) t154 _ A12.out).mono ?_
 rintro e w15 ⟨rfl, hb⟩
 refine ⟨_, rfl, ?_⟩
 have z_ := p_ (blk_below tq_127 hb) <| a_ (below_step tq_80 hb)
 clear BK150 HB
 obtain ⟨BK150, HB⟩ := z_
 (try clear hb)
 (try clear hb2)
 (try clear hk)
 (try clear hi)
 refine hK.out _ _ (bk2_ BK150.out) (fun hHeld => ?_)
 clear hK K
 refine nm_ (some 19) ?_
 refine yq_ (i := 7) (N := some 2) bq_75 (any_of HT_.out (by kernel_rfl)) ?_
 refine done_ (done_of HT_.out (by kernel_rfl)) ?_
 try go_wp2
 go_ret
 exact ⟨tq_2, tq_80⟩

end Go.Proofs.Ytljnnmpfeningaa.PFnExactPartOk
