/- Contracts of Go functions, written by a program of ours over the print of the kit: each says that the call returns what the Lean function beside it computes. Conditions: as each theorem states them. -/
import Derived.Test.YtljnnmpfeningaaPkFnViews
import Derived.Test.YtljnnmpfeningaaPFnViewsx0
import Derived.Test.YtljnnmpfeningaaPFnViewsx2
import Derived.Test.YtljnnmpfeningaaPFnViewsx3
import Derived.Test.YtljnnmpfeningaaPFnViewsx4
import Derived.Test.YtljnnmpfeningaaPFnViewsx10
import Derived.Test.YtljnnmpfeningaaPFnViewsx14
namespace Go.Proofs.Ytljnnmpfeningaa.PFnViews
open Go.RowKit Go.Proofs.YtljnnmpfeningaaW.PrintWords Go.Proofs.YtljnnmpfeningaaW.PrintLast Go.Proofs.YtljnnmpfeningaaW.PrintMore
attribute [local go_sem] max2_int min2_int max_two min_two max_three min_three max_four min_four   -- for this text's walks alone
set_option linter.unusedVariables false
set_option linter.unusedSimpArgs false

/-! ### spec_l16Any: function 48 -/
def spec_l16Any.f (k : Nat) (s0_0 : List Int) (s0_1 : Int) (s0_2 : Int) (a1_0 : Int) (a1_1 : Int) (a1_2 : Int) (a1_3 : Int) : Option ((List (S44)) × Int × Int) := (spec_l16View.f k s0_0 s0_1 s0_2 a1_0 a1_1 a1_2 a1_3).bind fun bt689 => ((spec_l01Below.f s0_0 bt689.2.1 bt689.2.2 10).bind fun bt695 => (if bt695.1 = 0 then ((spec_l15Any.f s0_0 bt695.2.1 bt695.2.2).bind fun bt698 => ((spec_l01Once.f s0_0 bt698.2.1 bt698.2.2 2).bind fun bt701 => (if bt689.1.length < 3518437208883 then (some ((bt689.1 ++ [(⟨bt698.1, bt701.1, (⟨#[]⟩ : ByteArray)⟩ : S44)]), bt701.2.1, bt701.2.2)) else (none)))) else (if bt695.1 = 1 then ((spec_l15Path.f s0_0 bt695.2.1 bt695.2.2).bind fun bt707 => ((spec_l01PickInt.f s0_0 bt707.2.1 bt707.2.2 (([128, 129, 33] : List Int))).bind fun bt713 => ((spec_l01Long.f k bt713.1 97).bind fun t716 => ((spec_PutItem.f k bt689.1 bt707.1 false t716).bind fun t717 => (some (t717, bt713.2.1, bt713.2.2)))))) else (if bt695.1 = 2 then ((spec_DropItem.f k bt689.1 (⟨#[47, 97]⟩ : ByteArray)).bind fun t720 => (some (t720, bt695.2.1, bt695.2.2))) else (some (bt689.1, bt695.2.1, bt695.2.2))))))
theorem spec_l16Any.mono : ∀ a0 a1 a2 a3 a4 a5 a6 k, LeO (spec_l16Any.f k a0 a1 a2 a3 a4 a5 a6) (spec_l16Any.f (k + 1) a0 a1 a2 a3 a4 a5 a6) := by
 intro a0 a1 a2 a3 a4 a5 a6 k
 unfold spec_l16Any.f
 repeat' first
   | (with_reducible exact spec_DropItem.mono ..)
   | (with_reducible exact spec_PutItem.mono ..)
   | (with_reducible exact spec_l01Long.mono ..)
   | (with_reducible exact spec_l16View.mono ..)
   | (with_reducible exact LeO.refl _)
   | (with_reducible exact LeO.none _)
   | (with_reducible refine LeO.ite ?_ ?_)
   | (with_reducible refine LeO.bind ?_ (fun _ => ?_))
   | exact spec_DropItem.mono ..
   | exact spec_PutItem.mono ..
   | exact spec_l01Long.mono ..
   | exact spec_l16View.mono ..
   | exact LeO.none _
   | refine LeO.ite ?_ ?_
   | refine LeO.bind ?_ (fun _ => ?_)
def spec_l16Any.T4 : Bool × List (List Nat × List Nat) := (true, [([], []), ([0], [0]), ([], []), ([2], [2]), ([], []), ([4, 3], [4]), ([3, 5], [3, 5]), ([6], [6]), ([1, 7, 5], [1, 7]), ([0, 1, 2, 3, 4, 5, 6, 7, 8], []), ([9, 8, 8, 0, 1, 2, 3, 4, 5, 6, 7, 8], [8, 9])])
def spec_l16Any.B4 : List Nat := [0, 1, 0, 4, 0, 28, 60, 124, 255, 511, 1023]
theorem spec_l16Any.tab4 : rtab .any (opsOf Try.f48 4) = spec_l16Any.T4 := by kernel_rfl
theorem spec_l16Any.bits4 : waitsOk spec_l16Any.T4.2 spec_l16Any.B4 = true := by kernel_rfl
def spec_l16Any.T6 : Bool × List (List Nat × List Nat) := (true, [([], []), ([], []), ([1], [1]), ([], []), ([], []), ([3, 4, 2], [3, 4]), ([5, 5], [5]), ([2, 6], [2, 6]), ([0, 7, 6], [0, 7]), ([8, 8, 0, 1, 2, 3, 4, 5, 6, 7, 8], [8])])
def spec_l16Any.B6 : List Nat := [0, 0, 2, 0, 0, 30, 62, 126, 255, 511]
theorem spec_l16Any.tab6 : rtab .any (opsOf Try.f48 6) = spec_l16Any.T6 := by kernel_rfl
theorem spec_l16Any.bits6 : waitsOk spec_l16Any.T6.2 spec_l16Any.B6 = true := by kernel_rfl
set_option maxHeartbeats 8000000 in
set_option maxRecDepth 100000 in
theorem spec_l16Any.calls (k : Nat) (g : Nat) (s0_0 : List Int) (s0_1 : Int) (s0_2 : Int) (a1_0 : Int) (a1_1 : Int) (a1_2 : Int) (a1_3 : Int) (r1 : List (S44)) (r2 : Int) (r3 : Int) (w0 w : World) (hI : IsS105 w0 w g s0_0 s0_1 s0_2) (hB : Below w0.heap.size w0 w) (h : spec_l16Any.f k s0_0 s0_1 s0_2 a1_0 a1_1 a1_2 a1_3 = some (r1, r2, r3)) :
  Calls Try.prog 48 #[.pointer (some ⟨g, 0, none⟩), .agg #[.int .i64 a1_0, .int .i64 a1_1, .int .i64 a1_2, .int .i64 a1_3]] w fun e w' => ∃ v0_ : Value, e = .returned (.agg #[v0_]) ∧ Kd.R k44 44 w' w.heap.size (fun _ => True) v0_ r1 ∧ IsS105 w0 w' g s0_0 r2 r3 ∧ Below w0.heap.size w0 w' ∧ KeepBut w w' g none := by
 have hu30 := Try.underlying30
 have hu42 := Try.underlying42
 have hu44 := Try.underlying44
 have HI0 := Aside0.mk hI
 have HK := Aside0.mk (KeepBut.refl w g none)
 have HL := Aside0.mk hB.size
 clear hI
 have HW0 := Aside0.mk hB.size
 have HB := Aside0.mk hB
 clear hB
 unfold spec_l16Any.f at h
 have H := h
 clear h
 obtain ⟨⟨t689, t692, t693⟩, A3, H⟩ := bd_ H
 try dsimp -simprocs only at H
 obtain ⟨⟨t695, t696, t697⟩, A4, H⟩ := bd_ H
 try dsimp -simprocs only at H
 have HC5 := Aside0.mk H
 clear H
 go_enter Try.func48, Try.ntmps48
 go_upto_if 11 with (first | ((with_reducible refine gate_dst (N := 3) rfl ?_); refine be_ 3 (cs := #[.int .i64 a1_0, .int .i64 a1_1, .int .i64 a1_2, .int .i64 a1_3]) 30 ?_; intro gb687 hg w6 hbox hb; have z_ := p_ (IsS105.below tq_4 hb) <| p_ (KeepBut.trans tq_2 (KeepBut.of_below hb g none) (.inl rfl)) <| p_ (below_step tq_12 hb) <| p_ (hbox) <| p_ ((by rw [hg]; exact (keep_size (w := w) (g := g) (row := none) tq_2) : w.heap.size ≤ gb687)) <| p_ ((Nat.le_trans HW0.out (by rw [hg]; exact (keep_size (w := w) (g := g) (row := none) tq_2) : w.heap.size ≤ gb687) : w0.heap.size ≤ gb687)) <| p_ ((by rw [hg]; exact Nat.ne_of_lt (IsS105.lt (show IsS105 w0 _ g s0_0 s0_1 s0_2 from tq_4)) : g ≠ gb687)) <| a_ ((by rw [hg]; exact Nat.ne_of_gt (IsS105.lt (show IsS105 w0 _ g s0_0 s0_1 s0_2 from tq_4)) : gb687 ≠ g)); clear HI0 HK HB; obtain ⟨HI0, HK, HB, BK687, GW687, GE687, NB0_687, NB687_0⟩ := z_; clear hb hbox hg) | ((with_reducible refine gate_dst (N := 4) rfl ?_); refine be_ 4 (cs := #[.slice none 0 0]) 42 ?_; intro gb688 hg w7 hbox hb; have z_ := p_ (IsS105.below tq_65 hb) <| p_ (blk_below (kb_ BK687) hb) <| p_ (KeepBut.trans tq_70 (KeepBut.of_below hb g none) (.inl rfl)) <| p_ (below_step (by repeat (first | (with_reducible first | exact HB.out | apply below_alloc | apply pw_below_drewN | apply below_drew1 | refine below_set ?_ (IsS105.ge HI0.out) | refine below_set ?_ GE687.out) | exact HB.out)) hb) <| p_ (hbox) <| p_ ((by rw [hg]; exact (keep_size (w := w) (g := g) (row := none) tq_70) : w.heap.size ≤ gb688)) <| p_ ((Nat.le_trans HW0.out (by rw [hg]; exact (keep_size (w := w) (g := g) (row := none) tq_70) : w.heap.size ≤ gb688) : w0.heap.size ≤ gb688)) <| p_ (ltne_ hg (blk_lt (kb_ BK687))) <| p_ (gtne_ hg (blk_lt (kb_ BK687))) <| p_ ((by rw [hg]; exact Nat.ne_of_lt (IsS105.lt (show IsS105 w0 _ g s0_0 s0_1 s0_2 from tq_65)) : g ≠ gb688)) <| a_ ((by rw [hg]; exact Nat.ne_of_gt (IsS105.lt (show IsS105 w0 _ g s0_0 s0_1 s0_2 from tq_65)) : gb688 ≠ g)); clear HI0 BK687 HK HB; obtain ⟨HI0, BK687, HK, HB, BK688, GW688, GE688, NB687_688, NB688_687, NB0_688, NB688_0⟩ := z_; clear hb hbox hg; obtain ⟨n687_688, n688_687, n687_0, n0_687⟩ := an4_ NB687_688 NB688_687 NB687_0 NB0_687; obtain ⟨hcz10_0, hcz10_1, hcz10_2, hcz10_3⟩ := bk4_ BK687.out; obtain ⟨hfz10_0, hfz10_1, hfz10_2, hfz10_3⟩ := bf4_ BK687.out) | ((with_reducible refine gate_callee (f := 80) rfl ?_); refine goesL_ (some 8) rfl rfl Try.func80 (by kernel_rfl) rfl #[.pointer (some ⟨g, 0, none⟩), .agg #[.int .i64 a1_0, .int .i64 a1_1, .int .i64 a1_2, .int .i64 a1_3]] rfl tq_0 ?_; (with_reducible refine (spec_l16View.calls k g s0_0 s0_1 s0_2 a1_0 a1_1 a1_2 a1_3 t689 t692 t693 w0 _ ?side1 ?side2 A3.out).mono ?_); (case side1 => repeat (first | (with_reducible first | exact HI0.out | apply IsS105.alloc | apply IsS105.drewN | apply IsS105.drew | apply IsS105.set_1 | apply IsS105.set_2 | refine IsS105.far ?_ NB0_687.out _ | refine IsS105.far ?_ NB0_688.out _) | exact HI0.out)); (case side2 => repeat (first | (with_reducible first | exact HB.out | apply below_alloc | apply pw_below_drewN | apply below_drew1 | refine below_set ?_ (IsS105.ge HI0.out) | refine below_set ?_ GE687.out | refine below_set ?_ GE688.out) | exact HB.out)); rintro e w11 ⟨v690, rfl, ho0, hi, hb, hk⟩; refine ⟨_, rfl, ?_⟩; have z_ := p_ (KeepBut.blk hk (g' := gb687) (o := .cells #[.int .i64 a1_0, .int .i64 a1_1, .int .i64 a1_2, .int .i64 a1_3] 30 (0, 0)) (kb_ BK687) NB687_0.out (by simp)) <| p_ (KeepBut.blk hk (g' := gb688) (o := .cells #[.slice none 0 0] 42 (0, 0)) (kb_ BK688) NB688_0.out (by simp)) <| p_ (Kd.R_lower ho0 (keep_size (w := w) (g := g) (row := none) tq_42)) <| p_ (KeepBut.trans tq_42 hk (.inl rfl)) <| p_ (hb) <| a_ (hi); clear BK687 BK688 HK HB HI0; obtain ⟨BK687, BK688, HO691, HK, HB, HI0⟩ := z_; (try clear hb); (try clear hk); (try clear hi); (try clear ho0)) | ((with_reducible refine gate_dst (N := 5) rfl ?_); refine be_ 5 (cs := #[.slice none 0 0]) 42 ?_; intro gb694 hg w12 hbox hb; have z_ := p_ (Kd.R_below (raR_ HO691) hb) <| p_ (IsS105.below tq_58 hb) <| p_ (blk_below (kb_ BK687) hb) <| p_ (blk_below (kb_ BK688) hb) <| p_ (KeepBut.trans tq_42 (KeepBut.of_below hb g none) (.inl rfl)) <| p_ (below_step (by repeat (first | (with_reducible first | exact HB.out | apply below_alloc | apply pw_below_drewN | apply below_drew1 | refine below_set ?_ (IsS105.ge HI0.out) | refine below_set ?_ GE687.out | refine below_set ?_ GE688.out) | exact HB.out)) hb) <| p_ (hbox) <| p_ ((by rw [hg]; exact (keep_size (w := w) (g := g) (row := none) tq_42) : w.heap.size ≤ gb694)) <| p_ ((Nat.le_trans HW0.out (by rw [hg]; exact (keep_size (w := w) (g := g) (row := none) tq_42) : w.heap.size ≤ gb694) : w0.heap.size ≤ gb694)) <| p_ (ltne_ hg (blk_lt (kb_ BK687))) <| p_ (gtne_ hg (blk_lt (kb_ BK687))) <| p_ (ltne_ hg (blk_lt (kb_ BK688))) <| p_ (gtne_ hg (blk_lt (kb_ BK688))) <| p_ ((by rw [hg]; exact Nat.ne_of_lt (IsS105.lt (show IsS105 w0 _ g s0_0 t692 t693 from tq_58)) : g ≠ gb694)) <| a_ ((by rw [hg]; exact Nat.ne_of_gt (IsS105.lt (show IsS105 w0 _ g s0_0 t692 t693 from tq_58)) : gb694 ≠ g)); clear HO691 HI0 BK687 BK688 HK HB; obtain ⟨HO691, HI0, BK687, BK688, HK, HB, BK694, GW694, GE694, NB687_694, NB694_687, NB688_694, NB694_688, NB0_694, NB694_0⟩ := z_; clear hb hbox hg; obtain ⟨Ao13, co13, eo13⟩ := Kd.R_slice HO691.out; subst eo13; obtain ⟨n694_687, n687_694, n694_688, n688_694, hnb16, hnc16⟩ := an6_ NB694_687 NB687_694 NB694_688 NB688_694 NB694_0 NB0_694; have hcz17_0 := bc_ BK694.out 0; have hfz17_0 := blk_frozen BK694.out 0) | ((with_reducible refine gate_callee (f := 53) rfl ?_); refine goesL_ (some 10) rfl rfl Try.func53 (by kernel_rfl) rfl #[.pointer (some ⟨g, 0, none⟩), .int .i64 10] rfl tq_0 ?_; (with_reducible refine (spec_l01Below.calls g s0_0 t692 t693 10 t695 t696 t697 w0 _ ?side1 ?side2 A4.out).mono ?_); (case side1 => exact tq_27); (case side2 => exact tq_31); rintro e w18 ⟨rfl, hi, hb, hk⟩; refine ⟨_, rfl, ?_⟩; have z_ := p_ (KeepBut.blk hk (g' := gb687) (o := .cells #[.int .i64 a1_0, .int .i64 a1_1, .int .i64 a1_2, .int .i64 a1_3] 30 (0, 0)) (by (with_reducible repeat (first | refine blk_drewN ?_ _ | refine blk_drew ?_ | refine blk_alloc ?_ _)); refine blk_far ?_ NB687_694.out _; (with_reducible repeat (first | refine blk_drewN ?_ _ | refine blk_drew ?_ | refine blk_alloc ?_ _)); exact BK687.out) NB687_0.out (by simp)) <| p_ (KeepBut.blk hk (g' := gb688) (o := .cells #[.slice none 0 0] 42 (0, 0)) (by (with_reducible repeat (first | refine blk_drewN ?_ _ | refine blk_drew ?_ | refine blk_alloc ?_ _)); refine blk_far ?_ NB688_694.out _; (with_reducible repeat (first | refine blk_drewN ?_ _ | refine blk_drew ?_ | refine blk_alloc ?_ _)); exact BK688.out) NB688_0.out (by simp)) <| p_ (Kd.R_mono (Kd.R_keep (IsS105.apart (show IsS105 w0 _ g s0_0 t692 t693 from tq_7) (by (with_reducible repeat (first | apply Kd.R_alloc | apply Kd.R_drewN | apply Kd.R_drew)); exact (Kd.R_mono (rR_ (Kd.R_types HO691.out BK694.out (by decide))) (fun _ h_ => h_.1))) (by decide)) hk (fun _ h => h.2)) (fun _ h => h.1)) <| p_ (KeepBut.blk hk (g' := gb694) (o := .cells #[.slice Ao13 t689.length co13] 42 (0, 0)) (by (with_reducible repeat (first | refine blk_drewN ?_ _ | refine blk_drew ?_ | refine blk_alloc ?_ _)); refine blk_put (cs := #[.slice none 0 0]) ?_ 0 _ rfl; (with_reducible repeat (first | refine blk_drewN ?_ _ | refine blk_drew ?_ | refine blk_alloc ?_ _)); exact BK694.out) NB694_0.out (by simp)) <| p_ (KeepBut.trans tq_8 hk (.inl rfl)) <| p_ (hb) <| a_ (hi); clear BK687 BK688 HO691 BK694 HK HB HI0; obtain ⟨BK687, BK688, HO691, BK694, HK, HB, HI0⟩ := z_; (try clear hb); (try clear hk); (try clear hi)))
 (try simp only [Act.put, List.setIfInBounds_toArray, List.set_cons_zero, List.set_cons_succ])
 (try clear n0_687 n687_0 n687_688 n687_694 n688_687 n688_694 n694_687 n694_688)
 (try clear hcz10_0 hcz10_1 hcz10_2 hcz10_3)
 (try clear hcz17_0)
 (try clear hfz10_0 hfz10_1 hfz10_2 hfz10_3)
 (try clear hfz17_0)
 have H := HC5.out
 clear HC5
 by_cases c19 : t695 = 0
 ·rw [if_pos c19] at H
  have c19b0 := beq_iff_eq.mpr c19
  have c19b1 := bne_eq_false_iff_eq.mpr c19
  clear c19
  (first | rw [c19b0] | (simp only [i64_w, i32_w]; rw [c19b0]) | skip)
  obtain ⟨⟨t698, t699, t700⟩, A20, H⟩ := bd_ H
  try dsimp -simprocs only at H
  obtain ⟨⟨t701, t702, t703⟩, A21, H⟩ := bd_ H
  try dsimp -simprocs only at H
  obtain ⟨c22, H⟩ := fc_ H
  have LMc22 := Aside0.mk c22
  clear c22
  obtain ⟨y704, hy704⟩ : ∃ y_ : List (S44), y_ = (t689 ++ [(⟨t698, t701, (⟨#[]⟩ : ByteArray)⟩ : S44)]) := ⟨_, rfl⟩
  replace H : (some (y704, t702, t703)) = some (r1, r2, r3) := by first | (rw [hy704]; with_reducible exact H) | (have H2_ := (Option.bind_some _ _).symm.trans H; rw [hy704]; with_reducible exact H2_) | (have H2_ := (Option.bind_some _ _).symm.trans H; with_reducible exact H2_) | with_reducible exact H | (rw [hy704]; exact H) | exact H
  have Ny704 := Aside0.mk hy704
  clear hy704
  simp only [Option.some.injEq, Prod.mk.injEq] at H
  obtain ⟨rfl, rfl, rfl⟩ := H
  try go_wp2
  have z_ := p_ (Kd.R_drew HO691.out) <| p_ (blk_drew BK687.out) <| p_ (blk_drew BK688.out) <| p_ (blk_drew BK694.out) <| p_ (IsS105.drew HI0.out) <| p_ (keep_drew HK.out) <| a_ (below_drew1 HB.out)
  clear HO691 BK687 BK688 BK694 HI0 HK HB
  obtain ⟨HO691, BK687, BK688, BK694, HI0, HK, HB⟩ := z_
  refine start_ (n := 11) (S := fun w' => w'.cell? ⟨gb694, 0, none⟩ = some (.slice Ao13 t689.length co13)) (ds := [10]) bq_45 (by kernel_rfl) rfl rfl ((blk_cell BK694.out 0).trans rfl) (fun hHeld => ?_); refine with_tabW spec_l16Any.tab4 spec_l16Any.bits4 (fun HT_ HW_ => ?_)
  generalize w18.drew = w23 at HO691 BK687 BK688 BK694 HI0 HK HB hHeld ⊢
  refine yr_ 0 13 bq_69 HT_ ?_
  refine yr_ 2 15 bq_70 HT_ ?_
  refine yr_ 4 17 bq_71 HT_ ?_
  refine take_ (i := 1) (N := some 14) (v := ?_) (a' := ?_) bq_72 rfl rfl (take_ofW HT_.out HW_.out (by kernel_rfl)) (fun _ _ _ h => h) (Or.inl ⟨(by rfl), ?_⟩) hHeld ?_ ?_
  rotate_left
  ·intro w' s0
   go_simp
   with_reducible rfl
  rotate_left
  ·simp only [Act.put, List.setIfInBounds_toArray, List.set_cons_zero, List.set_cons_succ, i64_w, i32_w]
   rfl
  refine one_ (i := 3) (N := some 16) bq_46 rfl rfl (one_of HT_.out (by kernel_rfl)) (by decide) (fun K hK => ?_)
  refine goes_ Try.func50 (by kernel_rfl) rfl #[.pointer (some ⟨g, 0, none⟩)] (by rfl) rfl rfl tq_0 ?_
  with_reducible refine (spec_l15Any.calls g s0_0 t696 t697 t698 t699 t700 w0 _ ?side1 ?side2 A20.out).mono ?_
  (case side1 => exact tq_27)
  (case side2 => exact tq_31)
  rintro e w24 ⟨rfl, hi, hb, hk⟩
  refine ⟨_, rfl, ?_⟩
  have z_ := p_ (KeepBut.blk hk (g' := gb687) (o := .cells #[.int .i64 a1_0, .int .i64 a1_1, .int .i64 a1_2, .int .i64 a1_3] 30 (0, 0)) (kb_ BK687) NB687_0.out (by simp)) <| p_ (KeepBut.blk hk (g' := gb688) (o := .cells #[.slice none 0 0] 42 (0, 0)) (kb_ BK688) NB688_0.out (by simp)) <| p_ (Kd.R_mono (Kd.R_keep (IsS105.apart (show IsS105 w0 _ g s0_0 t696 t697 from tq_7) (raR_ HO691) (by decide)) hk (fun _ h => h.2)) (fun _ h => h.1)) <| p_ (KeepBut.blk hk (g' := gb694) (o := .cells #[.slice Ao13 t689.length co13] 42 (0, 0)) (kb_ BK694) NB694_0.out (by simp)) <| p_ (KeepBut.trans tq_8 hk (.inl rfl)) <| p_ (hb) <| a_ (hi)
  clear BK687 BK688 HO691 BK694 HK HB HI0
  obtain ⟨BK687, BK688, HO691, BK694, HK, HB, HI0⟩ := z_
  (try clear hb)
  (try clear hk)
  (try clear hi)
  refine hK.out _ _ ((blk_cell BK694.out 0).trans rfl) (fun hHeld => ?_)
  clear hK K
  refine nm_ (some 16) ?_
  refine one_ (i := 5) (N := some 18) bq_47 rfl rfl (one_of HT_.out (by kernel_rfl)) (by decide) (fun K hK => ?_)
  refine goes_ Try.func51 (by kernel_rfl) rfl #[.pointer (some ⟨g, 0, none⟩), .int .i64 2] (by rfl) rfl rfl tq_0 ?_
  with_reducible refine (spec_l01Once.calls g s0_0 t699 t700 2 t701 t702 t703 w0 _ ?side1 ?side2 A21.out).mono ?_
  (case side1 => exact tq_27)
  (case side2 => exact tq_31)
  rintro e w25 ⟨rfl, hi, hb, hk⟩
  refine ⟨_, rfl, ?_⟩
  have z_ := p_ (KeepBut.blk hk (g' := gb687) (o := .cells #[.int .i64 a1_0, .int .i64 a1_1, .int .i64 a1_2, .int .i64 a1_3] 30 (0, 0)) (kb_ BK687) NB687_0.out (by simp)) <| p_ (KeepBut.blk hk (g' := gb688) (o := .cells #[.slice none 0 0] 42 (0, 0)) (kb_ BK688) NB688_0.out (by simp)) <| p_ (Kd.R_mono (Kd.R_keep (IsS105.apart (show IsS105 w0 _ g s0_0 t699 t700 from tq_7) (raR_ HO691) (by decide)) hk (fun _ h => h.2)) (fun _ h => h.1)) <| p_ (KeepBut.blk hk (g' := gb694) (o := .cells #[.slice Ao13 t689.length co13] 42 (0, 0)) (kb_ BK694) NB694_0.out (by simp)) <| p_ (KeepBut.trans tq_8 hk (.inl rfl)) <| p_ (hb) <| a_ (hi)
  clear BK687 BK688 HO691 BK694 HK HB HI0
  obtain ⟨BK687, BK688, HO691, BK694, HK, HB, HI0⟩ := z_
  (try clear hb)
  (try clear hk)
  (try clear hi)
  refine hK.out _ _ ((blk_cell BK694.out 0).trans rfl) (fun hHeld => ?_)
  clear hK K
  refine nm_ (some 18) ?_
  refine yr_ 6 19 bq_48 HT_ ?_
  refine one_ (i := 7) (N := some 20) bq_49 rfl rfl (one_of HT_.out (by kernel_rfl)) (by decide) (fun K hK => ?_)
  refine value_ (w1 := ?_) (v := ?_) (by rfl) rfl ?_ ?_
  rotate_left 2
  ·go_simp
   constructor
   ·rfl
   ·rfl
  refine hK.out _ _ ((blk_cell (blk_alloc BK694.out _) 0).trans rfl) (fun hHeld => ?_)
  clear hK K
  refine nm_ (some 20) ?_
  refine one_ (i := 8) (N := some 21) bq_50 rfl rfl (one_of HT_.out (by kernel_rfl)) (by decide) (fun K hK => ?_)
  refine Kd.R_append_step k44 w.heap.size (by rfl) (.tmp 14) (.tmp 20) 40 44 (.agg #[(.string ⟨#[]⟩), (.bool false), (.string ⟨#[]⟩)]) 40 rfl Try.underlying40 info44 rfl (by decide) (by omega) (.slice Ao13 t689.length co13) t689 (⟨t698, t701, (⟨#[]⟩ : ByteArray)⟩ : S44) [.string t698, .bool t701, .string (⟨#[]⟩ : ByteArray)] (fun _ => True) (fun _ => False) rfl rfl ?aP (fun _ hk => hk.elim) ?aF ?aO (Below.refl _ _) ?aS ?aL ?_
  (case aP => exact k44_mkM _ _ _ (⟨t698, t701, (⟨#[]⟩ : ByteArray)⟩ : S44))
  (case aF => exact (fun _ _ => trivial))
  (case aO => exact (raR_ HO691))
  (case aS => exact (keep_size (w := w) (g := g) (row := none) tq_8))
  (case aL => have := LMc22.out; omega)
  intro v705 w26 ho hb hg hat
  rw [← Ny704.out] at ho
  have z_ := p_ (IsS105.grown (show IsS105 w0 _ g s0_0 t702 t703 from tq_7) hg (IsS105.own_ne HI0.out HO691.out (by decide))) <| p_ (blk_grown (g := gb687) (o := .cells #[.int .i64 a1_0, .int .i64 a1_1, .int .i64 a1_2, .int .i64 a1_3] 30 (0, 0)) (kb_ BK687) hg (Kd.R_ne HO691.out BK687.out (by decide))) <| p_ (blk_grown (g := gb688) (o := .cells #[.slice none 0 0] 42 (0, 0)) (kb_ BK688) hg (Kd.R_ne HO691.out BK688.out (by decide))) <| p_ (blk_grown (g := gb694) (o := .cells #[.slice Ao13 t689.length co13] 42 (0, 0)) (kb_ BK694) hg (Kd.R_ne HO691.out BK694.out (by decide))) <| p_ (below_weaken tq_13 HL.out hb) <| p_ (KeepBut.trans tq_8 (KeepBut.of_grown hg g) (Kd.R_base2 HO691.out)) <| a_ (ho)
  clear HI0 BK687 BK688 BK694 HB HK HO691
  obtain ⟨HI0, BK687, BK688, BK694, HB, HK, HO706⟩ := z_
  clear ho hb hg hat
  obtain ⟨Ao27, co27, eo27⟩ := Kd.R_slice HO706.out
  (first | subst eo27 | (injection eo27 with f1_ f2_ f3_; have f4_ := f1_.symm; have f5_ := f3_.symm; clear f1_ f2_ f3_; subst f4_; subst f5_))
  refine hK.out _ _ ((blk_cell BK694.out 0).trans rfl) (fun hHeld => ?_)
  clear hK K
  refine nm_ (some 21) ?_
  refine yr_ 9 22 bq_51 HT_ ?_
  refine last_ (i := 10) (N := none) bq_52 rfl rfl (one_of HT_.out (by kernel_rfl)) (by decide) (fun K hK => ?_)
  have hs28 : w26.cell? ⟨gb694, 0, none⟩ = some (.slice Ao13 t689.length co13) := (blk_cell BK694.out 0).trans rfl
  have hfs28 := blk_frozen BK694.out 0
  obtain ⟨n687_694, n688_694, n694_687, n694_688⟩ := an4_ NB687_694 NB688_694 NB694_687 NB694_688
  refine skip_ (w1 := ?_) (by rfl) rfl ?_ ?_
  rotate_left
  ·go_simp
   rfl
  refine hK.out _ _ ?_
  clear hK K
  refine done_ (done_of HT_.out (by kernel_rfl)) ?_
  obtain ⟨n694_0, n0_694⟩ := an2_ NB694_0 NB0_694
  have hcz32_0 := bc_ BK694.out 0
  have hfz32_0 := blk_frozen BK694.out 0
  obtain ⟨n688_687, n687_688, n688_0, n0_688⟩ := an4_ NB688_687 NB687_688 NB688_0 NB0_688
  have hcz35_0 := bc_ BK688.out 0
  have hfz35_0 := blk_frozen BK688.out 0
  try go_wp2
  refine bodyPost_ret (results_cell_row rfl _ _ gb688 42 #[.slice Ao27 y704.length co27] (0, 0) _ rfl tb_ Try.underlying42 rfl (by kernel_rfl)) rfl ?_
  exact ⟨_, tq_1, (by (with_reducible repeat (first | apply Kd.R_alloc | apply Kd.R_drewN | apply Kd.R_drew)); exact Kd.R_mono (rR_ (rR_ (Kd.R_types (Kd.R_types HO706.out BK694.out (by decide)) BK688.out (by decide)) (fun _ hk => hk.1.2))) (fun _ hk => trivial)), tq_7, tq_13, tq_8⟩
 rw [if_neg c19] at H
 have c19b0 := beq_eq_false_iff_ne.mpr c19
 have c19b1 := bne_iff_ne.mpr c19
 (first | rw [c19b0] | (simp only [i64_w, i32_w]; rw [c19b0]) | skip)
 by_cases c36 : t695 = 1
 rotate_left
 ·rw [if_neg c36] at H
  have c36b0 := beq_eq_false_iff_ne.mpr c36
  have c36b1 := bne_iff_ne.mpr c36
  by_cases c59 : t695 = 2
  rotate_left
  ·rw [if_neg c59] at H
   have c59b0 := beq_eq_false_iff_ne.mpr c59
   have c59b1 := bne_iff_ne.mpr c59
   simp only [Option.some.injEq, Prod.mk.injEq] at H
   obtain ⟨rfl, rfl, rfl⟩ := H
   obtain ⟨n694_687, n687_694, n694_688, n688_694, n694_0, n0_694⟩ := an6_ NB694_687 NB687_694 NB694_688 NB688_694 NB694_0 NB0_694
   have hcz74_0 := bc_ BK694.out 0
   have hfz74_0 := blk_frozen BK694.out 0
   obtain ⟨n688_687, n687_688, n688_0, n0_688⟩ := an4_ NB688_687 NB687_688 NB688_0 NB0_688
   have hcz77_0 := bc_ BK688.out 0
   have hfz77_0 := blk_frozen BK688.out 0
   go_wp2
   refine bodyPost_ret (results_cell_row rfl _ _ gb688 42 #[.slice Ao13 t689.length co13] (0, 0) _ rfl tb_ Try.underlying42 rfl (by kernel_rfl)) rfl ?_
   exact ⟨_, tq_1, (by (with_reducible repeat (first | apply Kd.R_alloc | apply Kd.R_drewN | apply Kd.R_drew)); exact Kd.R_mono (rR_ (Kd.R_types HO691.out BK688.out (by decide))) (fun _ hk => trivial)), tq_7, tq_13, tq_8⟩
  rw [if_pos c59] at H
  have c59b0 := beq_iff_eq.mpr c59
  have c59b1 := bne_eq_false_iff_eq.mpr c59
  clear c59
  obtain ⟨t720, A60, H⟩ := bd_ H
  simp only [Option.some.injEq, Prod.mk.injEq] at H
  obtain ⟨rfl, rfl, rfl⟩ := H
  obtain ⟨n694_687, n687_694, n694_688, n688_694, n694_0, n0_694⟩ := an6_ NB694_687 NB687_694 NB694_688 NB688_694 NB694_0 NB0_694
  have hcz64_0 := bc_ BK694.out 0
  have hfz64_0 := blk_frozen BK694.out 0
  go_wp2_with (first | ((with_reducible refine gate_callee (f := 18) rfl ?_); refine goesL_ (some 37) rfl rfl Try.func18 (by kernel_rfl) rfl #[.agg #[.slice Ao13 t689.length co13], .string (⟨#[47, 97]⟩ : ByteArray)] rfl tq_0 ?_; (with_reducible refine (spec_DropItem.calls k _ _ t689 (⟨#[47, 97]⟩ : ByteArray) t720 _ ?side1 ?side2 A60.out).mono ?_); (case side1 => exact tq_116); (case side2 => exact (Kd.R_reads' HO691.out).2.1); rintro e w65 ⟨v721, rfl, ho0, hb⟩; refine ⟨_, rfl, ?_⟩; have z_ := p_ (Kd.R_elder' (raR_ HO691) (Kd.R_base ho0) hb) <| p_ (Kd.R_lower (Kd.R_new' ho0 (Kd.R_lt (raR_ HO691))) (keep_size (w := w) (g := g) (row := none) tq_8)) <| p_ (IsS105.below tq_7 hb) <| p_ (blk_below (kb_ BK687) hb) <| p_ (blk_below (kb_ BK688) hb) <| p_ (blk_below (kb_ BK694) hb) <| p_ (KeepBut.trans tq_8 (KeepBut.of_below hb g none) (.inl rfl)) <| a_ (below_step tq_13 hb); clear HO691 HI0 BK687 BK688 BK694 HK HB; obtain ⟨HO691, HO722, HI0, BK687, BK688, BK694, HK, HB⟩ := z_; (try clear hb); (try clear ho0); obtain ⟨Ao66, co66, eo66⟩ := Kd.R_slice HO722.out; subst eo66; have hcz67_0 := bc_ BK694.out 0; have hfz67_0 := blk_frozen BK694.out 0; obtain ⟨n688_687, n687_688, n688_0, n0_688⟩ := an4_ NB688_687 NB687_688 NB688_0 NB0_688; have hcz70_0 := bc_ BK688.out 0; have hfz70_0 := blk_frozen BK688.out 0))
  refine bodyPost_ret (results_cell_row rfl _ _ gb688 42 #[.slice Ao66 t720.length co66] (0, 0) _ rfl tb_ Try.underlying42 rfl (by kernel_rfl)) rfl ?_
  exact ⟨_, tq_1, (by (with_reducible repeat (first | apply Kd.R_alloc | apply Kd.R_drewN | apply Kd.R_drew)); exact Kd.R_mono (rR_ (rR_ (Kd.R_types (Kd.R_types HO722.out BK694.out (by decide)) BK688.out (by decide)) (fun _ hk => hk.1.2))) (fun _ hk => trivial)), tq_7, tq_13, tq_8⟩
 rw [if_pos c36] at H
 have c36b0 := beq_iff_eq.mpr c36
 have c36b1 := bne_eq_false_iff_eq.mpr c36
 clear c36
 obtain ⟨⟨t707, t708, t709⟩, A37, H⟩ := bd_ H
 try dsimp -simprocs only at H
 obtain ⟨y710, hy710⟩ : ∃ y_ : List Int, y_ = (([128, 129, 33] : List Int)) := ⟨_, rfl⟩
 replace H : ((spec_l01PickInt.f s0_0 t708 t709 y710).bind fun bt713 => ((spec_l01Long.f k bt713.1 97).bind fun t716 => ((spec_PutItem.f k t689 t707 false t716).bind fun t717 => (some (t717, bt713.2.1, bt713.2.2))))) = some (r1, r2, r3) := by first | (rw [hy710]; with_reducible exact H) | (have H2_ := (Option.bind_some _ _).symm.trans H; rw [hy710]; with_reducible exact H2_) | (have H2_ := (Option.bind_some _ _).symm.trans H; with_reducible exact H2_) | with_reducible exact H | (rw [hy710]; exact H) | exact H
 have Ny710 := Aside0.mk hy710
 clear hy710
 obtain ⟨⟨t713, t714, t715⟩, A38, H⟩ := bd_ H
 try dsimp -simprocs only at H
 obtain ⟨t716, A39, H⟩ := bd_ H
 obtain ⟨t717, A40, H⟩ := bd_ H
 simp only [Option.some.injEq, Prod.mk.injEq] at H
 obtain ⟨rfl, rfl, rfl⟩ := H
 try go_wp2
 have z_ := p_ (Kd.R_drew HO691.out) <| p_ (blk_drew BK687.out) <| p_ (blk_drew BK688.out) <| p_ (blk_drew BK694.out) <| p_ (IsS105.drew HI0.out) <| p_ (keep_drew HK.out) <| a_ (below_drew1 HB.out)
 clear HO691 BK687 BK688 BK694 HI0 HK HB
 obtain ⟨HO691, BK687, BK688, BK694, HI0, HK, HB⟩ := z_
 refine start_ (n := 10) (S := fun w' => w'.cell? ⟨gb694, 0, none⟩ = some (.slice Ao13 t689.length co13)) (ds := [9]) bq_88 (by kernel_rfl) rfl rfl ((blk_cell BK694.out 0).trans rfl) (fun hHeld => ?_); refine with_tabW spec_l16Any.tab6 spec_l16Any.bits6 (fun HT_ HW_ => ?_)
 generalize w18.drew = w41 at HO691 BK687 BK688 BK694 HI0 HK HB hHeld ⊢
 refine yr_ 1 26 bq_89 HT_ ?_
 refine yr_ 3 28 bq_90 HT_ ?_
 refine take_ (i := 0) (N := some 25) (v := ?_) (a' := ?_) #[true, true, false, true, false, false, false, false, false, false] rfl rfl (take_ofW HT_.out HW_.out (by kernel_rfl)) (fun _ _ _ h => h) (Or.inl ⟨(by rfl), ?_⟩) hHeld ?_ ?_
 rotate_left
 ·intro w' s0
  go_simp
  with_reducible rfl
 rotate_left
 ·simp only [Act.put, List.setIfInBounds_toArray, List.set_cons_zero, List.set_cons_succ, i64_w, i32_w]
  rfl
 refine join_ (σ := Value) 5 bq_97 (fun s_ => [(27, .string t707), (29, s_)]) (fun s_ w' => (w'.cell? ⟨gb694, 0, none⟩ = some (.slice Ao13 t689.length co13)) ∧ (Kd.R k44 44 w' w.heap.size (fun _ => True) (.slice Ao13 t689.length co13) t689) ∧ (Kd.R (Kd.int .i64) 3 w' w.heap.size (fun _ => True) s_ y710) ∧ (w'.heap[gb687]? = some (.cells #[.int .i64 a1_0, .int .i64 a1_1, .int .i64 a1_2, .int .i64 a1_3] 30 (0, 0))) ∧ (w'.heap[gb688]? = some (.cells #[.slice none 0 0] 42 (0, 0))) ∧ (w'.heap[gb694]? = some (.cells #[.slice Ao13 t689.length co13] 42 (0, 0))) ∧ (IsS105 w0 w' g s0_0 t708 t709) ∧ (KeepBut w w' g none) ∧ (Below w0.heap.size w0 w')) ?_ ?_
 rotate_left
 ·intro hCont
  refine two_ (i := 2) (j := 4) (Ni := some 27) (Nj := some 29) #[true, true, true, true, false, false, false, false, false, false] #[true, true, false, true, true, false, false, false, false, false] rfl rfl rfl rfl (two_of HT_.out (by kernel_rfl)) (by decide) (by decide) (fun K hK => ?_) (fun K hK => ?_)
  ·skip
   refine goes_ Try.func81 (by kernel_rfl) rfl #[.pointer (some ⟨g, 0, none⟩)] (by rfl) rfl rfl tq_0 ?_
   with_reducible refine (spec_l15Path.calls g s0_0 t696 t697 t707 t708 t709 w0 _ ?side1 ?side2 A37.out).mono ?_
   (case side1 => exact tq_27)
   (case side2 => exact tq_31)
   rintro e w42 ⟨rfl, hi, hb, hk⟩
   refine ⟨_, rfl, ?_⟩
   have z_ := p_ (KeepBut.blk hk (g' := gb687) (o := .cells #[.int .i64 a1_0, .int .i64 a1_1, .int .i64 a1_2, .int .i64 a1_3] 30 (0, 0)) (kb_ BK687) NB687_0.out (by simp)) <| p_ (KeepBut.blk hk (g' := gb688) (o := .cells #[.slice none 0 0] 42 (0, 0)) (kb_ BK688) NB688_0.out (by simp)) <| p_ (Kd.R_mono (Kd.R_keep (IsS105.apart (show IsS105 w0 _ g s0_0 t696 t697 from tq_7) (raR_ HO691) (by decide)) hk (fun _ h => h.2)) (fun _ h => h.1)) <| p_ (KeepBut.blk hk (g' := gb694) (o := .cells #[.slice Ao13 t689.length co13] 42 (0, 0)) (kb_ BK694) NB694_0.out (by simp)) <| p_ (KeepBut.trans tq_8 hk (.inl rfl)) <| p_ (hb) <| a_ (hi)
   clear BK687 BK688 HO691 BK694 HK HB HI0
   obtain ⟨BK687, BK688, HO691, BK694, HK, HB, HI0⟩ := z_
   (try clear hb)
   (try clear hk)
   (try clear hi)
   refine hK.out _ _ ((blk_cell BK694.out 0).trans rfl) (fun hHeld => ?_)
   clear hK K
   refine nm_ (some 27) ?_
   refine one_ (i := 4) (N := some 29) bq_97 rfl rfl (one_of HT_.out (by kernel_rfl)) (by decide) (fun K hK => ?_)
   refine Kd.R_lit_step (Kd.int .i64) _ 3 ?hg (N := 29) ?hd (xs := ([128, 129, 33] : List Int)) (inner := [.int .i64 128, .int .i64 129, .int .i64 33]) (ok := fun _ => True) (okp := fun _ => True) ?hr ?hp (fun _ hk => hk) trivial (Below.refl _ _) (Nat.le_refl _) (by simp) ?_; (case hd => rfl); (case hg => rfl); (case hr => first | (go_simp; done) | (go_simp; rfl)); (case hp => exact tq_99)
   intro v711 w43 ho44 hb hg_ hnew_
   clear hg_ hnew_
   (first | rw [← Ny710.out] at ho44 | (simp only [Int.reduceToNat] at ho44; rw [← Ny710.out] at ho44))
   have z_ := p_ (Kd.R_below (raR_ HO691) hb) <| p_ (Kd.R_lower ho44 (keep_size (w := w) (g := g) (row := none) tq_8)) <| p_ (IsS105.below tq_7 hb) <| p_ (blk_below (kb_ BK687) hb) <| p_ (blk_below (kb_ BK688) hb) <| p_ (blk_below (kb_ BK694) hb) <| p_ (KeepBut.trans tq_8 (KeepBut.of_below hb g none) (.inl rfl)) <| a_ (below_step tq_13 hb)
   clear HO691 HI0 BK687 BK688 BK694 HK HB
   obtain ⟨HO691, HO712, HI0, BK687, BK688, BK694, HK, HB⟩ := z_
   clear hb ho44
   refine hK.out _ _ ((blk_cell BK694.out 0).trans rfl) (fun hHeld => ?_)
   clear hK K
   refine nm_ (some 29) ?_
   exact norm_ tq_32 (hCont (v711) _ ⟨hHeld, (raR_ HO691), (raR_ HO712), (kb_ BK687), (kb_ BK688), (kb_ BK694), tq_7, tq_8, tq_13⟩)
  ·skip
   refine Kd.R_lit_step (Kd.int .i64) _ 3 ?hg (N := 29) ?hd (xs := ([128, 129, 33] : List Int)) (inner := [.int .i64 128, .int .i64 129, .int .i64 33]) (ok := fun _ => True) (okp := fun _ => True) ?hr ?hp (fun _ hk => hk) trivial (Below.refl _ _) (Nat.le_refl _) (by simp) ?_; (case hd => rfl); (case hg => rfl); (case hr => first | (go_simp; done) | (go_simp; rfl)); (case hp => exact tq_99)
   intro v711 w42 ho43 hb hg_ hnew_
   clear hg_ hnew_
   (first | rw [← Ny710.out] at ho43 | (simp only [Int.reduceToNat] at ho43; rw [← Ny710.out] at ho43))
   have z_ := p_ (Kd.R_below (raR_ HO691) hb) <| p_ (Kd.R_lower ho43 (keep_size (w := w) (g := g) (row := none) tq_8)) <| p_ (IsS105.below tq_7 hb) <| p_ (blk_below (kb_ BK687) hb) <| p_ (blk_below (kb_ BK688) hb) <| p_ (blk_below (kb_ BK694) hb) <| p_ (KeepBut.trans tq_8 (KeepBut.of_below hb g none) (.inl rfl)) <| a_ (below_step tq_13 hb)
   clear HO691 HI0 BK687 BK688 BK694 HK HB
   obtain ⟨HO691, HO712, HI0, BK687, BK688, BK694, HK, HB⟩ := z_
   clear hb ho43
   refine hK.out _ _ ((blk_cell BK694.out 0).trans rfl) (fun hHeld => ?_)
   clear hK K
   refine nm_ (some 29) ?_
   refine one_ (i := 2) (N := some 27) bq_97 rfl rfl (one_of HT_.out (by kernel_rfl)) (by decide) (fun K hK => ?_)
   refine goes_ Try.func81 (by kernel_rfl) rfl #[.pointer (some ⟨g, 0, none⟩)] (by rfl) rfl rfl tq_0 ?_
   with_reducible refine (spec_l15Path.calls g s0_0 t696 t697 t707 t708 t709 w0 _ ?side1 ?side2 A37.out).mono ?_
   (case side1 => exact tq_27)
   (case side2 => exact tq_31)
   rintro e w44 ⟨rfl, hi, hb, hk⟩
   refine ⟨_, rfl, ?_⟩
   have z_ := p_ (KeepBut.blk hk (g' := gb687) (o := .cells #[.int .i64 a1_0, .int .i64 a1_1, .int .i64 a1_2, .int .i64 a1_3] 30 (0, 0)) (kb_ BK687) NB687_0.out (by simp)) <| p_ (KeepBut.blk hk (g' := gb688) (o := .cells #[.slice none 0 0] 42 (0, 0)) (kb_ BK688) NB688_0.out (by simp)) <| p_ (Kd.R_mono (Kd.R_keep (IsS105.apart (show IsS105 w0 _ g s0_0 t696 t697 from tq_7) (raR_ HO691) (by decide)) hk (fun _ h => h.2)) (fun _ h => h.1)) <| p_ (KeepBut.blk hk (g' := gb694) (o := .cells #[.slice Ao13 t689.length co13] 42 (0, 0)) (kb_ BK694) NB694_0.out (by simp)) <| p_ (Kd.R_mono (Kd.R_keep (IsS105.apart (show IsS105 w0 _ g s0_0 t696 t697 from tq_7) (raR_ HO712) (by decide)) hk (fun _ h => h.2)) (fun _ h => h.1)) <| p_ (KeepBut.trans tq_8 hk (.inl rfl)) <| p_ (hb) <| a_ (hi)
   clear BK687 BK688 HO691 BK694 HO712 HK HB HI0
   obtain ⟨BK687, BK688, HO691, BK694, HO712, HK, HB, HI0⟩ := z_
   (try clear hb)
   (try clear hk)
   (try clear hi)
   refine hK.out _ _ ((blk_cell BK694.out 0).trans rfl) (fun hHeld => ?_)
   clear hK K
   refine nm_ (some 27) ?_
   exact norm_ tq_32 (hCont (v711) _ ⟨hHeld, (raR_ HO691), (raR_ HO712), (kb_ BK687), (kb_ BK688), (kb_ BK694), tq_7, tq_8, tq_13⟩)
 rintro v711 w45 ⟨hS_, h0_, h1_, h2_, h3_, h4_, h5_, h6_, h7_⟩
 have z_ := q_ (⟨h0_⟩ : Aside0 (Kd.R k44 44 w45 w.heap.size (fun _ => True) (.slice Ao13 t689.length co13) t689)) <| q_ (⟨h1_⟩ : Aside0 (Kd.R (Kd.int .i64) 3 w45 w.heap.size (fun _ => True) v711 y710)) <| q_ (⟨h2_⟩ : Aside0 (w45.heap[gb687]? = some (.cells #[.int .i64 a1_0, .int .i64 a1_1, .int .i64 a1_2, .int .i64 a1_3] 30 (0, 0)))) <| q_ (⟨h3_⟩ : Aside0 (w45.heap[gb688]? = some (.cells #[.slice none 0 0] 42 (0, 0)))) <| q_ (⟨h4_⟩ : Aside0 (w45.heap[gb694]? = some (.cells #[.slice Ao13 t689.length co13] 42 (0, 0)))) <| q_ (⟨h5_⟩ : Aside0 (IsS105 w0 w45 g s0_0 t708 t709)) <| q_ (⟨h6_⟩ : Aside0 (KeepBut w w45 g none)) <| (⟨h7_⟩ : Aside0 (Below w0.heap.size w0 w45))
 clear HO691 BK687 BK688 BK694 HI0 HK HB h0_ h1_ h2_ h3_ h4_ h5_ h6_ h7_
 obtain ⟨HO691, HO712, BK687, BK688, BK694, HI0, HK, HB⟩ := z_
 have hHeld : w45.cell? ⟨gb694, 0, none⟩ = some (.slice Ao13 t689.length co13) := hS_
 obtain ⟨Ao46, co46, eo46⟩ := Kd.R_slice HO712.out
 (first | subst eo46 | (injection eo46 with f1_ f2_ f3_; have f4_ := f1_.symm; have f5_ := f3_.symm; clear f1_ f2_ f3_; subst f4_; subst f5_))
 refine norm_ (a' := ?_) ?_ ?_
 rotate_left
 ·simp only [putAll, Act.put, List.setIfInBounds_toArray, List.set_cons_zero, List.set_cons_succ]
  rfl
 refine one_ (i := 5) (N := some 30) #[true, true, true, true, true, true, false, false, false, false] rfl rfl (one_of HT_.out (by kernel_rfl)) (by decide) (fun K hK => ?_)
 refine goes_ Try.func83 (by kernel_rfl) rfl #[.pointer (some ⟨g, 0, none⟩), .slice Ao46 y710.length co46] (by rfl) rfl rfl tq_0 ?_
 with_reducible refine (spec_l01PickInt.calls g s0_0 t708 t709 _ _ y710 t713 t714 t715 w0 _ ?side1 ?side2 ?side3 ?side4 ?side5 A38.out).mono ?_
 (case side1 => exact tq_27)
 (case side2 => exact tq_31)
 (case side3 => repeat (first | exact (Kd.R_reads' HO712.out).2.2 | (with_reducible refine Kd.C_alloc ?_ _) | (with_reducible refine Kd.C_drewN ?_ _) | (with_reducible refine Kd.C_drew ?_)))
 (case side4 => exact (Kd.R_reads' HO712.out).2.1)
 (case side5 => exact far_slice (IsS105.own_ne HI0.out HO712.out (by decide)))
 rintro e w47 ⟨rfl, hi, hb, hk⟩
 refine ⟨_, rfl, ?_⟩
 have z_ := p_ (KeepBut.blk hk (g' := gb687) (o := .cells #[.int .i64 a1_0, .int .i64 a1_1, .int .i64 a1_2, .int .i64 a1_3] 30 (0, 0)) (kb_ BK687) NB687_0.out (by simp)) <| p_ (KeepBut.blk hk (g' := gb688) (o := .cells #[.slice none 0 0] 42 (0, 0)) (kb_ BK688) NB688_0.out (by simp)) <| p_ (Kd.R_mono (Kd.R_keep (IsS105.apart (show IsS105 w0 _ g s0_0 t708 t709 from tq_7) (raR_ HO691) (by decide)) hk (fun _ h => h.2)) (fun _ h => h.1)) <| p_ (KeepBut.blk hk (g' := gb694) (o := .cells #[.slice Ao13 t689.length co13] 42 (0, 0)) (kb_ BK694) NB694_0.out (by simp)) <| p_ (Kd.R_mono (Kd.R_keep (IsS105.apart (show IsS105 w0 _ g s0_0 t708 t709 from tq_7) (raR_ HO712) (by decide)) hk (fun _ h => h.2)) (fun _ h => h.1)) <| p_ (KeepBut.trans tq_8 hk (.inl rfl)) <| p_ (hb) <| a_ (hi)
 clear BK687 BK688 HO691 BK694 HO712 HK HB HI0
 obtain ⟨BK687, BK688, HO691, BK694, HO712, HK, HB, HI0⟩ := z_
 (try clear hb)
 (try clear hk)
 (try clear hi)
 refine hK.out _ _ ((blk_cell BK694.out 0).trans rfl) (fun hHeld => ?_)
 clear hK K
 refine nm_ (some 30) ?_
 refine one_ (i := 6) (N := some 31) bq_91 rfl rfl (one_of HT_.out (by kernel_rfl)) (by decide) (fun K hK => ?_)
 refine goes_ Try.func82 (by kernel_rfl) rfl #[.int .i64 t713, .int .u8 97] (by rfl) rfl rfl tq_0 ?_
 with_reducible refine (spec_l01Long.calls k t713 97 t716 _ A39.out).mono ?_
 rintro e w48 ⟨rfl, hb⟩
 refine ⟨_, rfl, ?_⟩
 have z_ := p_ (Kd.R_below (raR_ HO691) hb) <| p_ (Kd.R_below (raR_ HO712) hb) <| p_ (IsS105.below tq_7 hb) <| p_ (blk_below (kb_ BK687) hb) <| p_ (blk_below (kb_ BK688) hb) <| p_ (blk_below (kb_ BK694) hb) <| p_ (KeepBut.trans tq_8 (KeepBut.of_below hb g none) (.inl rfl)) <| a_ (below_step tq_13 hb)
 clear HO691 HO712 HI0 BK687 BK688 BK694 HK HB
 obtain ⟨HO691, HO712, HI0, BK687, BK688, BK694, HK, HB⟩ := z_
 (try clear hb)
 refine hK.out _ _ ((blk_cell BK694.out 0).trans rfl) (fun hHeld => ?_)
 clear hK K
 refine nm_ (some 31) ?_
 refine yr_ 7 32 bq_0 HT_ ?_
 refine one_ (i := 8) (N := some 33) bq_92 rfl rfl (one_of HT_.out (by kernel_rfl)) (by decide) (fun K hK => ?_)
 refine goes_ Try.func17 (by kernel_rfl) rfl #[.agg #[.slice Ao13 t689.length co13], .agg #[.string t707, .bool false, .string t716]] (by rfl) rfl rfl tq_0 ?_
 with_reducible refine (spec_PutItem.calls k _ _ t689 t707 false t716 t717 _ ?side1 ?side2 A40.out).mono ?_
 (case side1 => exact tq_116)
 (case side2 => exact (Kd.R_reads' HO691.out).2.1)
 rintro e w49 ⟨v718, rfl, ho0, hb⟩
 refine ⟨_, rfl, ?_⟩
 have z_ := p_ (Kd.R_elder' (raR_ HO691) (Kd.R_base ho0) hb) <| p_ (Kd.R_below (raR_ HO712) hb) <| p_ (Kd.R_lower (Kd.R_new' ho0 (Kd.R_lt (raR_ HO691))) (keep_size (w := w) (g := g) (row := none) tq_8)) <| p_ (IsS105.below tq_7 hb) <| p_ (blk_below (kb_ BK687) hb) <| p_ (blk_below (kb_ BK688) hb) <| p_ (blk_below (kb_ BK694) hb) <| p_ (KeepBut.trans tq_8 (KeepBut.of_below hb g none) (.inl rfl)) <| a_ (below_step tq_13 hb)
 clear HO691 HO712 HI0 BK687 BK688 BK694 HK HB
 obtain ⟨HO691, HO712, HO719, HI0, BK687, BK688, BK694, HK, HB⟩ := z_
 (try clear hb)
 (try clear ho0)
 obtain ⟨Ao50, co50, eo50⟩ := Kd.R_slice HO719.out
 (first | subst eo50 | (injection eo50 with f1_ f2_ f3_; have f4_ := f1_.symm; have f5_ := f3_.symm; clear f1_ f2_ f3_; subst f4_; subst f5_))
 refine hK.out _ _ ((blk_cell BK694.out 0).trans rfl) (fun hHeld => ?_)
 clear hK K
 refine nm_ (some 33) ?_
 refine last_ (i := 9) (N := none) bq_93 rfl rfl (one_of HT_.out (by kernel_rfl)) (by decide) (fun K hK => ?_)
 have hs51 : w49.cell? ⟨gb694, 0, none⟩ = some (.slice Ao13 t689.length co13) := (blk_cell BK694.out 0).trans rfl
 have hfs51 := blk_frozen BK694.out 0
 obtain ⟨n687_694, n688_694, n694_687, n694_688⟩ := an4_ NB687_694 NB688_694 NB694_687 NB694_688
 refine skip_ (w1 := ?_) (by rfl) rfl ?_ ?_
 rotate_left
 ·go_simp
  rfl
 refine hK.out _ _ ?_
 clear hK K
 refine done_ (done_of HT_.out (by kernel_rfl)) ?_
 obtain ⟨n694_0, n0_694⟩ := an2_ NB694_0 NB0_694
 have hcz55_0 := bc_ BK694.out 0
 have hfz55_0 := blk_frozen BK694.out 0
 obtain ⟨n688_687, n687_688, n688_0, n0_688⟩ := an4_ NB688_687 NB687_688 NB688_0 NB0_688
 have hcz58_0 := bc_ BK688.out 0
 have hfz58_0 := blk_frozen BK688.out 0
 try go_wp2
 refine bodyPost_ret (results_cell_row rfl _ _ gb688 42 #[.slice Ao50 t717.length co50] (0, 0) _ rfl tb_ Try.underlying42 rfl (by kernel_rfl)) rfl ?_
 exact ⟨_, tq_1, (by (with_reducible repeat (first | apply Kd.R_alloc | apply Kd.R_drewN | apply Kd.R_drew)); exact Kd.R_mono (rR_ (rR_ (Kd.R_types (Kd.R_types HO719.out BK694.out (by decide)) BK688.out (by decide)) (fun _ hk => hk.1.2))) (fun _ hk => trivial)), tq_7, tq_13, tq_8⟩

/-! ### spec_l11Geo: function 49 -/
def spec_l11Geo.f (s0_0 : List Int) (s0_1 : Int) (s0_2 : Int) : Option (Int × Int × Int × Int × Int × Int) := (spec_l01Below.f s0_0 s0_1 s0_2 3).bind fun bt724 => ((spec_l01Below.f s0_0 bt724.2.1 bt724.2.2 7).bind fun bt727 => ((spec_l01Below.f s0_0 bt727.2.1 bt727.2.2 4).bind fun bt730 => ((spec_l01Below.f s0_0 bt730.2.1 bt730.2.2 (wrap64 ((wrap64 (6 + bt727.1)) - 4))).bind fun bt734 => (some (wrap64 (1 + bt724.1), wrap64 (6 + bt727.1), wrap64 (3 + bt730.1), wrap64 (1 + bt734.1), bt734.2.1, bt734.2.2)))))
set_option maxHeartbeats 8000000 in
set_option maxRecDepth 100000 in
theorem spec_l11Geo.calls (g : Nat) (s0_0 : List Int) (s0_1 : Int) (s0_2 : Int) (r1 : Int) (r2 : Int) (r3 : Int) (r4 : Int) (r5 : Int) (r6 : Int) (w0 w : World) (hI : IsS105 w0 w g s0_0 s0_1 s0_2) (hB : Below w0.heap.size w0 w) (h : spec_l11Geo.f s0_0 s0_1 s0_2 = some (r1, r2, r3, r4, r5, r6)) :
  Calls Try.prog 49 #[.pointer (some ⟨g, 0, none⟩)] w fun e w' => e = .returned (.agg #[.int .i64 r1, .int .i64 r2, .int .i64 r3, .int .i64 r4]) ∧ IsS105 w0 w' g s0_0 r5 r6 ∧ Below w0.heap.size w0 w' ∧ KeepBut w w' g none := by
 have hu30 := Try.underlying30
 have HI0 := Aside0.mk hI
 have HK := Aside0.mk (KeepBut.refl w g none)
 have HL := Aside0.mk hB.size
 clear hI
 have HW0 := Aside0.mk hB.size
 have HB := Aside0.mk hB
 clear hB
 unfold spec_l11Geo.f at h
 have H := h
 clear h
 obtain ⟨⟨t724, t725, t726⟩, A2, H⟩ := bd_ H
 try dsimp -simprocs only at H
 obtain ⟨⟨t727, t728, t729⟩, A3, H⟩ := bd_ H
 try dsimp -simprocs only at H
 obtain ⟨⟨t730, t731, t732⟩, A4, H⟩ := bd_ H
 try dsimp -simprocs only at H
 obtain ⟨⟨t734, t735, t736⟩, A5, H⟩ := bd_ H
 try dsimp -simprocs only at H
 simp only [Option.some.injEq, Prod.mk.injEq] at H
 obtain ⟨rfl, rfl, rfl, rfl, rfl, rfl⟩ := H
 go_enter Try.func49, Try.ntmps49
 go_wp2_with (first | ((with_reducible refine gate_dst (N := 2) rfl ?_); refine be_ 2 (cs := #[.int .i64 0, .int .i64 0, .int .i64 0, .int .i64 0]) 30 ?_; intro gb723 hg w6 hbox hb; have z_ := p_ (IsS105.below tq_4 hb) <| p_ (KeepBut.trans tq_2 (KeepBut.of_below hb g none) (.inl rfl)) <| p_ (below_step tq_12 hb) <| p_ (hbox) <| p_ ((by rw [hg]; exact (keep_size (w := w) (g := g) (row := none) tq_2) : w.heap.size ≤ gb723)) <| p_ ((Nat.le_trans HW0.out (by rw [hg]; exact (keep_size (w := w) (g := g) (row := none) tq_2) : w.heap.size ≤ gb723) : w0.heap.size ≤ gb723)) <| p_ ((by rw [hg]; exact Nat.ne_of_lt (IsS105.lt (show IsS105 w0 _ g s0_0 s0_1 s0_2 from tq_4)) : g ≠ gb723)) <| a_ ((by rw [hg]; exact Nat.ne_of_gt (IsS105.lt (show IsS105 w0 _ g s0_0 s0_1 s0_2 from tq_4)) : gb723 ≠ g)); clear HI0 HK HB; obtain ⟨HI0, HK, HB, BK723, GW723, GE723, NB0_723, NB723_0⟩ := z_; clear hb hbox hg) | ((with_reducible refine gate_callee (f := 53) rfl ?_); refine goesL_ (some 5) rfl rfl Try.func53 (by kernel_rfl) rfl #[.pointer (some ⟨g, 0, none⟩), .int .i64 3] rfl tq_0 ?_; (with_reducible refine (spec_l01Below.calls g s0_0 s0_1 s0_2 3 t724 t725 t726 w0 _ ?side1 ?side2 A2.out).mono ?_); (case side1 => exact tq_67); (case side2 => exact tq_68); rintro e w7 ⟨rfl, hi, hb, hk⟩; refine ⟨_, rfl, ?_⟩; have z_ := p_ (KeepBut.blk hk (g' := gb723) (o := .cells #[.int .i64 0, .int .i64 0, .int .i64 0, .int .i64 0] 30 (0, 0)) (kb_ BK723) NB723_0.out (by simp)) <| p_ (KeepBut.trans tq_39 hk (.inl rfl)) <| p_ (hb) <| a_ (hi); clear BK723 HK HB HI0; obtain ⟨BK723, HK, HB, HI0⟩ := z_; (try clear hb); (try clear hk); (try clear hi)) | ((with_reducible refine gate_callee (f := 53) rfl ?_); refine goesL_ (some 8) rfl rfl Try.func53 (by kernel_rfl) rfl #[.pointer (some ⟨g, 0, none⟩), .int .i64 7] rfl tq_0 ?_; (with_reducible refine (spec_l01Below.calls g s0_0 t725 t726 7 t727 t728 t729 w0 _ ?side1 ?side2 A3.out).mono ?_); (case side1 => exact tq_67); (case side2 => exact tq_68); rintro e w8 ⟨rfl, hi, hb, hk⟩; refine ⟨_, rfl, ?_⟩; have z_ := p_ (KeepBut.blk hk (g' := gb723) (o := .cells #[.int .i64 0, .int .i64 0, .int .i64 0, .int .i64 0] 30 (0, 0)) (kb_ BK723) NB723_0.out (by simp)) <| p_ (KeepBut.trans tq_39 hk (.inl rfl)) <| p_ (hb) <| a_ (hi); clear BK723 HK HB HI0; obtain ⟨BK723, HK, HB, HI0⟩ := z_; (try clear hb); (try clear hk); (try clear hi)) | ((with_reducible refine gate_callee (f := 53) rfl ?_); refine goesL_ (some 11) rfl rfl Try.func53 (by kernel_rfl) rfl #[.pointer (some ⟨g, 0, none⟩), .int .i64 4] rfl tq_0 ?_; (with_reducible refine (spec_l01Below.calls g s0_0 t728 t729 4 t730 t731 t732 w0 _ ?side1 ?side2 A4.out).mono ?_); (case side1 => exact tq_67); (case side2 => exact tq_68); rintro e w9 ⟨rfl, hi, hb, hk⟩; refine ⟨_, rfl, ?_⟩; have z_ := p_ (KeepBut.blk hk (g' := gb723) (o := .cells #[.int .i64 0, .int .i64 0, .int .i64 0, .int .i64 0] 30 (0, 0)) (kb_ BK723) NB723_0.out (by simp)) <| p_ (KeepBut.trans tq_39 hk (.inl rfl)) <| p_ (hb) <| a_ (hi); clear BK723 HK HB HI0; obtain ⟨BK723, HK, HB, HI0⟩ := z_; (try clear hb); (try clear hk); (try clear hi)) | ((with_reducible refine gate_dst (N := 3) rfl ?_); refine be_ 3 (cs := #[.int .i64 0, .int .i64 0, .int .i64 0, .int .i64 0]) 30 ?_; intro gb733 hg w10 hbox hb; have z_ := p_ (IsS105.below tq_64 hb) <| p_ (blk_below (kb_ BK723) hb) <| p_ (KeepBut.trans tq_39 (KeepBut.of_below hb g none) (.inl rfl)) <| p_ (below_step (by repeat (first | (with_reducible first | exact HB.out | apply below_alloc | apply pw_below_drewN | apply below_drew1 | refine below_set ?_ (IsS105.ge HI0.out) | refine below_set ?_ GE723.out) | exact HB.out)) hb) <| p_ (hbox) <| p_ ((by rw [hg]; exact (keep_size (w := w) (g := g) (row := none) tq_39) : w.heap.size ≤ gb733)) <| p_ ((Nat.le_trans HW0.out (by rw [hg]; exact (keep_size (w := w) (g := g) (row := none) tq_39) : w.heap.size ≤ gb733) : w0.heap.size ≤ gb733)) <| p_ (ltne_ hg (blk_lt (kb_ BK723))) <| p_ (gtne_ hg (blk_lt (kb_ BK723))) <| p_ ((by rw [hg]; exact Nat.ne_of_lt (IsS105.lt (show IsS105 w0 _ g s0_0 t731 t732 from tq_64)) : g ≠ gb733)) <| a_ ((by rw [hg]; exact Nat.ne_of_gt (IsS105.lt (show IsS105 w0 _ g s0_0 t731 t732 from tq_64)) : gb733 ≠ g)); clear HI0 BK723 HK HB; obtain ⟨HI0, BK723, HK, HB, BK733, GW733, GE733, NB723_733, NB733_723, NB0_733, NB733_0⟩ := z_; clear hb hbox hg; obtain ⟨n733_723, n723_733, n733_0, n0_733⟩ := an4_ NB733_723 NB723_733 NB733_0 NB0_733; obtain ⟨hcz13_0, hcz13_1, hcz13_2, hcz13_3⟩ := bk4_ BK733.out; obtain ⟨hfz13_0, hfz13_1, hfz13_2, hfz13_3⟩ := bf4_ BK733.out) | ((with_reducible refine gate_callee (f := 53) rfl ?_); refine goesL_ (some 18) rfl rfl Try.func53 (by kernel_rfl) rfl #[.pointer (some ⟨g, 0, none⟩), .int .i64 (wrap64 ((wrap64 (6 + t727)) - 4))] rfl tq_0 ?_; (with_reducible refine (spec_l01Below.calls g s0_0 t731 t732 (wrap64 ((wrap64 (6 + t727)) - 4)) t734 t735 t736 w0 _ ?side1 ?side2 A5.out).mono ?_); (case side1 => repeat (first | (with_reducible first | exact HI0.out | apply IsS105.alloc | apply IsS105.drewN | apply IsS105.drew | apply IsS105.set_1 | apply IsS105.set_2 | refine IsS105.far ?_ NB0_723.out _ | refine IsS105.far ?_ NB0_733.out _) | exact HI0.out)); (case side2 => repeat (first | (with_reducible first | exact HB.out | apply below_alloc | apply pw_below_drewN | apply below_drew1 | refine below_set ?_ (IsS105.ge HI0.out) | refine below_set ?_ GE723.out | refine below_set ?_ GE733.out) | exact HB.out)); rintro e w14 ⟨rfl, hi, hb, hk⟩; refine ⟨_, rfl, ?_⟩; have z_ := p_ (KeepBut.blk hk (g' := gb723) (o := .cells #[.int .i64 0, .int .i64 0, .int .i64 0, .int .i64 0] 30 (0, 0)) (by (with_reducible repeat (first | refine blk_drewN ?_ _ | refine blk_drew ?_ | refine blk_alloc ?_ _)); refine blk_far ?_ NB723_733.out _; (with_reducible repeat (first | refine blk_drewN ?_ _ | refine blk_drew ?_ | refine blk_alloc ?_ _)); refine blk_far ?_ NB723_733.out _; (with_reducible repeat (first | refine blk_drewN ?_ _ | refine blk_drew ?_ | refine blk_alloc ?_ _)); refine blk_far ?_ NB723_733.out _; (with_reducible repeat (first | refine blk_drewN ?_ _ | refine blk_drew ?_ | refine blk_alloc ?_ _)); refine blk_far ?_ NB723_733.out _; (with_reducible repeat (first | refine blk_drewN ?_ _ | refine blk_drew ?_ | refine blk_alloc ?_ _)); exact BK723.out) NB723_0.out (by simp)) <| p_ (KeepBut.blk hk (g' := gb733) (o := .cells #[.int .i64 (wrap64 (1 + t724)), .int .i64 (wrap64 (6 + t727)), .int .i64 (wrap64 (3 + t730)), .int .i64 0] 30 (0, 0)) (by (with_reducible repeat (first | refine blk_drewN ?_ _ | refine blk_drew ?_ | refine blk_alloc ?_ _)); refine blk_put (cs := #[.int .i64 (wrap64 (1 + t724)), .int .i64 (wrap64 (6 + t727)), .int .i64 (wrap64 (3 + t730)), .int .i64 0]) ?_ 3 _ rfl; (with_reducible repeat (first | refine blk_drewN ?_ _ | refine blk_drew ?_ | refine blk_alloc ?_ _)); refine blk_put (cs := #[.int .i64 (wrap64 (1 + t724)), .int .i64 (wrap64 (6 + t727)), .int .i64 0, .int .i64 0]) ?_ 2 _ rfl; (with_reducible repeat (first | refine blk_drewN ?_ _ | refine blk_drew ?_ | refine blk_alloc ?_ _)); refine blk_put (cs := #[.int .i64 (wrap64 (1 + t724)), .int .i64 0, .int .i64 0, .int .i64 0]) ?_ 1 _ rfl; (with_reducible repeat (first | refine blk_drewN ?_ _ | refine blk_drew ?_ | refine blk_alloc ?_ _)); refine blk_put (cs := #[.int .i64 0, .int .i64 0, .int .i64 0, .int .i64 0]) ?_ 0 _ rfl; (with_reducible repeat (first | refine blk_drewN ?_ _ | refine blk_drew ?_ | refine blk_alloc ?_ _)); exact BK733.out) NB733_0.out (by simp)) <| p_ (KeepBut.trans tq_100 hk (.inl rfl)) <| p_ (hb) <| a_ (hi); clear BK723 BK733 HK HB HI0; obtain ⟨BK723, BK733, HK, HB, HI0⟩ := z_; (try clear hb); (try clear hk); (try clear hi); obtain ⟨hcz15_0, hcz15_1, hcz15_2, hcz15_3⟩ := bk4_ BK733.out; obtain ⟨hfz15_0, hfz15_1, hfz15_2, hfz15_3⟩ := bf4_ BK733.out; obtain ⟨hnb16, hnc16⟩ := an2_ NB723_0 NB0_723; obtain ⟨hcz17_0, hcz17_1, hcz17_2, hcz17_3⟩ := bk4_ BK723.out; obtain ⟨hfz17_0, hfz17_1, hfz17_2, hfz17_3⟩ := bf4_ BK723.out))
 refine bodyPost_ret (results_cell_row rfl _ _ gb723 30 #[.int .i64 (wrap64 (1 + t724)), .int .i64 (wrap64 (6 + t727)), .int .i64 (wrap64 (3 + t730)), .int .i64 (wrap64 (1 + t734))] (0, 0) _ rfl tb_ Try.underlying30 rfl (by kernel_rfl)) rfl ?_
 exact ⟨tq_1, (by repeat (first | (with_reducible first | exact HI0.out | apply IsS105.alloc | apply IsS105.drewN | apply IsS105.drew | apply IsS105.set_1 | apply IsS105.set_2 | refine IsS105.far ?_ NB0_723.out _ | refine IsS105.far ?_ NB0_733.out _) | exact HI0.out)), (by repeat (first | (with_reducible first | exact HB.out | apply below_alloc | apply pw_below_drewN | apply below_drew1 | refine below_set ?_ (IsS105.ge HI0.out) | refine below_set ?_ GE723.out | refine below_set ?_ GE733.out) | exact HB.out)), tq_100⟩

end Go.Proofs.Ytljnnmpfeningaa.PFnViews
