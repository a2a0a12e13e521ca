/- Contracts of Go functions, written by a program of ours over the print of the kit: each says that the call returns what the Lean function beside it computes. Conditions: as each theorem states them. -/
import Derived.Test.YtljnnmpfeningaaPkFnViews
import Derived.Test.YtljnnmpfeningaaPFnViewsx0
import Derived.Test.YtljnnmpfeningaaPFnViewsx1
import Derived.Test.YtljnnmpfeningaaPFnViewsx2
import Derived.Test.YtljnnmpfeningaaPFnViewsx3
import Derived.Test.YtljnnmpfeningaaPFnViewsx4
import Derived.Test.YtljnnmpfeningaaPFnViewsx10
import Derived.Test.YtljnnmpfeningaaPFnViewsx16
import Derived.Test.YtljnnmpfeningaaPFnViewsx17
namespace Go.Proofs.Ytljnnmpfeningaa.PFnViews
open Go.RowKit Go.Proofs.YtljnnmpfeningaaW.PrintWords Go.Proofs.YtljnnmpfeningaaW.PrintLast Go.Proofs.YtljnnmpfeningaaW.PrintMore
attribute [local go_sem] max2_int min2_int max_two min_two max_three min_three max_four min_four   -- for this text's walks alone
set_option linter.unusedVariables false
set_option linter.unusedSimpArgs false

attribute [local go_sem high] eqA44
/-! ### laws_FnViews: function 4 -/
mutual
def laws_FnViews.j0 : Nat → List Int → Option (Bool)
 | 0, _ => none
 | k + 1, x0 => (spec_DrawPutItem.f k x0).bind fun bt813 => ((impl_PutItem.f bt813.1 bt813.2.1 bt813.2.2.1 bt813.2.2.2).bind fun t821 => ((impl_DropItem.f t821 bt813.2.1).bind fun t825 => ((spec_PutItem.f k bt813.1 bt813.2.1 bt813.2.2.1 bt813.2.2.2).bind fun t829 => ((spec_SameView.f k t821 t829).bind fun t832 => (if t832 = true then ((spec_DropItem.f k bt813.1 bt813.2.1).bind fun t833 => ((spec_SameView.f k t825 t833).bind fun t836 => (laws_FnViews.j1 k (!t836) bt813.2.1 bt813.2.2.1 bt813.2.2.2 t821 t825))) else (laws_FnViews.j1 k true bt813.2.1 bt813.2.2.1 bt813.2.2.2 t821 t825))))))
def laws_FnViews.j1 : Nat → Bool → ByteArray → Bool → ByteArray → List (S44) → List (S44) → Option (Bool)
 | 0, _, _, _, _, _, _ => none
 | k + 1, x38, x821000, x821001, x821002, x825000, x829000 => if x38 = true then (some false) else (laws_FnViews.j2 k x821000 x821001 x821002 x825000 x829000)
def laws_FnViews.j2 : Nat → ByteArray → Bool → ByteArray → List (S44) → List (S44) → Option (Bool)
 | 0, _, _, _, _, _ => none
 | k + 1, x821000, x821001, x821002, x825000, x829000 => (impl_ItemAt.f x825000 x821000).bind fun t837 => (laws_FnViews.l0 k t837 0 0 x821000 x821001 x821002 x825000 x829000)
def laws_FnViews.l0 : Nat → Int → Int → Int → ByteArray → Bool → ByteArray → List (S44) → List (S44) → Option (Bool)
 | 0, _, _, _, _, _, _, _, _ => none
 | k + 1, x7, x8, x9, x821000, x821001, x821002, x825000, x829000 => if x9 < (x825000.length : Int) then (if 0 ≤ x9 then (if ((rd_T44 x825000 x9).f1 = true) then (laws_FnViews.l0 k x7 x8 (wrap64 (x9 + 1)) x821000 x821001 x821002 x825000 x829000) else ((spec_PagesFor.f (((rd_T44 x825000 x9).f2).size : Int)).bind fun t840 => (laws_FnViews.l0 k x7 (wrap64 (x8 + t840)) (wrap64 (x9 + 1)) x821000 x821001 x821002 x825000 x829000))) else (none)) else (if x7 ≥ 0 then (if x7 < (x825000.length : Int) then (if 0 ≤ x7 then (if ((((rd_T44 x825000 x7).f0).toList) == x821000.toList && (((rd_T44 x825000 x7).f1) == x821001 && ((((rd_T44 x825000 x7).f2).toList) == x821002.toList))) = true then ((impl_ItemAt.f x829000 x821000).bind fun t842 => (if t842 = (-1) then ((impl_PagesIn.f k x825000).bind fun t843 => (if t843 = x8 then ((impl_SameView.f k x825000 x825000).bind fun t844 => (some t844)) else (some false))) else (some false))) else (some false)) else (none)) else (some false)) else (some false))
end
def laws_FnViews.f (k : Nat) (l0 : List Int) : Option (Bool) := (laws_big.f l0).bind fun t812 => (if t812 = true then (some true) else (laws_FnViews.j0 k l0))
theorem laws_FnViews.mono_l : ∀ k, (∀ y0, LeO (laws_FnViews.j0 k y0) (laws_FnViews.j0 (k + 1) y0)) ∧ (∀ y0 y1 y2 y3 y4 y5, LeO (laws_FnViews.j1 k y0 y1 y2 y3 y4 y5) (laws_FnViews.j1 (k + 1) y0 y1 y2 y3 y4 y5)) ∧ (∀ y0 y1 y2 y3 y4, LeO (laws_FnViews.j2 k y0 y1 y2 y3 y4) (laws_FnViews.j2 (k + 1) y0 y1 y2 y3 y4)) ∧ (∀ y0 y1 y2 y3 y4 y5 y6 y7, LeO (laws_FnViews.l0 k y0 y1 y2 y3 y4 y5 y6 y7) (laws_FnViews.l0 (k + 1) y0 y1 y2 y3 y4 y5 y6 y7))
 | 0 => ⟨fun _ r h => by simp [laws_FnViews.j0] at h, fun _ _ _ _ _ _ r h => by simp [laws_FnViews.j1] at h, fun _ _ _ _ _ r h => by simp [laws_FnViews.j2] at h, fun _ _ _ _ _ _ _ _ r h => by simp [laws_FnViews.l0] at h⟩
 | k + 1 => by
  obtain ⟨ih0, ih1, ih2, ih3⟩ := laws_FnViews.mono_l k
  refine ⟨?_, ?_, ?_, ?_⟩
  ·intro y0
   unfold laws_FnViews.j0
   exact mo_9
  ·intro y0 y1 y2 y3 y4 y5
   unfold laws_FnViews.j1
   exact mo_9
  ·intro y0 y1 y2 y3 y4
   unfold laws_FnViews.j2
   exact mo_9
  ·intro y0 y1 y2 y3 y4 y5 y6 y7
   unfold laws_FnViews.l0
   exact mo_9
theorem laws_FnViews.mono : ∀ a0 k, LeO (laws_FnViews.f k a0) (laws_FnViews.f (k + 1) a0) := by
 intro a0 k
 obtain ⟨ih0, ih1, ih2, ih3⟩ := laws_FnViews.mono_l k
 unfold laws_FnViews.f
 repeat' first
   | (with_reducible exact ih0 _)
   | (with_reducible exact ih1 ..)
   | (with_reducible exact ih2 ..)
   | (with_reducible exact ih3 ..)
   | (with_reducible exact impl_PagesIn.mono ..)
   | (with_reducible exact impl_SameView.mono ..)
   | (with_reducible exact spec_DrawPutItem.mono ..)
   | (with_reducible exact spec_DropItem.mono ..)
   | (with_reducible exact spec_PutItem.mono ..)
   | (with_reducible exact spec_SameView.mono ..)
   | (with_reducible exact LeO.refl _)
   | (with_reducible exact LeO.none _)
   | (with_reducible refine LeO.ite ?_ ?_)
   | (with_reducible refine LeO.bind ?_ (fun _ => ?_))
   | exact ih0 _
   | exact ih1 ..
   | exact ih2 ..
   | exact ih3 ..
   | exact impl_PagesIn.mono ..
   | exact impl_SameView.mono ..
   | exact spec_DrawPutItem.mono ..
   | exact spec_DropItem.mono ..
   | exact spec_PutItem.mono ..
   | exact spec_SameView.mono ..
   | exact LeO.none _
   | refine LeO.ite ?_ ?_
   | refine LeO.bind ?_ (fun _ => ?_)
def laws_FnViews.T6 : Bool × List (List Nat × List Nat) := (true, [([], []), ([], []), ([], []), ([1, 2], [1, 2]), ([0, 3, 3], [0, 3]), ([4], [4]), ([5, 4], [5]), ([6], [6]), ([6], [6]), ([6], [6]), ([9, 6], [6, 9]), ([8, 10, 6, 6], [6, 8, 10]), ([7, 11, 11, 6], [6, 7, 11]), ([12, 6], [6, 12]), ([6, 13], [6, 13])])
def laws_FnViews.B6 : List Nat := [0, 0, 0, 6, 15, 31, 63, 127, 127, 127, 639, 1919, 4095, 8191, 16383]
theorem laws_FnViews.tab6 : rtab .any (opsOf Try.f4 6) = laws_FnViews.T6 := by kernel_rfl
theorem laws_FnViews.bits6 : waitsOk laws_FnViews.T6.2 laws_FnViews.B6 = true := by kernel_rfl
def laws_FnViews.T15 : Bool × List (List Nat × List Nat) := (true, [([], []), ([0], [0]), ([1], [1]), ([2], [2]), ([2], [2]), ([4, 2], [2, 4]), ([5, 2], [2, 5]), ([3, 6, 2], [2, 3, 6]), ([2, 7], [2, 7]), ([8, 2], [8]), ([9], [9]), ([10, 9], [9, 10]), ([9], [9]), ([11, 12, 9], [9, 11, 12]), ([13, 9], [9, 13]), ([9], [9]), ([14, 15, 9], [9, 14, 15]), ([9, 16], [9, 16]), ([17, 9], [17]), ([18], [18]), ([18], [18]), ([20, 18], [18, 20]), ([19, 21, 18, 18], [18, 19, 21]), ([22, 18], [18, 22]), ([18, 23], [18, 23]), ([24, 22], [24]), ([25], [25]), ([26, 25, 25], [25, 26]), ([25], [25]), ([27, 28, 25], [25, 27, 28]), ([25, 29], [25, 29]), ([30, 27], [30]), ([31], [31]), ([31], [31]), ([32, 33, 31, 31], [31, 32, 33]), ([31, 34], [31, 34]), ([35, 34, 0, 1, 2, 3, 4, 5, 6, 7, 8, 9, 10, 11, 12, 13, 14, 15, 16, 17, 18, 19, 20, 21, 22, 23, 24, 25, 26, 27, 28, 29, 30, 31, 32, 33, 34, 35], [35])])
def laws_FnViews.B15 : List Nat := [0, 1, 3, 7, 7, 23, 55, 127, 255, 511, 1023, 2047, 1023, 8191, 16383, 1023, 65535, 131071, 262143, 524287, 524287, 1572863, 4194303, 8388607, 16777215, 33554431, 67108863, 134217727, 67108863, 536870911, 1073741823, 2147483647, 4294967295, 4294967295, 17179869183, 34359738367, 68719476735]
theorem laws_FnViews.tab15 : rtab .any (opsOf Try.f4 15) = laws_FnViews.T15 := by kernel_rfl
theorem laws_FnViews.bits15 : waitsOk laws_FnViews.T15.2 laws_FnViews.B15 = true := by kernel_rfl
set_option maxHeartbeats 8000000 in
set_option maxRecDepth 100000 in
theorem laws_FnViews.calls (k : Nat) (A0 : Option Addr) (c0 : Nat) (l0 : List Int) (r : Bool) (w : World) (hr0 : Kd.C (Kd.int .u8) w A0 l0.length l0) (hc0 : l0.length ≤ c0) (h : laws_FnViews.f k l0 = some r) :
  Calls Try.prog 4 #[.slice A0 l0.length c0] w fun e w' => e = .returned (.bool r) ∧ Below w.heap.size w w' := by
 have hu42 := Try.underlying42
 have hu44 := Try.underlying44
 have HR0 := Aside0.mk hr0
 have HC0 := Aside0.mk hc0
 clear hr0 hc0
 have HB := Aside0.mk (Below.refl w.heap.size w)
 unfold laws_FnViews.f at h
 have H := h
 clear h
 obtain ⟨t812, A2, H⟩ := bd_ H
 have HC3 := Aside0.mk H
 clear H
 go_enter Try.func4, Try.ntmps4
 go_upto_if 11 with (first | ((with_reducible refine gate_callee (f := 12) rfl ?_); refine goesL_ (some 11) rfl rfl Try.func12 (by kernel_rfl) rfl #[.slice A0 l0.length c0] rfl tq_0 ?_; (with_reducible refine (laws_big.calls _ _ l0 t812 _ ?side1 ?side2 A2.out).mono ?_); (case side1 => repeat (first | exact HR0.out | (with_reducible refine Kd.C_alloc ?_ _) | (with_reducible refine Kd.C_drewN ?_ _) | (with_reducible refine Kd.C_drew ?_))); (case side2 => exact HC0.out); rintro e w' ⟨rfl, ⟨nd, rfl⟩⟩; refine ⟨_, rfl, ?_⟩))
 (try simp only [Act.put, List.setIfInBounds_toArray, List.set_cons_zero, List.set_cons_succ])
 go_cut [] (fun wc => ∃ (kq : Nat), Aside0 (laws_FnViews.j0 kq l0 = some r) ∧ Aside0 (kq ≤ k) ∧ Aside0 (Below w.heap.size w wc))
 case first =>
  have H := HC3.out
  clear HC3
  by_cases c4 : t812 = true
  ·subst c4
   rw [if_pos rfl] at H
   obtain rfl := Option.some.inj H
   go_wp2
   go_ret
   exact ⟨tq_1, th_⟩
  replace c4 := Bool.eq_false_iff.mpr c4
  subst c4
  rw [if_neg nf_] at H
  have H' := Aside0.mk H
  clear H
  go_wp2
  go_meet
  case rel => exact ⟨_, H', ⟨tq_38⟩, ⟨th_⟩⟩
 case rest =>
 clear HC3
 try clear c1; try clear p2; try clear c4
 obtain ⟨kq, HA, HJ2, HB⟩ := hcut
 cases kq with
 | zero => exact absurd HA.out (by simp [laws_FnViews.j0])
 | succ kj2 =>
 have H := HA.out
 clear HA
 simp only [laws_FnViews.j0] at H
 obtain ⟨⟨t813, t816, t817, t818⟩, A5, H⟩ := bd_ H
 try dsimp -simprocs only at H
 obtain ⟨t821, A6, H⟩ := bd_ H
 obtain ⟨t825, A7, H⟩ := bd_ H
 have HC8 := Aside0.mk H
 clear H
 go_upto_region 6 with (first | ((with_reducible refine gate_callee (f := 13) rfl ?_); refine goesL_ (some 14) rfl rfl Try.func13 (by kernel_rfl) rfl #[.slice A0 l0.length c0] rfl tq_0 ?_; (with_reducible refine (spec_DrawPutItem.calls kj2 _ _ l0 t813 t816 t817 t818 _ ?side1 ?side2 A5.out).mono ?_); (case side1 => repeat (first | exact (Kd.C_below HR0.out HB.out) | (with_reducible refine Kd.C_alloc ?_ _) | (with_reducible refine Kd.C_drewN ?_ _) | (with_reducible refine Kd.C_drew ?_))); (case side2 => exact HC0.out); rintro e w9 ⟨v814, rfl, ho0, hb⟩; refine ⟨_, rfl, ?_⟩; have z_ := p_ (Kd.R_lower ho0 (below_size th_)) <| a_ (below_step th_ hb); clear HB; obtain ⟨HO815, HB⟩ := z_; (try clear hb); (try clear ho0)) | ((with_reducible refine gate_dst (N := 3) rfl ?_); (try (refine gate_guard (by rfl) ?_; dsimp only)); refine be_ 3 (cs := #[.slice none 0 0]) 42 ?_; intro gb819 hg w10 hbox hb; have z_ := p_ (Kd.R_below (raR_ HO815) hb) <| bx0_ th_ hb hbox hg; clear HO815 HB; obtain ⟨HO815, HB, BK819, GW819, GE819⟩ := z_; clear hb hbox hg) | ((with_reducible refine gate_dst (N := 4) rfl ?_); (try (refine gate_guard (by rfl) ?_; dsimp only)); refine be_ 4 (cs := #[.string (⟨#[]⟩ : ByteArray), .bool false, .string (⟨#[]⟩ : ByteArray)]) 44 ?_; intro gb820 hg w11 hbox hb; have z_ := p_ (Kd.R_below (Kd.R_elderB (raR_ HO815) gb820 (Nat.le_of_eq hg.symm)) hb) <| bx1_ (kb_ BK819) th_ hb hbox hg; clear HO815 BK819 HB; obtain ⟨HO815, BK819, HB, BK820, GW820, GE820, NB819_820, NB820_819⟩ := z_; clear hb hbox hg; obtain ⟨Ao12, co12, eo12⟩ := Kd.R_slice HO815.out; subst eo12; obtain ⟨n819_820, n820_819⟩ := an2_ NB819_820 NB820_819; have hcz14_0 := bc_ BK819.out 0; have hfz14_0 := blk_frozen BK819.out 0; obtain ⟨hcz15_0, hcz15_1, hcz15_2⟩ := bk3_ BK820.out; obtain ⟨hfz15_0, hfz15_1, hfz15_2⟩ := bf3_ BK820.out) | ((with_reducible refine gate_callee (f := 14) rfl ?_); refine goesL_ (some 19) rfl rfl Try.func14 (by kernel_rfl) rfl #[.agg #[.slice Ao12 t813.length co12], .agg #[.string t816, .bool t817, .string t818]] rfl tq_0 ?_; (with_reducible refine (impl_PutItem.calls _ _ t813 t816 t817 t818 t821 _ ?side1 ?side2 A6.out).mono ?_); (case side1 => refine (Kd.R_reads' (e := 44) (base := w.heap.size) (ok := fun k_ => (True ∧ k_ ≠ gb820)) (n := t813.length) (c := co12) ?_).2.2; exact tq_53); (case side2 => exact (Kd.R_reads' HO815.out).2.1); rintro e w16 ⟨v822, rfl, ho0, hb⟩; refine ⟨_, rfl, ?_⟩; have z_ := p_ (Kd.R_elder' tq_53 (Kd.R_base ho0) hb) <| p_ (Kd.R_lower (Kd.R_newB (Kd.R_new' ho0 (Kd.R_lt tq_53)) (g := gb820) (o := .cells #[.string t816, .bool t817, .string t818] 44 (0, 0)) tq_40) (below_size th_)) <| p_ (blk_below (g := gb819) (o := .cells #[.slice Ao12 t813.length co12] 42 (0, 0)) (by (with_reducible repeat (first | refine blk_drewN ?_ _ | refine blk_drew ?_ | refine blk_alloc ?_ _)); refine blk_far ?_ NB819_820.out _; (with_reducible repeat (first | refine blk_drewN ?_ _ | refine blk_drew ?_ | refine blk_alloc ?_ _)); refine blk_far ?_ NB819_820.out _; (with_reducible repeat (first | refine blk_drewN ?_ _ | refine blk_drew ?_ | refine blk_alloc ?_ _)); refine blk_far ?_ NB819_820.out _; (with_reducible repeat (first | refine blk_drewN ?_ _ | refine blk_drew ?_ | refine blk_alloc ?_ _)); refine blk_put (cs := #[.slice none 0 0]) ?_ 0 _ rfl; (with_reducible repeat (first | refine blk_drewN ?_ _ | refine blk_drew ?_ | refine blk_alloc ?_ _)); exact BK819.out) hb) <| p_ (blk_below (g := gb820) (o := .cells #[.string t816, .bool t817, .string t818] 44 (0, 0)) tq_40 hb) <| a_ (below_step th_ hb); clear HO815 BK819 BK820 HB; obtain ⟨HO815, HO823, BK819, BK820, HB⟩ := z_; (try clear hb); (try clear hk)) | ((with_reducible refine gate_dst (N := 5) rfl ?_); (try (refine gate_guard (by rfl) ?_; dsimp only)); refine be_ 5 (cs := #[.slice none 0 0]) 42 ?_; intro gb824 hg w17 hbox hb; have z_ := p_ (Kd.R_below (raR_ HO815) hb) <| p_ (Kd.R_below (raR_ HO823) hb) <| bx2_ (kb_ BK819) (kb_ BK820) th_ hb hbox hg; clear HO815 HO823 BK819 BK820 HB; obtain ⟨HO815, HO823, BK819, BK820, HB, BK824, GW824, GE824, NB819_824, NB824_819, NB820_824, NB824_820⟩ := z_; clear hb hbox hg; obtain ⟨Ao18, co18, eo18⟩ := Kd.R_slice HO823.out; subst eo18; obtain ⟨n824_819, n819_824, n824_820, n820_824⟩ := an4_ NB824_819 NB819_824 NB824_820 NB820_824; have hcz21_0 := bc_ BK824.out 0; have hfz21_0 := blk_frozen BK824.out 0; obtain ⟨hcz22_0, hcz22_1, hcz22_2⟩ := bk3_ BK820.out; obtain ⟨hfz22_0, hfz22_1, hfz22_2⟩ := bf3_ BK820.out) | ((with_reducible refine gate_callee (f := 15) rfl ?_); refine goesL_ (some 23) rfl rfl Try.func15 (by kernel_rfl) rfl #[.agg #[.slice Ao18 t821.length co18], .string t816] rfl tq_0 ?_; (with_reducible refine (impl_DropItem.calls _ _ t821 t816 t825 _ ?side1 ?side2 A7.out).mono ?_); (case side1 => refine (Kd.R_reads' (e := 44) (base := w.heap.size) (ok := fun k_ => ((True ∧ some k_ ≠ (.slice Ao12 t813.length co12 : Value).ownBlock) ∧ k_ ≠ gb820)) (n := t821.length) (c := co18) ?_).2.2; exact tq_72); (case side2 => exact (Kd.R_reads' HO823.out).2.1); rintro e w23 ⟨v826, rfl, ho0, hb⟩; refine ⟨_, rfl, ?_⟩; have z_ := p_ (Kd.R_elder' tq_110 (Kd.R_base ho0) hb) <| p_ (Kd.R_elder' tq_72 (Kd.R_base ho0) hb) <| p_ (Kd.R_lower (Kd.R_newB (Kd.R_new' (Kd.R_new' ho0 (Kd.R_lt tq_110)) (Kd.R_lt tq_72)) (g := gb820) (o := .cells #[.string t816, .bool t817, .string t818] 44 (0, 0)) tq_91) (below_size th_)) <| p_ (blk_below (g := gb819) (o := .cells #[.slice Ao12 t813.length co12] 42 (0, 0)) (by (with_reducible repeat (first | refine blk_drewN ?_ _ | refine blk_drew ?_ | refine blk_alloc ?_ _)); refine blk_far ?_ NB819_824.out _; (with_reducible repeat (first | refine blk_drewN ?_ _ | refine blk_drew ?_ | refine blk_alloc ?_ _)); exact BK819.out) hb) <| p_ (blk_below (g := gb820) (o := .cells #[.string t816, .bool t817, .string t818] 44 (0, 0)) tq_91 hb) <| p_ (blk_below (g := gb824) (o := .cells #[.slice Ao18 t821.length co18] 42 (0, 0)) (by (with_reducible repeat (first | refine blk_drewN ?_ _ | refine blk_drew ?_ | refine blk_alloc ?_ _)); refine blk_put (cs := #[.slice none 0 0]) ?_ 0 _ rfl; (with_reducible repeat (first | refine blk_drewN ?_ _ | refine blk_drew ?_ | refine blk_alloc ?_ _)); exact BK824.out) hb) <| a_ (below_step th_ hb); clear HO815 HO823 BK819 BK820 BK824 HB; obtain ⟨HO815, HO823, HO827, BK819, BK820, BK824, HB⟩ := z_; (try clear hb); (try clear hk); (try clear ho0)) | ((with_reducible refine gate_dst (N := 6) rfl ?_); (try (refine gate_guard (by rfl) ?_; dsimp only)); refine be_ 6 (cs := #[.slice none 0 0]) 42 ?_; intro gb828 hg w24 hbox hb; have z_ := p_ (Kd.R_below (raR_ HO815) hb) <| p_ (Kd.R_below (raR_ HO823) hb) <| p_ (Kd.R_below (raR_ HO827) hb) <| bx3_ (kb_ BK819) (kb_ BK820) (kb_ BK824) th_ hb hbox hg; clear HO815 HO823 HO827 BK819 BK820 BK824 HB; obtain ⟨HO815, HO823, HO827, BK819, BK820, BK824, HB, BK828, GW828, GE828, NB819_828, NB828_819, NB820_828, NB828_820, NB824_828, NB828_824⟩ := z_; clear hb hbox hg; obtain ⟨Ao25, co25, eo25⟩ := Kd.R_slice HO827.out; subst eo25; obtain ⟨n828_819, n819_828, n828_820, n820_828, n828_824, n824_828⟩ := an6_ NB828_819 NB819_828 NB828_820 NB820_828 NB828_824 NB824_828; have hcz29_0 := bc_ BK828.out 0; have hfz29_0 := blk_frozen BK828.out 0))
 (try simp only [Act.put, List.setIfInBounds_toArray, List.set_cons_zero, List.set_cons_succ])
 go_cut [38] (fun v38 wc => ∃ (kq : Nat) (x38_7 : Bool), v38 = .bool x38_7 ∧ Aside0 (laws_FnViews.j1 kq x38_7 t816 t817 t818 t821 t825 = some r) ∧ Aside0 (kq ≤ kj2) ∧ Aside0 (Kd.R k44 44 wc w.heap.size (fun k_ => some k_ ≠ ((.slice Ao18 t821.length co18) : Value).ownBlock ∧ some k_ ≠ ((.slice Ao25 t825.length co25) : Value).ownBlock ∧ k_ ≠ gb820) (.slice Ao12 t813.length co12) t813) ∧ Aside0 (Kd.R k44 44 wc w.heap.size (fun k_ => some k_ ≠ ((.slice Ao12 t813.length co12) : Value).ownBlock ∧ some k_ ≠ ((.slice Ao25 t825.length co25) : Value).ownBlock ∧ k_ ≠ gb820) (.slice Ao18 t821.length co18) t821) ∧ Aside0 (Kd.R k44 44 wc w.heap.size (fun k_ => some k_ ≠ ((.slice Ao12 t813.length co12) : Value).ownBlock ∧ some k_ ≠ ((.slice Ao18 t821.length co18) : Value).ownBlock ∧ k_ ≠ gb820) (.slice Ao25 t825.length co25) t825) ∧ Aside0 (wc.heap[gb819]? = some (.cells #[(.slice Ao12 t813.length co12)] 42 (0, 0))) ∧ Aside0 (wc.heap[gb820]? = some (.cells #[.string t816, .bool t817, .string t818] 44 (0, 0))) ∧ Aside0 (wc.heap[gb824]? = some (.cells #[(.slice Ao18 t821.length co18)] 42 (0, 0))) ∧ Aside0 (wc.heap[gb828]? = some (.cells #[(.slice Ao25 t825.length co25)] 42 (0, 0))) ∧ Aside0 (Below w.heap.size w wc))
 case first =>
  have H := HC8.out
  clear HC8
  obtain ⟨t829, A30, H⟩ := bd_ H
  obtain ⟨t832, A31, H⟩ := bd_ H
  by_cases c32 : t832 = true
  rotate_left
  ·replace c32 := Bool.eq_false_iff.mpr c32
   subst c32
   rw [if_neg nf_] at H
   have H' := Aside0.mk H
   clear H
   try go_wp2
   have n0_ : Aside0 (Kd.R k44 44 (w24.setCell ⟨gb828, 0, none⟩ (.slice Ao25 t825.length co25)) w.heap.size (fun k_ => some k_ ≠ (.slice Ao18 t821.length co18 : Value).ownBlock ∧ some k_ ≠ (.slice Ao25 t825.length co25 : Value).ownBlock ∧ k_ ≠ gb820) (.slice Ao12 t813.length co12) t813) := ⟨tq_106⟩
   have n1_ : Aside0 (Kd.R k44 44 (w24.setCell ⟨gb828, 0, none⟩ (.slice Ao25 t825.length co25)) w.heap.size (fun k_ => some k_ ≠ (.slice Ao12 t813.length co12 : Value).ownBlock ∧ some k_ ≠ (.slice Ao25 t825.length co25 : Value).ownBlock ∧ k_ ≠ gb820) (.slice Ao18 t821.length co18) t821) := ⟨tq_105⟩
   have n2_ : Aside0 (Kd.R k44 44 (w24.setCell ⟨gb828, 0, none⟩ (.slice Ao25 t825.length co25)) w.heap.size (fun k_ => some k_ ≠ (.slice Ao12 t813.length co12 : Value).ownBlock ∧ some k_ ≠ (.slice Ao18 t821.length co18 : Value).ownBlock ∧ k_ ≠ gb820) (.slice Ao25 t825.length co25) t825) := ⟨tq_104⟩
   have n3_ : Aside0 ((w24.setCell ⟨gb828, 0, none⟩ (.slice Ao25 t825.length co25)).heap[gb819]? = some (.cells #[.slice Ao12 t813.length co12] 42 (0, 0))) := ⟨tb_⟩
   have n4_ : Aside0 ((w24.setCell ⟨gb828, 0, none⟩ (.slice Ao25 t825.length co25)).heap[gb820]? = some (.cells #[.string t816, .bool t817, .string t818] 44 (0, 0))) := ⟨tb_⟩
   have n5_ : Aside0 ((w24.setCell ⟨gb828, 0, none⟩ (.slice Ao25 t825.length co25)).heap[gb824]? = some (.cells #[.slice Ao18 t821.length co18] 42 (0, 0))) := ⟨tb_⟩
   have n6_ : Aside0 ((w24.setCell ⟨gb828, 0, none⟩ (.slice Ao25 t825.length co25)).heap[gb828]? = some (.cells #[.slice Ao25 t825.length co25] 42 (0, 0))) := ⟨tb_⟩
   have n7_ : Aside0 (Below w.heap.size w (w24.setCell ⟨gb828, 0, none⟩ (.slice Ao25 t825.length co25))) := ⟨th_⟩
   (try clear HO815)
   (try clear HO823)
   (try clear HO827)
   (try clear BK819)
   (try clear BK820)
   (try clear BK824)
   (try clear BK828)
   (try clear HB)
   generalize (w24.setCell ⟨gb828, 0, none⟩ (.slice Ao25 t825.length co25)) = w43 at n0_ n1_ n2_ n3_ n4_ n5_ n6_ n7_ ⊢
   have HO815 := n0_
   have HO823 := n1_
   have HO827 := n2_
   have BK819 := n3_
   have BK820 := n4_
   have BK824 := n5_
   have BK828 := n6_
   have HB := n7_
   clear n0_ n1_ n2_ n3_ n4_ n5_ n6_ n7_
   have z_ := p_ (Kd.R_drew HO815.out) <| p_ (Kd.R_drew HO823.out) <| p_ (Kd.R_drew HO827.out) <| dw4_ BK819 BK820 BK824 BK828 HB
   clear HO815 HO823 HO827 BK819 BK820 BK824 BK828 HB
   obtain ⟨HO815, HO823, HO827, BK819, BK820, BK824, BK828, HB⟩ := z_
   refine start_ (n := 15) (S := fun w' => w'.cell? ⟨gb824, 0, none⟩ = some (.slice Ao18 t821.length co18) ∧ w'.cell? ⟨gb819, 0, none⟩ = some (.slice Ao12 t813.length co12) ∧ w'.cell? ⟨gb820, 0, none⟩ = some (.string t816) ∧ w'.cell? ⟨gb820, 1, none⟩ = some (.bool t817) ∧ w'.cell? ⟨gb820, 2, none⟩ = some (.string t818)) (ds := []) bq_53 (by kernel_rfl) rfl rfl ⟨(blk_cell BK824.out 0).trans rfl, (blk_cell BK819.out 0).trans rfl, bk3_ BK820.out⟩ (fun hHeld => ?_); refine with_tabW laws_FnViews.tab6 laws_FnViews.bits6 (fun HT_ HW_ => ?_)
   generalize w43.drew = w44 at HO815 HO823 HO827 BK819 BK820 BK824 BK828 HB hHeld ⊢
   refine tr_ 0 24 bq_54 HT_ HW_ hHeld ?_
   refine tr_ 1 25 bq_55 HT_ HW_ hHeld ?_
   refine tr_ 2 26 bq_56 HT_ HW_ hHeld ?_
   refine one_ (i := 3) (N := some 27) bq_57 rfl rfl (one_of HT_.out (by kernel_rfl)) (by decide) (fun K hK => ?_)
   refine goes_ Try.func17 (by kernel_rfl) rfl #[.agg #[.slice Ao12 t813.length co12], .agg #[.string t816, .bool t817, .string t818]] (by rfl) rfl rfl tq_0 ?_
   with_reducible refine (spec_PutItem.calls kj2 _ _ t813 t816 t817 t818 t829 _ ?side1 ?side2 A30.out).mono ?_
   (case side1 => exact tq_75)
   (case side2 => exact (Kd.R_reads' HO815.out).2.1)
   rintro e w45 ⟨v830, rfl, ho0, hb⟩
   refine ⟨_, rfl, ?_⟩
   have z_ := p_ (Kd.R_elder' (raR_ HO815) (Kd.R_base ho0) hb) <| p_ (Kd.R_elder' (raR_ HO823) (Kd.R_base ho0) hb) <| p_ (Kd.R_elder' (raR_ HO827) (Kd.R_base ho0) hb) <| p_ (Kd.R_lower (Kd.R_newB (Kd.R_new' (Kd.R_new' (Kd.R_new' ho0 (Kd.R_lt (raR_ HO815))) (Kd.R_lt (raR_ HO823))) (Kd.R_lt (raR_ HO827))) (g := gb820) (o := .cells #[.string t816, .bool t817, .string t818] 44 (0, 0)) (kb_ BK820)) (below_size th_)) <| bw4_ (kb_ BK819) (kb_ BK820) (kb_ BK824) (kb_ BK828) th_ hb
   clear HO815 HO823 HO827 BK819 BK820 BK824 BK828 HB
   obtain ⟨HO815, HO823, HO827, HO831, BK819, BK820, BK824, BK828, HB⟩ := z_
   (try clear hb)
   (try clear ho0)
   obtain ⟨Ao46, co46, eo46⟩ := Kd.R_slice HO831.out
   (first | subst eo46 | (injection eo46 with f1_ f2_ f3_; have f4_ := f1_.symm; have f5_ := f3_.symm; clear f1_ f2_ f3_; subst f4_; subst f5_))
   refine hK.out _ _ ⟨(blk_cell BK824.out 0).trans rfl, (blk_cell BK819.out 0).trans rfl, bk3_ BK820.out⟩ (fun hHeld => ?_)
   clear hK K
   refine nm_ (some 27) ?_
   refine one_ (i := 4) (N := some 28) bq_58 rfl rfl (one_of HT_.out (by kernel_rfl)) (by decide) (fun K hK => ?_)
   refine goes_ Try.func16 (by kernel_rfl) rfl #[.agg #[.slice Ao18 t821.length co18], .agg #[.slice Ao46 t829.length co46]] (by rfl) rfl rfl tq_0 ?_
   with_reducible refine (spec_SameView.calls kj2 _ _ t821 _ _ t829 false _ ?side1 ?side2 ?side3 ?side4 A31.out).mono ?_
   (case side1 => exact tq_115)
   (case side2 => exact (Kd.R_reads' HO823.out).2.1)
   (case side3 => exact tq_114)
   (case side4 => exact (Kd.R_reads' HO831.out).2.1)
   rintro e w47 ⟨rfl, hb⟩
   refine ⟨_, rfl, ?_⟩
   have z_ := p_ (Kd.R_below (raR_ HO815) hb) <| p_ (Kd.R_below (raR_ HO823) hb) <| p_ (Kd.R_below (raR_ HO827) hb) <| p_ (Kd.R_below (raR_ HO831) hb) <| bw4_ (kb_ BK819) (kb_ BK820) (kb_ BK824) (kb_ BK828) th_ hb
   clear HO815 HO823 HO827 HO831 BK819 BK820 BK824 BK828 HB
   obtain ⟨HO815, HO823, HO827, HO831, BK819, BK820, BK824, BK828, HB⟩ := z_
   (try clear hb)
   refine hK.out _ _ ⟨(blk_cell BK824.out 0).trans rfl, (blk_cell BK819.out 0).trans rfl, bk3_ BK820.out⟩ (fun hHeld => ?_)
   clear hK K
   refine nm_ (some 28) ?_
   refine yr_ 5 29 bq_59 HT_ ?_
   refine yr_ 6 30 bq_60 HT_ ?_
   refine ur_ 7 31 bq_94 HT_ ?_
   refine ur_ 8 32 bq_95 HT_ ?_
   refine ur_ 9 33 bq_74 HT_ ?_
   refine ur_ 10 34 bq_61 HT_ ?_
   refine ur_ 11 35 bq_62 HT_ ?_
   refine ur_ 12 36 bq_63 HT_ ?_
   refine ur_ 13 37 bq_64 HT_ ?_
   refine yr_ 14 38 bq_65 HT_ ?_
   refine done_ (done_of HT_.out (by kernel_rfl)) ?_
   try go_wp2
   go_meet
   case rel => exact ⟨_, (true), tq_5, H', ⟨(by have := HJ2.out; first | omega | exact Nat.le_refl _)⟩, ⟨(by (with_reducible repeat (first | apply Kd.R_alloc | apply Kd.R_drewN | apply Kd.R_drew)); exact Kd.R_mono HO815.out (fun _ hk => ⟨hk.1.1, ⟨hk.1.2.1, hk.1.2.2⟩⟩))⟩, ⟨(by (with_reducible repeat (first | apply Kd.R_alloc | apply Kd.R_drewN | apply Kd.R_drew)); exact Kd.R_mono HO823.out (fun _ hk => ⟨hk.1.1, ⟨hk.1.2.1, hk.1.2.2⟩⟩))⟩, ⟨(by (with_reducible repeat (first | apply Kd.R_alloc | apply Kd.R_drewN | apply Kd.R_drew)); exact Kd.R_mono HO827.out (fun _ hk => ⟨hk.1.1, ⟨hk.1.2.1, hk.1.2.2⟩⟩))⟩, ⟨(kb_ BK819)⟩, ⟨(kb_ BK820)⟩, ⟨(kb_ BK824)⟩, ⟨(kb_ BK828)⟩, ⟨th_⟩⟩
  subst c32
  rw [if_pos rfl] at H
  obtain ⟨t833, A33, H⟩ := bd_ H
  obtain ⟨t836, A34, H⟩ := bd_ H
  have H' := Aside0.mk H
  clear H
  try go_wp2
  have n0_ : Aside0 (Kd.R k44 44 (w24.setCell ⟨gb828, 0, none⟩ (.slice Ao25 t825.length co25)) w.heap.size (fun k_ => some k_ ≠ (.slice Ao18 t821.length co18 : Value).ownBlock ∧ some k_ ≠ (.slice Ao25 t825.length co25 : Value).ownBlock ∧ k_ ≠ gb820) (.slice Ao12 t813.length co12) t813) := ⟨tq_106⟩
  have n1_ : Aside0 (Kd.R k44 44 (w24.setCell ⟨gb828, 0, none⟩ (.slice Ao25 t825.length co25)) w.heap.size (fun k_ => some k_ ≠ (.slice Ao12 t813.length co12 : Value).ownBlock ∧ some k_ ≠ (.slice Ao25 t825.length co25 : Value).ownBlock ∧ k_ ≠ gb820) (.slice Ao18 t821.length co18) t821) := ⟨tq_105⟩
  have n2_ : Aside0 (Kd.R k44 44 (w24.setCell ⟨gb828, 0, none⟩ (.slice Ao25 t825.length co25)) w.heap.size (fun k_ => some k_ ≠ (.slice Ao12 t813.length co12 : Value).ownBlock ∧ some k_ ≠ (.slice Ao18 t821.length co18 : Value).ownBlock ∧ k_ ≠ gb820) (.slice Ao25 t825.length co25) t825) := ⟨tq_104⟩
  have n3_ : Aside0 ((w24.setCell ⟨gb828, 0, none⟩ (.slice Ao25 t825.length co25)).heap[gb819]? = some (.cells #[.slice Ao12 t813.length co12] 42 (0, 0))) := ⟨tb_⟩
  have n4_ : Aside0 ((w24.setCell ⟨gb828, 0, none⟩ (.slice Ao25 t825.length co25)).heap[gb820]? = some (.cells #[.string t816, .bool t817, .string t818] 44 (0, 0))) := ⟨tb_⟩
  have n5_ : Aside0 ((w24.setCell ⟨gb828, 0, none⟩ (.slice Ao25 t825.length co25)).heap[gb824]? = some (.cells #[.slice Ao18 t821.length co18] 42 (0, 0))) := ⟨tb_⟩
  have n6_ : Aside0 ((w24.setCell ⟨gb828, 0, none⟩ (.slice Ao25 t825.length co25)).heap[gb828]? = some (.cells #[.slice Ao25 t825.length co25] 42 (0, 0))) := ⟨tb_⟩
  have n7_ : Aside0 (Below w.heap.size w (w24.setCell ⟨gb828, 0, none⟩ (.slice Ao25 t825.length co25))) := ⟨th_⟩
  (try clear HO815)
  (try clear HO823)
  (try clear HO827)
  (try clear BK819)
  (try clear BK820)
  (try clear BK824)
  (try clear BK828)
  (try clear HB)
  generalize (w24.setCell ⟨gb828, 0, none⟩ (.slice Ao25 t825.length co25)) = w35 at n0_ n1_ n2_ n3_ n4_ n5_ n6_ n7_ ⊢
  have HO815 := n0_
  have HO823 := n1_
  have HO827 := n2_
  have BK819 := n3_
  have BK820 := n4_
  have BK824 := n5_
  have BK828 := n6_
  have HB := n7_
  clear n0_ n1_ n2_ n3_ n4_ n5_ n6_ n7_
  have z_ := p_ (Kd.R_drew HO815.out) <| p_ (Kd.R_drew HO823.out) <| p_ (Kd.R_drew HO827.out) <| dw4_ BK819 BK820 BK824 BK828 HB
  clear HO815 HO823 HO827 BK819 BK820 BK824 BK828 HB
  obtain ⟨HO815, HO823, HO827, BK819, BK820, BK824, BK828, HB⟩ := z_
  refine start_ (n := 15) (S := fun w' => w'.cell? ⟨gb824, 0, none⟩ = some (.slice Ao18 t821.length co18) ∧ w'.cell? ⟨gb819, 0, none⟩ = some (.slice Ao12 t813.length co12) ∧ w'.cell? ⟨gb820, 0, none⟩ = some (.string t816) ∧ w'.cell? ⟨gb820, 1, none⟩ = some (.bool t817) ∧ w'.cell? ⟨gb820, 2, none⟩ = some (.string t818) ∧ w'.cell? ⟨gb828, 0, none⟩ = some (.slice Ao25 t825.length co25)) (ds := []) bq_53 (by kernel_rfl) rfl rfl ⟨(blk_cell BK824.out 0).trans rfl, (blk_cell BK819.out 0).trans rfl, bc3_ BK820.out ((blk_cell BK828.out 0).trans rfl)⟩ (fun hHeld => ?_); refine with_tabW laws_FnViews.tab6 laws_FnViews.bits6 (fun HT_ HW_ => ?_)
  generalize w35.drew = w36 at HO815 HO823 HO827 BK819 BK820 BK824 BK828 HB hHeld ⊢
  refine tr_ 0 24 bq_54 HT_ HW_ hHeld ?_
  refine tr_ 1 25 bq_55 HT_ HW_ hHeld ?_
  refine tr_ 2 26 bq_56 HT_ HW_ hHeld ?_
  refine one_ (i := 3) (N := some 27) bq_57 rfl rfl (one_of HT_.out (by kernel_rfl)) (by decide) (fun K hK => ?_)
  refine goes_ Try.func17 (by kernel_rfl) rfl #[.agg #[.slice Ao12 t813.length co12], .agg #[.string t816, .bool t817, .string t818]] (by rfl) rfl rfl tq_0 ?_
  with_reducible refine (spec_PutItem.calls kj2 _ _ t813 t816 t817 t818 t829 _ ?side1 ?side2 A30.out).mono ?_
  (case side1 => exact tq_75)
  (case side2 => exact (Kd.R_reads' HO815.out).2.1)
  rintro e w37 ⟨v830, rfl, ho0, hb⟩
  refine ⟨_, rfl, ?_⟩
  have z_ := p_ (Kd.R_elder' (raR_ HO815) (Kd.R_base ho0) hb) <| p_ (Kd.R_elder' (raR_ HO823) (Kd.R_base ho0) hb) <| p_ (Kd.R_elder' (raR_ HO827) (Kd.R_base ho0) hb) <| p_ (Kd.R_lower (Kd.R_newB (Kd.R_new' (Kd.R_new' (Kd.R_new' ho0 (Kd.R_lt (raR_ HO815))) (Kd.R_lt (raR_ HO823))) (Kd.R_lt (raR_ HO827))) (g := gb820) (o := .cells #[.string t816, .bool t817, .string t818] 44 (0, 0)) (kb_ BK820)) (below_size th_)) <| bw4_ (kb_ BK819) (kb_ BK820) (kb_ BK824) (kb_ BK828) th_ hb
  clear HO815 HO823 HO827 BK819 BK820 BK824 BK828 HB
  obtain ⟨HO815, HO823, HO827, HO831, BK819, BK820, BK824, BK828, HB⟩ := z_
  (try clear hb)
  (try clear ho0)
  obtain ⟨Ao38, co38, eo38⟩ := Kd.R_slice HO831.out
  (first | subst eo38 | (injection eo38 with f1_ f2_ f3_; have f4_ := f1_.symm; have f5_ := f3_.symm; clear f1_ f2_ f3_; subst f4_; subst f5_))
  refine hK.out _ _ ⟨(blk_cell BK824.out 0).trans rfl, (blk_cell BK819.out 0).trans rfl, bc3_ BK820.out ((blk_cell BK828.out 0).trans rfl)⟩ (fun hHeld => ?_)
  clear hK K
  refine nm_ (some 27) ?_
  refine one_ (i := 4) (N := some 28) bq_58 rfl rfl (one_of HT_.out (by kernel_rfl)) (by decide) (fun K hK => ?_)
  refine goes_ Try.func16 (by kernel_rfl) rfl #[.agg #[.slice Ao18 t821.length co18], .agg #[.slice Ao38 t829.length co38]] (by rfl) rfl rfl tq_0 ?_
  with_reducible refine (spec_SameView.calls kj2 _ _ t821 _ _ t829 true _ ?side1 ?side2 ?side3 ?side4 A31.out).mono ?_
  (case side1 => exact tq_115)
  (case side2 => exact (Kd.R_reads' HO823.out).2.1)
  (case side3 => exact tq_114)
  (case side4 => exact (Kd.R_reads' HO831.out).2.1)
  rintro e w39 ⟨rfl, hb⟩
  refine ⟨_, rfl, ?_⟩
  have z_ := p_ (Kd.R_below (raR_ HO815) hb) <| p_ (Kd.R_below (raR_ HO823) hb) <| p_ (Kd.R_below (raR_ HO827) hb) <| p_ (Kd.R_below (raR_ HO831) hb) <| bw4_ (kb_ BK819) (kb_ BK820) (kb_ BK824) (kb_ BK828) th_ hb
  clear HO815 HO823 HO827 HO831 BK819 BK820 BK824 BK828 HB
  obtain ⟨HO815, HO823, HO827, HO831, BK819, BK820, BK824, BK828, HB⟩ := z_
  (try clear hb)
  refine hK.out _ _ ⟨(blk_cell BK824.out 0).trans rfl, (blk_cell BK819.out 0).trans rfl, bc3_ BK820.out ((blk_cell BK828.out 0).trans rfl)⟩ (fun hHeld => ?_)
  clear hK K
  refine nm_ (some 28) ?_
  refine yr_ 5 29 bq_59 HT_ ?_
  refine yr_ 6 30 bq_60 HT_ ?_
  refine yr_ 9 33 bq_130 HT_ ?_
  refine tr_ 7 31 bq_131 HT_ HW_ hHeld ?_
  refine tr_ 8 32 bq_74 HT_ HW_ hHeld ?_
  refine tr_ 10 34 bq_61 HT_ HW_ hHeld ?_
  refine one_ (i := 11) (N := some 35) bq_62 rfl rfl (one_of HT_.out (by kernel_rfl)) (by decide) (fun K hK => ?_)
  refine goes_ Try.func18 (by kernel_rfl) rfl #[.agg #[.slice Ao12 t813.length co12], .string t816] (by rfl) rfl rfl tq_0 ?_
  with_reducible refine (spec_DropItem.calls kj2 _ _ t813 t816 t833 _ ?side1 ?side2 A33.out).mono ?_
  (case side1 => exact tq_75)
  (case side2 => exact (Kd.R_reads' HO815.out).2.1)
  rintro e w40 ⟨v834, rfl, ho0, hb⟩
  refine ⟨_, rfl, ?_⟩
  have z_ := p_ (Kd.R_elder' (raR_ HO815) (Kd.R_base ho0) hb) <| p_ (Kd.R_elder' (raR_ HO823) (Kd.R_base ho0) hb) <| p_ (Kd.R_elder' (raR_ HO827) (Kd.R_base ho0) hb) <| p_ (Kd.R_elder' (raR_ HO831) (Kd.R_base ho0) hb) <| p_ (Kd.R_lower (Kd.R_newB (Kd.R_new' (Kd.R_new' (Kd.R_new' (Kd.R_new' ho0 (Kd.R_lt (raR_ HO815))) (Kd.R_lt (raR_ HO823))) (Kd.R_lt (raR_ HO827))) (Kd.R_lt (raR_ HO831))) (g := gb820) (o := .cells #[.string t816, .bool t817, .string t818] 44 (0, 0)) (kb_ BK820)) (below_size th_)) <| bw4_ (kb_ BK819) (kb_ BK820) (kb_ BK824) (kb_ BK828) th_ hb
  clear HO815 HO823 HO827 HO831 BK819 BK820 BK824 BK828 HB
  obtain ⟨HO815, HO823, HO827, HO831, HO835, BK819, BK820, BK824, BK828, HB⟩ := z_
  (try clear hb)
  (try clear ho0)
  obtain ⟨Ao41, co41, eo41⟩ := Kd.R_slice HO835.out
  (first | subst eo41 | (injection eo41 with f1_ f2_ f3_; have f4_ := f1_.symm; have f5_ := f3_.symm; clear f1_ f2_ f3_; subst f4_; subst f5_))
  refine hK.out _ _ ⟨(blk_cell BK824.out 0).trans rfl, (blk_cell BK819.out 0).trans rfl, bc3_ BK820.out ((blk_cell BK828.out 0).trans rfl)⟩ (fun hHeld => ?_)
  clear hK K
  refine nm_ (some 35) ?_
  refine one_ (i := 12) (N := some 36) bq_63 rfl rfl (one_of HT_.out (by kernel_rfl)) (by decide) (fun K hK => ?_)
  refine goes_ Try.func16 (by kernel_rfl) rfl #[.agg #[.slice Ao25 t825.length co25], .agg #[.slice Ao41 t833.length co41]] (by rfl) rfl rfl tq_0 ?_
  with_reducible refine (spec_SameView.calls kj2 _ _ t825 _ _ t833 t836 _ ?side1 ?side2 ?side3 ?side4 A34.out).mono ?_
  (case side1 => repeat (first | exact (Kd.R_reads' HO827.out).2.2 | (with_reducible refine Kd.C_alloc ?_ _) | (with_reducible refine Kd.C_drewN ?_ _) | (with_reducible refine Kd.C_drew ?_)))
  (case side2 => exact (Kd.R_reads' HO827.out).2.1)
  (case side3 => repeat (first | exact (Kd.R_reads' HO835.out).2.2 | (with_reducible refine Kd.C_alloc ?_ _) | (with_reducible refine Kd.C_drewN ?_ _) | (with_reducible refine Kd.C_drew ?_)))
  (case side4 => exact (Kd.R_reads' HO835.out).2.1)
  rintro e w42 ⟨rfl, hb⟩
  refine ⟨_, rfl, ?_⟩
  have z_ := p_ (Kd.R_below (raR_ HO815) hb) <| p_ (Kd.R_below (raR_ HO823) hb) <| p_ (Kd.R_below (raR_ HO827) hb) <| p_ (Kd.R_below (raR_ HO831) hb) <| p_ (Kd.R_below (raR_ HO835) hb) <| bw4_ (kb_ BK819) (kb_ BK820) (kb_ BK824) (kb_ BK828) th_ hb
  clear HO815 HO823 HO827 HO831 HO835 BK819 BK820 BK824 BK828 HB
  obtain ⟨HO815, HO823, HO827, HO831, HO835, BK819, BK820, BK824, BK828, HB⟩ := z_
  (try clear hb)
  refine hK.out _ _ ⟨(blk_cell BK824.out 0).trans rfl, (blk_cell BK819.out 0).trans rfl, bc3_ BK820.out ((blk_cell BK828.out 0).trans rfl)⟩ (fun hHeld => ?_)
  clear hK K
  refine nm_ (some 36) ?_
  refine yr_ 13 37 bq_64 HT_ ?_
  refine yr_ 14 38 bq_65 HT_ ?_
  refine done_ (done_of HT_.out (by kernel_rfl)) ?_
  try go_wp2
  go_meet
  case rel => exact ⟨_, (!t836), tq_5, H', ⟨(by have := HJ2.out; first | omega | exact Nat.le_refl _)⟩, ⟨(by (with_reducible repeat (first | apply Kd.R_alloc | apply Kd.R_drewN | apply Kd.R_drew)); exact Kd.R_mono HO815.out (fun _ hk => ⟨hk.1.1.1, ⟨hk.1.1.2.1, hk.1.1.2.2⟩⟩))⟩, ⟨(by (with_reducible repeat (first | apply Kd.R_alloc | apply Kd.R_drewN | apply Kd.R_drew)); exact Kd.R_mono HO823.out (fun _ hk => ⟨hk.1.1.1, ⟨hk.1.1.2.1, hk.1.1.2.2⟩⟩))⟩, ⟨(by (with_reducible repeat (first | apply Kd.R_alloc | apply Kd.R_drewN | apply Kd.R_drew)); exact Kd.R_mono HO827.out (fun _ hk => ⟨hk.1.1.1, ⟨hk.1.1.2.1, hk.1.1.2.2⟩⟩))⟩, ⟨(kb_ BK819)⟩, ⟨(kb_ BK820)⟩, ⟨(kb_ BK824)⟩, ⟨(kb_ BK828)⟩, ⟨th_⟩⟩
 case rest =>
 clear HC8
 try clear c1; try clear c2; try clear p2; try clear c3; try clear c13; try clear c14; try clear c15; try clear c16; try clear c17; try clear c18; try clear c19; try clear c20; try clear c26; try clear c27; try clear c28; try clear c32; try clear hcz14_0; try clear hcz15_0 hcz15_1 hcz15_2; try clear hcz21_0; try clear hcz22_0 hcz22_1 hcz22_2; try clear hcz29_0; try clear hfz14_0; try clear hfz15_0 hfz15_1 hfz15_2; try clear hfz21_0; try clear hfz22_0 hfz22_1 hfz22_2; try clear hfz29_0
 obtain ⟨kq, x38_7, rfl, HA, HJ7, HO_820000, HO_825000, HO_829000, BK819, BK820, BK824, BK828, HB⟩ := hcut
 cases kq with
 | zero => exact absurd HA.out (by simp [laws_FnViews.j1])
 | succ kj7 =>
 have H := HA.out
 clear HA
 simp only [laws_FnViews.j1] at H
 have HC48 := Aside0.mk H
 clear H
 go_upto_if 38 with (fail)
 go_cut [] (fun wc => ∃ (kq : Nat), Aside0 (laws_FnViews.j2 kq t816 t817 t818 t821 t825 = some r) ∧ Aside0 (kq ≤ kj7) ∧ Aside0 (Kd.R k44 44 wc w.heap.size (fun k_ => some k_ ≠ ((.slice Ao18 t821.length co18) : Value).ownBlock ∧ some k_ ≠ ((.slice Ao25 t825.length co25) : Value).ownBlock ∧ k_ ≠ gb820) (.slice Ao12 t813.length co12) t813) ∧ Aside0 (Kd.R k44 44 wc w.heap.size (fun k_ => some k_ ≠ ((.slice Ao12 t813.length co12) : Value).ownBlock ∧ some k_ ≠ ((.slice Ao25 t825.length co25) : Value).ownBlock ∧ k_ ≠ gb820) (.slice Ao18 t821.length co18) t821) ∧ Aside0 (Kd.R k44 44 wc w.heap.size (fun k_ => some k_ ≠ ((.slice Ao12 t813.length co12) : Value).ownBlock ∧ some k_ ≠ ((.slice Ao18 t821.length co18) : Value).ownBlock ∧ k_ ≠ gb820) (.slice Ao25 t825.length co25) t825) ∧ Aside0 (wc.heap[gb819]? = some (.cells #[(.slice Ao12 t813.length co12)] 42 (0, 0))) ∧ Aside0 (wc.heap[gb820]? = some (.cells #[.string t816, .bool t817, .string t818] 44 (0, 0))) ∧ Aside0 (wc.heap[gb824]? = some (.cells #[(.slice Ao18 t821.length co18)] 42 (0, 0))) ∧ Aside0 (wc.heap[gb828]? = some (.cells #[(.slice Ao25 t825.length co25)] 42 (0, 0))) ∧ Aside0 (Below w.heap.size w wc))
 case first =>
  have H := HC48.out
  clear HC48
  by_cases c49 : x38_7 = true
  ·subst c49
   rw [if_pos rfl] at H
   obtain rfl := Option.some.inj H
   go_wp2
   go_ret
   exact ⟨tq_1, th_⟩
  replace c49 := Bool.eq_false_iff.mpr c49
  subst c49
  rw [if_neg nf_] at H
  have H' := Aside0.mk H
  clear H
  go_wp2
  go_meet
  case rel => exact ⟨_, H', ⟨(by have := HJ2.out; have := HJ7.out; first | omega | exact Nat.le_refl _)⟩, ⟨(raR_ HO_820000)⟩, ⟨(raR_ HO_825000)⟩, ⟨(raR_ HO_829000)⟩, ⟨(kb_ BK819)⟩, ⟨(kb_ BK820)⟩, ⟨(kb_ BK824)⟩, ⟨(kb_ BK828)⟩, ⟨th_⟩⟩
 case rest =>
 clear HC48
 try clear c1; try clear c2; try clear p2; try clear c3; try clear c4; try clear c13; try clear c14; try clear c15; try clear c16; try clear c17; try clear c18; try clear c19; try clear c20; try clear c26; try clear c27; try clear c28; try clear c32; try clear c49; try clear hcz14_0; try clear hcz15_0 hcz15_1 hcz15_2; try clear hcz21_0; try clear hcz22_0 hcz22_1 hcz22_2; try clear hcz29_0; try clear hfz14_0; try clear hfz15_0 hfz15_1 hfz15_2; try clear hfz21_0; try clear hfz22_0 hfz22_1 hfz22_2; try clear hfz29_0; try clear p2
 obtain ⟨kq, HA, HJ47, HO_820000, HO_825000, HO_829000, BK819, BK820, BK824, BK828, HB⟩ := hcut
 cases kq with
 | zero => exact absurd HA.out (by simp [laws_FnViews.j2])
 | succ kj47 =>
 have H := HA.out
 clear HA
 simp only [laws_FnViews.j2] at H
 obtain ⟨t837, A50, H⟩ := bd_ H
 have H' := Aside0.mk H
 clear H
 have hcz54_0 := bc_ BK824.out 0
 have hfz54_0 := blk_frozen BK824.out 0
 obtain ⟨hcz57_0, hcz57_1, hcz57_2⟩ := bk3_ BK820.out
 obtain ⟨hfz57_0, hfz57_1, hfz57_2⟩ := bf3_ BK820.out
 go_wp2_with (first | ((with_reducible refine gate_callee (f := 19) rfl ?_); refine goesL_ (some 42) rfl rfl Try.func19 (by kernel_rfl) rfl #[.agg #[.slice Ao18 t821.length co18], .string t816] rfl tq_0 ?_; (with_reducible refine (impl_ItemAt.calls _ _ t821 t816 t837 _ ?side1 ?side2 A50.out).mono ?_); (case side1 => exact tq_49); (case side2 => exact (Kd.R_reads' HO_825000.out).2.1); rintro e w58 ⟨rfl, hb⟩; refine ⟨_, rfl, ?_⟩; have z_ := p_ (Kd.R_below (raR_ HO_820000) hb) <| p_ (Kd.R_below (raR_ HO_825000) hb) <| p_ (Kd.R_below (raR_ HO_829000) hb) <| bw4_ (kb_ BK819) (kb_ BK820) (kb_ BK824) (kb_ BK828) th_ hb; clear HO_820000 HO_825000 HO_829000 BK819 BK820 BK824 BK828 HB; obtain ⟨HO_820000, HO_825000, HO_829000, BK819, BK820, BK824, BK828, HB⟩ := z_; (try clear hb)))
 go_loopg [8, 9] kj47 (fun kq v8 v9 w' => ∃ (x8_4 : Int) (x9_4 : Int), v8 = .int .i64 x8_4 ∧ v9 = .int .i64 x9_4 ∧ Aside0 (laws_FnViews.l0 kq t837 x8_4 x9_4 t816 t817 t818 t821 t825 = some r) ∧ Aside0 (kq ≤ kj47) ∧ Aside0 (Kd.R k44 44 w' w.heap.size (fun k_ => some k_ ≠ ((.slice Ao18 t821.length co18) : Value).ownBlock ∧ some k_ ≠ ((.slice Ao25 t825.length co25) : Value).ownBlock ∧ k_ ≠ gb820) (.slice Ao12 t813.length co12) t813) ∧ Aside0 (Kd.R k44 44 w' w.heap.size (fun k_ => some k_ ≠ ((.slice Ao12 t813.length co12) : Value).ownBlock ∧ some k_ ≠ ((.slice Ao25 t825.length co25) : Value).ownBlock ∧ k_ ≠ gb820) (.slice Ao18 t821.length co18) t821) ∧ Aside0 (Kd.R k44 44 w' w.heap.size (fun k_ => some k_ ≠ ((.slice Ao12 t813.length co12) : Value).ownBlock ∧ some k_ ≠ ((.slice Ao18 t821.length co18) : Value).ownBlock ∧ k_ ≠ gb820) (.slice Ao25 t825.length co25) t825) ∧ Aside0 (w'.heap[gb819]? = some (.cells #[(.slice Ao12 t813.length co12)] 42 (0, 0))) ∧ Aside0 (w'.heap[gb820]? = some (.cells #[.string t816, .bool t817, .string t818] 44 (0, 0))) ∧ Aside0 (w'.heap[gb824]? = some (.cells #[(.slice Ao18 t821.length co18)] 42 (0, 0))) ∧ Aside0 (w'.heap[gb828]? = some (.cells #[(.slice Ao25 t825.length co25)] 42 (0, 0))) ∧ Aside0 (Below w.heap.size w w'))
 case atStart => exact ⟨(0), (0), tq_5, tq_5, H', ⟨Nat.le_refl _⟩, ⟨(raR_ HO_820000)⟩, ⟨(raR_ HO_825000)⟩, ⟨(raR_ HO_829000)⟩, ⟨(kb_ BK819)⟩, ⟨(kb_ BK820)⟩, ⟨(kb_ BK824)⟩, ⟨(kb_ BK828)⟩, ⟨th_⟩⟩
 case round =>
 clear H'
 try clear c1; try clear c2; try clear p2; try clear c3; try clear c4; try clear c5; try clear c13; try clear c14; try clear c15; try clear c16; try clear c17; try clear c18; try clear c19; try clear c20; try clear c26; try clear c27; try clear c28; try clear c32; try clear c49; try clear c51; try clear c52; try clear c53; try clear c55; try clear c56; try clear hcz14_0; try clear hcz15_0 hcz15_1 hcz15_2; try clear hcz21_0; try clear hcz22_0 hcz22_1 hcz22_2; try clear hcz29_0; try clear hcz54_0; try clear hcz57_0 hcz57_1 hcz57_2; try clear hfz14_0; try clear hfz15_0 hfz15_1 hfz15_2; try clear hfz21_0; try clear hfz22_0 hfz22_1 hfz22_2; try clear hfz29_0; try clear hfz54_0; try clear hfz57_0 hfz57_1 hfz57_2; try clear p2
 obtain ⟨x8_4, x9_4, rfl, rfl, HA, HK4, HO_820000, HO_825000, HO_829000, BK819, BK820, BK824, BK828, HB⟩ := hrel
 cases gk with
 | zero => exact absurd HA.out (by simp [laws_FnViews.l0])
 | succ k4 =>
 have H := HA.out
 clear HA
 simp only [laws_FnViews.l0] at H
 by_cases c59 : x9_4 < (t821.length : Int)
 ·rw [if_pos c59] at H
  have c59b0 := decide_eq_true c59
  clear c59
  obtain ⟨c60, H⟩ := fc_ H
  have c60b0 := decide_eq_true c60
  clear c60
  obtain ⟨bq61, hbq61⟩ : ∃ b_ : Bool, b_ = ((rd_T44 t821 x9_4).f1) := ⟨_, rfl⟩
  replace H : (if (bq61 = true) then (laws_FnViews.l0 k4 t837 x8_4 (wrap64 (x9_4 + 1)) t816 t817 t818 t821 t825) else ((spec_PagesFor.f (((rd_T44 t821 x9_4).f2).size : Int)).bind fun t840 => (laws_FnViews.l0 k4 t837 (wrap64 (x8_4 + t840)) (wrap64 (x9_4 + 1)) t816 t817 t818 t821 t825))) = some r := by rw [← hbq61] at H; exact H
  have Nbq61 := Aside0.mk hbq61
  clear hbq61
  by_cases c62 : (bq61 = true)
  ·subst c62
   rw [if_pos rfl] at H
   have H' := Aside0.mk H
   clear H
   have hcz66_0 := bc_ BK824.out 0
   have hfz66_0 := blk_frozen BK824.out 0
   have p838 : 0 ≤ (x9_4 : Int) := of_decide_eq_true tq_3
   have q838 : x9_4 < (t821.length : Int) := of_decide_eq_true tq_3
   obtain ⟨ad838, e838, hx838_0, hx838_1, hx838_2⟩ := at_T44 (Kd.R_reads' HO_825000.out).2.2 x9_4 p838 q838
   (try rw [← Nbq61.out] at hx838_1)
   cases e838
   replace p838 := eq_true p838
   replace q838 := eq_true q838
   go_wp2
   go_roundg k4
   case measure => have := HJ2.out; have := HJ7.out; have := HJ47.out; have := HK4.out; omega
   case rel => exact ⟨(x8_4), (wrap64 (x9_4 + 1)), tq_5, tq_5, H', ⟨(by have := HJ2.out; have := HJ7.out; have := HJ47.out; have := HK4.out; omega)⟩, ⟨(raR_ HO_820000)⟩, ⟨(raR_ HO_825000)⟩, ⟨(raR_ HO_829000)⟩, ⟨(kb_ BK819)⟩, ⟨(kb_ BK820)⟩, ⟨(kb_ BK824)⟩, ⟨(kb_ BK828)⟩, ⟨th_⟩⟩
  replace c62 := Bool.eq_false_iff.mpr c62
  subst c62
  rw [if_neg nf_] at H
  obtain ⟨t840, A67, H⟩ := bd_ H
  have H' := Aside0.mk H
  clear H
  have hcz71_0 := bc_ BK824.out 0
  have hfz71_0 := blk_frozen BK824.out 0
  have p838 : 0 ≤ (x9_4 : Int) := of_decide_eq_true tq_3
  have q838 : x9_4 < (t821.length : Int) := of_decide_eq_true tq_3
  obtain ⟨ad838, e838, hx838_0, hx838_1, hx838_2⟩ := at_T44 (Kd.R_reads' HO_825000.out).2.2 x9_4 p838 q838
  (try rw [← Nbq61.out] at hx838_1)
  cases e838
  replace p838 := eq_true p838
  replace q838 := eq_true q838
  have p839 : 0 ≤ (x9_4 : Int) := of_decide_eq_true tq_3
  have q839 : x9_4 < (t821.length : Int) := of_decide_eq_true tq_3
  obtain ⟨ad839, e839, hx839_0, hx839_1, hx839_2⟩ := at_T44 (Kd.R_reads' HO_825000.out).2.2 x9_4 p839 q839
  (try rw [← Nbq61.out] at hx839_1)
  obtain rfl : ad838 = ad839 := (by injection e839)
  replace p839 := eq_true p839
  replace q839 := eq_true q839
  go_wp2_with (first | ((with_reducible refine gate_callee (f := 20) rfl ?_); refine goesL_ (some 65) rfl rfl Try.func20 (by kernel_rfl) rfl #[.int .i64 (((rd_T44 t821 x9_4).f2).size : Int)] rfl tq_0 ?_; (with_reducible refine (spec_PagesFor.calls (((rd_T44 t821 x9_4).f2).size : Int) t840 _ A67.out).mono ?_); rintro e w' ⟨rfl, ⟨nd, rfl⟩⟩; refine ⟨_, rfl, ?_⟩))
  go_roundg k4
  case measure => have := HJ2.out; have := HJ7.out; have := HJ47.out; have := HK4.out; omega
  case rel => exact ⟨(wrap64 (x8_4 + t840)), (wrap64 (x9_4 + 1)), tq_5, tq_5, H', ⟨(by have := HJ2.out; have := HJ7.out; have := HJ47.out; have := HK4.out; omega)⟩, ⟨(raR_ HO_820000)⟩, ⟨(raR_ HO_825000)⟩, ⟨(raR_ HO_829000)⟩, ⟨(kb_ BK819)⟩, ⟨(kb_ BK820)⟩, ⟨(kb_ BK824)⟩, ⟨(kb_ BK828)⟩, ⟨th_⟩⟩
 rw [if_neg c59] at H
 have c59b0 := decide_eq_false c59
 clear c59
 by_cases c72 : t837 ≥ 0
 rotate_left
 ·rw [if_neg c72] at H
  have c72b0 := decide_eq_false c72
  clear c72
  obtain rfl := Option.some.inj H
  have hcz115_0 := bc_ BK824.out 0
  have hfz115_0 := blk_frozen BK824.out 0
  try go_wp2
  have z_ := p_ (Kd.R_drew HO_820000.out) <| p_ (Kd.R_drew HO_825000.out) <| p_ (Kd.R_drew HO_829000.out) <| dw4_ BK819 BK820 BK824 BK828 HB
  clear HO_820000 HO_825000 HO_829000 BK819 BK820 BK824 BK828 HB
  obtain ⟨HO_820000, HO_825000, HO_829000, BK819, BK820, BK824, BK828, HB⟩ := z_
  refine start_ (n := 37) (S := fun w' => True) (ds := []) bq_7 (by kernel_rfl) rfl rfl trivial (fun hHeld => ?_); refine with_tabW laws_FnViews.tab15 laws_FnViews.bits15 (fun HT_ HW_ => ?_)
  generalize wr.drew = w116 at HO_820000 HO_825000 HO_829000 BK819 BK820 BK824 BK828 HB hHeld ⊢
  refine yr_ 0 67 bq_8 HT_ ?_
  refine yr_ 1 68 bq_9 HT_ ?_
  refine yr_ 2 69 bq_10 HT_ ?_
  refine ur_ 3 70 bq_11 HT_ ?_
  refine ur_ 4 71 bq_12 HT_ ?_
  refine ur_ 5 72 bq_13 HT_ ?_
  refine ur_ 6 73 bq_14 HT_ ?_
  refine ur_ 7 74 bq_15 HT_ ?_
  refine yr_ 8 75 bq_16 HT_ ?_
  refine yr_ 9 76 bq_17 HT_ ?_
  refine ur_ 10 77 bq_18 HT_ ?_
  refine ur_ 11 78 bq_145 HT_ ?_
  refine ur_ 12 79 bq_19 HT_ ?_
  refine ur_ 13 80 bq_20 HT_ ?_
  refine ur_ 14 81 bq_21 HT_ ?_
  refine ur_ 15 82 bq_22 HT_ ?_
  refine ur_ 16 83 bq_23 HT_ ?_
  refine yr_ 17 84 bq_24 HT_ ?_
  refine yr_ 18 85 bq_25 HT_ ?_
  refine ur_ 19 86 bq_98 HT_ ?_
  refine ur_ 20 87 bq_26 HT_ ?_
  refine ur_ 21 88 bq_27 HT_ ?_
  refine ur_ 22 89 bq_28 HT_ ?_
  refine ur_ 23 90 bq_29 HT_ ?_
  refine yr_ 24 91 bq_30 HT_ ?_
  refine yr_ 25 92 bq_31 HT_ ?_
  refine ur_ 26 93 bq_79 HT_ ?_
  refine ur_ 27 94 bq_80 HT_ ?_
  refine ur_ 28 95 bq_32 HT_ ?_
  refine ur_ 29 96 bq_33 HT_ ?_
  refine yr_ 30 97 bq_34 HT_ ?_
  refine yr_ 31 98 bq_35 HT_ ?_
  refine ur_ 32 99 bq_36 HT_ ?_
  refine ur_ 33 100 bq_37 HT_ ?_
  refine ur_ 34 101 bq_38 HT_ ?_
  refine yr_ 35 102 bq_39 HT_ ?_
  refine yr_ 36 2 bq_40 HT_ ?_
  refine done_ (done_of HT_.out (by kernel_rfl)) ?_
  try go_wp2
  go_ret
  exact ⟨tq_1, th_⟩
 rw [if_pos c72] at H
 have c72b0 := decide_eq_true c72
 clear c72
 by_cases c73 : t837 < (t821.length : Int)
 rotate_left
 ·rw [if_neg c73] at H
  have c73b0 := decide_eq_false c73
  clear c73
  obtain rfl := Option.some.inj H
  have hcz110_0 := bc_ BK824.out 0
  have hfz110_0 := blk_frozen BK824.out 0
  try go_wp2
  have z_ := p_ (Kd.R_drew HO_820000.out) <| p_ (Kd.R_drew HO_825000.out) <| p_ (Kd.R_drew HO_829000.out) <| dw4_ BK819 BK820 BK824 BK828 HB
  clear HO_820000 HO_825000 HO_829000 BK819 BK820 BK824 BK828 HB
  obtain ⟨HO_820000, HO_825000, HO_829000, BK819, BK820, BK824, BK828, HB⟩ := z_
  refine start_ (n := 37) (S := fun w' => w'.cell? ⟨gb824, 0, none⟩ = some (.slice Ao18 t821.length co18)) (ds := []) bq_7 (by kernel_rfl) rfl rfl ((blk_cell BK824.out 0).trans rfl) (fun hHeld => ?_); refine with_tabW laws_FnViews.tab15 laws_FnViews.bits15 (fun HT_ HW_ => ?_)
  generalize wr.drew = w111 at HO_820000 HO_825000 HO_829000 BK819 BK820 BK824 BK828 HB hHeld ⊢
  refine yr_ 0 67 bq_8 HT_ ?_
  refine yr_ 1 68 bq_9 HT_ ?_
  refine yr_ 2 69 bq_10 HT_ ?_
  refine yr_ 3 70 bq_11 HT_ ?_
  refine yr_ 4 71 bq_12 HT_ ?_
  refine take_ (i := 5) (N := some 72) (v := ?_) (a' := ?_) bq_13 rfl rfl (take_ofW HT_.out HW_.out (by kernel_rfl)) (fun _ _ _ h => h) (Or.inl ⟨(by rfl), ?_⟩) hHeld ?_ ?_
  rotate_left
  ·intro w' s0
   go_simp
   with_reducible rfl
  rotate_left
  ·simp only [Act.put, List.setIfInBounds_toArray, List.set_cons_zero, List.set_cons_succ, i64_w, i32_w]
   rfl
  refine yr_ 6 73 bq_14 HT_ ?_
  refine yr_ 7 74 bq_15 HT_ ?_
  refine yr_ 8 75 bq_16 HT_ ?_
  refine yr_ 9 76 bq_17 HT_ ?_
  refine ur_ 10 77 bq_18 HT_ ?_
  refine ur_ 11 78 bq_145 HT_ ?_
  refine ur_ 12 79 bq_19 HT_ ?_
  refine ur_ 13 80 bq_20 HT_ ?_
  refine ur_ 14 81 bq_21 HT_ ?_
  refine ur_ 15 82 bq_22 HT_ ?_
  refine ur_ 16 83 bq_23 HT_ ?_
  refine yr_ 17 84 bq_24 HT_ ?_
  refine yr_ 18 85 bq_25 HT_ ?_
  refine ur_ 19 86 bq_98 HT_ ?_
  refine ur_ 20 87 bq_26 HT_ ?_
  refine ur_ 21 88 bq_27 HT_ ?_
  refine ur_ 22 89 bq_28 HT_ ?_
  refine ur_ 23 90 bq_29 HT_ ?_
  refine yr_ 24 91 bq_30 HT_ ?_
  refine yr_ 25 92 bq_31 HT_ ?_
  refine ur_ 26 93 bq_79 HT_ ?_
  refine ur_ 27 94 bq_80 HT_ ?_
  refine ur_ 28 95 bq_32 HT_ ?_
  refine ur_ 29 96 bq_33 HT_ ?_
  refine yr_ 30 97 bq_34 HT_ ?_
  refine yr_ 31 98 bq_35 HT_ ?_
  refine ur_ 32 99 bq_36 HT_ ?_
  refine ur_ 33 100 bq_37 HT_ ?_
  refine ur_ 34 101 bq_38 HT_ ?_
  refine yr_ 35 102 bq_39 HT_ ?_
  refine yr_ 36 2 bq_40 HT_ ?_
  refine done_ (done_of HT_.out (by kernel_rfl)) ?_
  try go_wp2
  go_ret
  exact ⟨tq_1, th_⟩
 rw [if_pos c73] at H
 have c73b0 := decide_eq_true c73
 clear c73
 obtain ⟨c74, H⟩ := fc_ H
 have c74b0 := decide_eq_true c74
 clear c74
 by_cases c75 : ((((rd_T44 t821 t837).f0).toList) == t816.toList && (((rd_T44 t821 t837).f1) == t817 && ((((rd_T44 t821 t837).f2).toList) == t818.toList))) = true
 rotate_left
 ·rw [if_neg c75] at H
  have c75b0 : ((((rd_T44 t821 t837).f0).toList) == t816.toList && (((rd_T44 t821 t837).f1) == t817 && ((((rd_T44 t821 t837).f2).toList) == t818.toList))) = false := by simpa using c75
  (try (have c75b1 : decide ((((rd_T44 t821 t837).f0).toList) = t816.toList && (((rd_T44 t821 t837).f1) == t817 && ((((rd_T44 t821 t837).f2).toList) == t818.toList))) = false := by simpa using c75))
  (try (have c75b2 : ((((rd_T44 t821 t837).f0).toList) == t816.toList && (((rd_T44 t821 t837).f1) == t817 && ((((rd_T44 t821 t837).f2).toList) == t818.toList))) = false := by simpa using c75))
  (try (have c75b3 : ¬ ((((rd_T44 t821 t837).f0).toList) = t816.toList && (((rd_T44 t821 t837).f1) == t817 && ((((rd_T44 t821 t837).f2).toList) == t818.toList))) := by simpa using c75))
  clear c75
  obtain rfl := Option.some.inj H
  have hcz105_0 := bc_ BK824.out 0
  have hfz105_0 := blk_frozen BK824.out 0
  try go_wp2
  have z_ := p_ (Kd.R_drew HO_820000.out) <| p_ (Kd.R_drew HO_825000.out) <| p_ (Kd.R_drew HO_829000.out) <| dw4_ BK819 BK820 BK824 BK828 HB
  clear HO_820000 HO_825000 HO_829000 BK819 BK820 BK824 BK828 HB
  obtain ⟨HO_820000, HO_825000, HO_829000, BK819, BK820, BK824, BK828, HB⟩ := z_
  have p841 : 0 ≤ (t837 : Int) := of_decide_eq_true tq_3
  have q841 : t837 < (t821.length : Int) := of_decide_eq_true tq_3
  obtain ⟨ad841, e841, hx841_0, hx841_1, hx841_2⟩ := at_T44 (Kd.R_reads' HO_825000.out).2.2 t837 p841 q841
  cases e841
  replace p841 := eq_true p841
  replace q841 := eq_true q841
  refine start_ (n := 37) (S := fun w' => w'.cell? ⟨gb824, 0, none⟩ = some (.slice (some ad841) t821.length co18) ∧ w'.cell? ⟨gb820, 0, none⟩ = some (.string t816) ∧ w'.cell? ⟨gb820, 1, none⟩ = some (.bool t817) ∧ w'.cell? ⟨gb820, 2, none⟩ = some (.string t818) ∧ w'.cell? (ad841.add ((t837).toNat * 3)) = some (.string ((rd_T44 t821 t837).f0)) ∧ w'.cell? ⟨(ad841.add ((t837).toNat * 3)).block, (ad841.add ((t837).toNat * 3)).off + 1, none⟩ = some (.bool ((rd_T44 t821 t837).f1)) ∧ w'.cell? ⟨(ad841.add ((t837).toNat * 3)).block, (ad841.add ((t837).toNat * 3)).off + 2, none⟩ = some (.string ((rd_T44 t821 t837).f2))) (ds := []) bq_7 (by kernel_rfl) rfl rfl ⟨(blk_cell BK824.out 0).trans rfl, bc3_ BK820.out ⟨hx841_0, hx841_1, hx841_2⟩⟩ (fun hHeld => ?_); refine with_tabW laws_FnViews.tab15 laws_FnViews.bits15 (fun HT_ HW_ => ?_)
  generalize wr.drew = w106 at HO_820000 HO_825000 HO_829000 BK819 BK820 BK824 BK828 HB hx841_0 hx841_1 hx841_2 hHeld ⊢
  refine yr_ 0 67 bq_8 HT_ ?_
  refine yr_ 1 68 bq_9 HT_ ?_
  refine yr_ 2 69 bq_10 HT_ ?_
  refine yr_ 3 70 bq_11 HT_ ?_
  refine yr_ 4 71 bq_12 HT_ ?_
  refine tr_ 5 72 bq_13 HT_ HW_ hHeld ?_
  refine yr_ 6 73 bq_14 HT_ ?_
  refine yr_ 7 74 bq_15 HT_ ?_
  refine yr_ 8 75 bq_16 HT_ ?_
  refine yr_ 9 76 bq_17 HT_ ?_
  refine yr_ 10 77 bq_18 HT_ ?_
  refine yr_ 12 79 bq_81 HT_ ?_
  refine tr_ 11 78 bq_19 HT_ HW_ hHeld ?_
  refine yr_ 13 80 bq_20 HT_ ?_
  refine tr_ 14 81 bq_21 HT_ HW_ hHeld ?_
  refine tr_ 15 82 bq_22 HT_ HW_ hHeld ?_
  refine yr_ 16 83 bq_23 HT_ ?_
  refine yr_ 17 84 bq_24 HT_ ?_
  refine yr_ 18 85 bq_25 HT_ ?_
  refine ur_ 19 86 bq_98 HT_ ?_
  refine ur_ 20 87 bq_26 HT_ ?_
  refine ur_ 21 88 bq_27 HT_ ?_
  refine ur_ 22 89 bq_28 HT_ ?_
  refine ur_ 23 90 bq_29 HT_ ?_
  refine yr_ 24 91 bq_30 HT_ ?_
  refine yr_ 25 92 bq_31 HT_ ?_
  refine ur_ 26 93 bq_79 HT_ ?_
  refine ur_ 27 94 bq_80 HT_ ?_
  refine ur_ 28 95 bq_32 HT_ ?_
  refine ur_ 29 96 bq_33 HT_ ?_
  refine yr_ 30 97 bq_34 HT_ ?_
  refine yr_ 31 98 bq_35 HT_ ?_
  refine ur_ 32 99 bq_36 HT_ ?_
  refine ur_ 33 100 bq_37 HT_ ?_
  refine ur_ 34 101 bq_38 HT_ ?_
  refine yr_ 35 102 bq_39 HT_ ?_
  refine yr_ 36 2 bq_40 HT_ ?_
  refine done_ (done_of HT_.out (by kernel_rfl)) ?_
  try go_wp2
  go_ret
  exact ⟨tq_1, th_⟩
 rw [if_pos c75] at H
 have c75b0 : ((((rd_T44 t821 t837).f0).toList) == t816.toList && (((rd_T44 t821 t837).f1) == t817 && ((((rd_T44 t821 t837).f2).toList) == t818.toList))) = true := c75
 (try (have c75b1 : decide ((((rd_T44 t821 t837).f0).toList) = t816.toList && (((rd_T44 t821 t837).f1) == t817 && ((((rd_T44 t821 t837).f2).toList) == t818.toList))) = true := by simpa using c75))
 (try (have c75b2 : ((((rd_T44 t821 t837).f0).toList) == t816.toList && (((rd_T44 t821 t837).f1) == t817 && ((((rd_T44 t821 t837).f2).toList) == t818.toList))) = true := by simpa using c75))
 clear c75
 obtain ⟨t842, A76, H⟩ := bd_ H
 by_cases c77 : t842 = (-1)
 rotate_left
 ·rw [if_neg c77] at H
  have c77b0 := beq_eq_false_iff_ne.mpr c77
  have c77b1 := bne_iff_ne.mpr c77
  obtain rfl := Option.some.inj H
  have hcz99_0 := bc_ BK824.out 0
  have hfz99_0 := blk_frozen BK824.out 0
  try go_wp2
  have z_ := p_ (Kd.R_drew HO_820000.out) <| p_ (Kd.R_drew HO_825000.out) <| p_ (Kd.R_drew HO_829000.out) <| dw4_ BK819 BK820 BK824 BK828 HB
  clear HO_820000 HO_825000 HO_829000 BK819 BK820 BK824 BK828 HB
  obtain ⟨HO_820000, HO_825000, HO_829000, BK819, BK820, BK824, BK828, HB⟩ := z_
  have p841 : 0 ≤ (t837 : Int) := of_decide_eq_true tq_3
  have q841 : t837 < (t821.length : Int) := of_decide_eq_true tq_3
  obtain ⟨ad841, e841, hx841_0, hx841_1, hx841_2⟩ := at_T44 (Kd.R_reads' HO_825000.out).2.2 t837 p841 q841
  cases e841
  replace p841 := eq_true p841
  replace q841 := eq_true q841
  refine start_ (n := 37) (S := fun w' => w'.cell? ⟨gb824, 0, none⟩ = some (.slice (some ad841) t821.length co18) ∧ w'.cell? ⟨gb820, 0, none⟩ = some (.string t816) ∧ w'.cell? ⟨gb820, 1, none⟩ = some (.bool t817) ∧ w'.cell? ⟨gb820, 2, none⟩ = some (.string t818) ∧ w'.cell? ⟨gb828, 0, none⟩ = some (.slice Ao25 t825.length co25) ∧ w'.cell? (ad841.add ((t837).toNat * 3)) = some (.string ((rd_T44 t821 t837).f0)) ∧ w'.cell? ⟨(ad841.add ((t837).toNat * 3)).block, (ad841.add ((t837).toNat * 3)).off + 1, none⟩ = some (.bool ((rd_T44 t821 t837).f1)) ∧ w'.cell? ⟨(ad841.add ((t837).toNat * 3)).block, (ad841.add ((t837).toNat * 3)).off + 2, none⟩ = some (.string ((rd_T44 t821 t837).f2))) (ds := []) bq_7 (by kernel_rfl) rfl rfl ⟨(blk_cell BK824.out 0).trans rfl, bc3_ BK820.out ⟨(blk_cell BK828.out 0).trans rfl, hx841_0, hx841_1, hx841_2⟩⟩ (fun hHeld => ?_); refine with_tabW laws_FnViews.tab15 laws_FnViews.bits15 (fun HT_ HW_ => ?_)
  generalize wr.drew = w100 at HO_820000 HO_825000 HO_829000 BK819 BK820 BK824 BK828 HB hx841_0 hx841_1 hx841_2 hHeld ⊢
  refine yr_ 0 67 bq_8 HT_ ?_
  refine yr_ 1 68 bq_9 HT_ ?_
  refine yr_ 2 69 bq_10 HT_ ?_
  refine yr_ 3 70 bq_11 HT_ ?_
  refine yr_ 4 71 bq_12 HT_ ?_
  refine tr_ 5 72 bq_13 HT_ HW_ hHeld ?_
  refine yr_ 6 73 bq_14 HT_ ?_
  refine yr_ 7 74 bq_15 HT_ ?_
  refine yr_ 8 75 bq_16 HT_ ?_
  refine yr_ 9 76 bq_17 HT_ ?_
  refine yr_ 10 77 bq_18 HT_ ?_
  refine yr_ 12 79 bq_81 HT_ ?_
  refine tr_ 11 78 bq_19 HT_ HW_ hHeld ?_
  refine yr_ 13 80 bq_20 HT_ ?_
  refine tr_ 14 81 bq_21 HT_ HW_ hHeld ?_
  refine tr_ 15 82 bq_22 HT_ HW_ hHeld ?_
  refine yr_ 16 83 bq_23 HT_ ?_
  refine yr_ 17 84 bq_24 HT_ ?_
  refine yr_ 18 85 bq_25 HT_ ?_
  refine yr_ 20 87 bq_99 HT_ ?_
  refine tr_ 19 86 bq_26 HT_ HW_ hHeld ?_
  refine tr_ 21 88 bq_27 HT_ HW_ hHeld ?_
  refine one_ (i := 22) (N := some 89) bq_28 rfl rfl (one_of HT_.out (by kernel_rfl)) (by decide) (fun K hK => ?_)
  refine goes_ Try.func19 (by kernel_rfl) rfl #[.agg #[.slice Ao25 t825.length co25], .string t816] (by rfl) rfl rfl tq_0 ?_
  with_reducible refine (impl_ItemAt.calls _ _ t825 t816 t842 _ ?side1 ?side2 A76.out).mono ?_
  (case side1 => exact tq_74)
  (case side2 => exact (Kd.R_reads' HO_829000.out).2.1)
  rintro e w101 ⟨rfl, hb⟩
  have HS5_ := (hb.cell (World.block_lt_of_cell? _ _ (hHeld.2.2.2.2.2.1))).trans (hHeld.2.2.2.2.2.1)
  have HS6_ := (hb.cell (World.block_lt_of_cell? _ _ (hHeld.2.2.2.2.2.2.1))).trans (hHeld.2.2.2.2.2.2.1)
  have HS7_ := (hb.cell (World.block_lt_of_cell? _ _ (hHeld.2.2.2.2.2.2.2))).trans (hHeld.2.2.2.2.2.2.2)
  refine ⟨_, rfl, ?_⟩
  have z_ := p_ (Kd.R_below (raR_ HO_820000) hb) <| p_ (Kd.R_below (raR_ HO_825000) hb) <| p_ (Kd.R_below (raR_ HO_829000) hb) <| bw4_ (kb_ BK819) (kb_ BK820) (kb_ BK824) (kb_ BK828) th_ hb
  clear HO_820000 HO_825000 HO_829000 BK819 BK820 BK824 BK828 HB
  obtain ⟨HO_820000, HO_825000, HO_829000, BK819, BK820, BK824, BK828, HB⟩ := z_
  (try clear hb)
  refine hK.out _ _ ⟨(blk_cell BK824.out 0).trans rfl, bc3_ BK820.out ⟨(blk_cell BK828.out 0).trans rfl, HS5_, HS6_, HS7_⟩⟩ (fun hHeld => ?_)
  clear hK K
  refine nm_ (some 89) ?_
  refine yr_ 23 90 bq_29 HT_ ?_
  refine yr_ 24 91 bq_30 HT_ ?_
  refine yr_ 25 92 bq_31 HT_ ?_
  refine ur_ 26 93 bq_79 HT_ ?_
  refine ur_ 27 94 bq_80 HT_ ?_
  refine ur_ 28 95 bq_32 HT_ ?_
  refine ur_ 29 96 bq_33 HT_ ?_
  refine yr_ 30 97 bq_34 HT_ ?_
  refine yr_ 31 98 bq_35 HT_ ?_
  refine ur_ 32 99 bq_36 HT_ ?_
  refine ur_ 33 100 bq_37 HT_ ?_
  refine ur_ 34 101 bq_38 HT_ ?_
  refine yr_ 35 102 bq_39 HT_ ?_
  refine yr_ 36 2 bq_40 HT_ ?_
  refine done_ (done_of HT_.out (by kernel_rfl)) ?_
  try go_wp2
  go_ret
  exact ⟨tq_1, th_⟩
 rw [if_pos c77] at H
 have c77b0 := beq_iff_eq.mpr c77
 have c77b1 := bne_eq_false_iff_eq.mpr c77
 clear c77
 obtain ⟨t843, A78, H⟩ := bd_ H
 by_cases c79 : t843 = x8_4
 rotate_left
 ·rw [if_neg c79] at H
  have c79b0 := beq_eq_false_iff_ne.mpr c79
  have c79b1 := bne_iff_ne.mpr c79
  obtain rfl := Option.some.inj H
  have hcz92_0 := bc_ BK824.out 0
  have hfz92_0 := blk_frozen BK824.out 0
  try go_wp2
  have z_ := p_ (Kd.R_drew HO_820000.out) <| p_ (Kd.R_drew HO_825000.out) <| p_ (Kd.R_drew HO_829000.out) <| dw4_ BK819 BK820 BK824 BK828 HB
  clear HO_820000 HO_825000 HO_829000 BK819 BK820 BK824 BK828 HB
  obtain ⟨HO_820000, HO_825000, HO_829000, BK819, BK820, BK824, BK828, HB⟩ := z_
  have p841 : 0 ≤ (t837 : Int) := of_decide_eq_true tq_3
  have q841 : t837 < (t821.length : Int) := of_decide_eq_true tq_3
  obtain ⟨ad841, e841, hx841_0, hx841_1, hx841_2⟩ := at_T44 (Kd.R_reads' HO_825000.out).2.2 t837 p841 q841
  cases e841
  replace p841 := eq_true p841
  replace q841 := eq_true q841
  refine start_ (n := 37) (S := fun w' => w'.cell? ⟨gb824, 0, none⟩ = some (.slice (some ad841) t821.length co18) ∧ w'.cell? ⟨gb820, 0, none⟩ = some (.string t816) ∧ w'.cell? ⟨gb820, 1, none⟩ = some (.bool t817) ∧ w'.cell? ⟨gb820, 2, none⟩ = some (.string t818) ∧ w'.cell? ⟨gb828, 0, none⟩ = some (.slice Ao25 t825.length co25) ∧ w'.cell? (ad841.add ((t837).toNat * 3)) = some (.string ((rd_T44 t821 t837).f0)) ∧ w'.cell? ⟨(ad841.add ((t837).toNat * 3)).block, (ad841.add ((t837).toNat * 3)).off + 1, none⟩ = some (.bool ((rd_T44 t821 t837).f1)) ∧ w'.cell? ⟨(ad841.add ((t837).toNat * 3)).block, (ad841.add ((t837).toNat * 3)).off + 2, none⟩ = some (.string ((rd_T44 t821 t837).f2))) (ds := []) bq_7 (by kernel_rfl) rfl rfl ⟨(blk_cell BK824.out 0).trans rfl, bc3_ BK820.out ⟨(blk_cell BK828.out 0).trans rfl, hx841_0, hx841_1, hx841_2⟩⟩ (fun hHeld => ?_); refine with_tabW laws_FnViews.tab15 laws_FnViews.bits15 (fun HT_ HW_ => ?_)
  generalize wr.drew = w93 at HO_820000 HO_825000 HO_829000 BK819 BK820 BK824 BK828 HB hx841_0 hx841_1 hx841_2 hHeld ⊢
  refine yr_ 0 67 bq_8 HT_ ?_
  refine yr_ 1 68 bq_9 HT_ ?_
  refine yr_ 2 69 bq_10 HT_ ?_
  refine yr_ 3 70 bq_11 HT_ ?_
  refine yr_ 4 71 bq_12 HT_ ?_
  refine tr_ 5 72 bq_13 HT_ HW_ hHeld ?_
  refine yr_ 6 73 bq_14 HT_ ?_
  refine yr_ 7 74 bq_15 HT_ ?_
  refine yr_ 8 75 bq_16 HT_ ?_
  refine yr_ 9 76 bq_17 HT_ ?_
  refine yr_ 10 77 bq_18 HT_ ?_
  refine yr_ 12 79 bq_81 HT_ ?_
  refine tr_ 11 78 bq_19 HT_ HW_ hHeld ?_
  refine yr_ 13 80 bq_20 HT_ ?_
  refine tr_ 14 81 bq_21 HT_ HW_ hHeld ?_
  refine tr_ 15 82 bq_22 HT_ HW_ hHeld ?_
  refine yr_ 16 83 bq_23 HT_ ?_
  refine yr_ 17 84 bq_24 HT_ ?_
  refine yr_ 18 85 bq_25 HT_ ?_
  refine yr_ 20 87 bq_99 HT_ ?_
  refine tr_ 19 86 bq_26 HT_ HW_ hHeld ?_
  refine tr_ 21 88 bq_27 HT_ HW_ hHeld ?_
  refine one_ (i := 22) (N := some 89) bq_28 rfl rfl (one_of HT_.out (by kernel_rfl)) (by decide) (fun K hK => ?_)
  refine goes_ Try.func19 (by kernel_rfl) rfl #[.agg #[.slice Ao25 t825.length co25], .string t816] (by rfl) rfl rfl tq_0 ?_
  with_reducible refine (impl_ItemAt.calls _ _ t825 t816 t842 _ ?side1 ?side2 A76.out).mono ?_
  (case side1 => exact tq_74)
  (case side2 => exact (Kd.R_reads' HO_829000.out).2.1)
  rintro e w94 ⟨rfl, hb⟩
  have HS5_ := (hb.cell (World.block_lt_of_cell? _ _ (hHeld.2.2.2.2.2.1))).trans (hHeld.2.2.2.2.2.1)
  have HS6_ := (hb.cell (World.block_lt_of_cell? _ _ (hHeld.2.2.2.2.2.2.1))).trans (hHeld.2.2.2.2.2.2.1)
  have HS7_ := (hb.cell (World.block_lt_of_cell? _ _ (hHeld.2.2.2.2.2.2.2))).trans (hHeld.2.2.2.2.2.2.2)
  refine ⟨_, rfl, ?_⟩
  have z_ := p_ (Kd.R_below (raR_ HO_820000) hb) <| p_ (Kd.R_below (raR_ HO_825000) hb) <| p_ (Kd.R_below (raR_ HO_829000) hb) <| bw4_ (kb_ BK819) (kb_ BK820) (kb_ BK824) (kb_ BK828) th_ hb
  clear HO_820000 HO_825000 HO_829000 BK819 BK820 BK824 BK828 HB
  obtain ⟨HO_820000, HO_825000, HO_829000, BK819, BK820, BK824, BK828, HB⟩ := z_
  (try clear hb)
  refine hK.out _ _ ⟨(blk_cell BK824.out 0).trans rfl, bc3_ BK820.out ⟨(blk_cell BK828.out 0).trans rfl, HS5_, HS6_, HS7_⟩⟩ (fun hHeld => ?_)
  clear hK K
  refine nm_ (some 89) ?_
  refine yr_ 23 90 bq_29 HT_ ?_
  refine yr_ 24 91 bq_30 HT_ ?_
  refine yr_ 25 92 bq_31 HT_ ?_
  refine yr_ 28 95 bq_146 HT_ ?_
  refine tr_ 26 93 bq_147 HT_ HW_ hHeld ?_
  refine one_ (i := 27) (N := some 94) bq_32 rfl rfl (one_of HT_.out (by kernel_rfl)) (by decide) (fun K hK => ?_)
  refine goes_ Try.func21 (by kernel_rfl) rfl #[.agg #[.slice (some ad841) t821.length co18]] (by rfl) rfl rfl tq_0 ?_
  with_reducible refine (impl_PagesIn.calls k4 _ _ t821 t843 _ ?side1 ?side2 A78.out).mono ?_
  (case side1 => exact tq_49)
  (case side2 => exact (Kd.R_reads' HO_825000.out).2.1)
  rintro e w95 ⟨rfl, hb⟩
  have HS5_ := (hb.cell (World.block_lt_of_cell? _ _ (hHeld.2.2.2.2.2.1))).trans (hHeld.2.2.2.2.2.1)
  have HS6_ := (hb.cell (World.block_lt_of_cell? _ _ (hHeld.2.2.2.2.2.2.1))).trans (hHeld.2.2.2.2.2.2.1)
  have HS7_ := (hb.cell (World.block_lt_of_cell? _ _ (hHeld.2.2.2.2.2.2.2))).trans (hHeld.2.2.2.2.2.2.2)
  refine ⟨_, rfl, ?_⟩
  have z_ := p_ (Kd.R_below (raR_ HO_820000) hb) <| p_ (Kd.R_below (raR_ HO_825000) hb) <| p_ (Kd.R_below (raR_ HO_829000) hb) <| bw4_ (kb_ BK819) (kb_ BK820) (kb_ BK824) (kb_ BK828) th_ hb
  clear HO_820000 HO_825000 HO_829000 BK819 BK820 BK824 BK828 HB
  obtain ⟨HO_820000, HO_825000, HO_829000, BK819, BK820, BK824, BK828, HB⟩ := z_
  (try clear hb)
  refine hK.out _ _ ⟨(blk_cell BK824.out 0).trans rfl, bc3_ BK820.out ⟨(blk_cell BK828.out 0).trans rfl, HS5_, HS6_, HS7_⟩⟩ (fun hHeld => ?_)
  clear hK K
  refine nm_ (some 94) ?_
  refine yr_ 29 96 bq_33 HT_ ?_
  refine yr_ 30 97 bq_34 HT_ ?_
  refine yr_ 31 98 bq_35 HT_ ?_
  refine ur_ 32 99 bq_36 HT_ ?_
  refine ur_ 33 100 bq_37 HT_ ?_
  refine ur_ 34 101 bq_38 HT_ ?_
  refine yr_ 35 102 bq_39 HT_ ?_
  refine yr_ 36 2 bq_40 HT_ ?_
  refine done_ (done_of HT_.out (by kernel_rfl)) ?_
  try go_wp2
  go_ret
  exact ⟨tq_1, th_⟩
 rw [if_pos c79] at H
 have c79b0 := beq_iff_eq.mpr c79
 have c79b1 := bne_eq_false_iff_eq.mpr c79
 clear c79
 obtain ⟨t844, A80, H⟩ := bd_ H
 obtain rfl := Option.some.inj H
 have hcz84_0 := bc_ BK824.out 0
 have hfz84_0 := blk_frozen BK824.out 0
 try go_wp2
 have z_ := p_ (Kd.R_drew HO_820000.out) <| p_ (Kd.R_drew HO_825000.out) <| p_ (Kd.R_drew HO_829000.out) <| dw4_ BK819 BK820 BK824 BK828 HB
 clear HO_820000 HO_825000 HO_829000 BK819 BK820 BK824 BK828 HB
 obtain ⟨HO_820000, HO_825000, HO_829000, BK819, BK820, BK824, BK828, HB⟩ := z_
 have p841 : 0 ≤ (t837 : Int) := of_decide_eq_true tq_3
 have q841 : t837 < (t821.length : Int) := of_decide_eq_true tq_3
 obtain ⟨ad841, e841, hx841_0, hx841_1, hx841_2⟩ := at_T44 (Kd.R_reads' HO_825000.out).2.2 t837 p841 q841
 cases e841
 replace p841 := eq_true p841
 replace q841 := eq_true q841
 refine start_ (n := 37) (S := fun w' => w'.cell? ⟨gb824, 0, none⟩ = some (.slice (some ad841) t821.length co18) ∧ w'.cell? ⟨gb820, 0, none⟩ = some (.string t816) ∧ w'.cell? ⟨gb820, 1, none⟩ = some (.bool t817) ∧ w'.cell? ⟨gb820, 2, none⟩ = some (.string t818) ∧ w'.cell? ⟨gb828, 0, none⟩ = some (.slice Ao25 t825.length co25) ∧ w'.cell? (ad841.add ((t837).toNat * 3)) = some (.string ((rd_T44 t821 t837).f0)) ∧ w'.cell? ⟨(ad841.add ((t837).toNat * 3)).block, (ad841.add ((t837).toNat * 3)).off + 1, none⟩ = some (.bool ((rd_T44 t821 t837).f1)) ∧ w'.cell? ⟨(ad841.add ((t837).toNat * 3)).block, (ad841.add ((t837).toNat * 3)).off + 2, none⟩ = some (.string ((rd_T44 t821 t837).f2))) (ds := []) bq_7 (by kernel_rfl) rfl rfl ⟨(blk_cell BK824.out 0).trans rfl, bc3_ BK820.out ⟨(blk_cell BK828.out 0).trans rfl, hx841_0, hx841_1, hx841_2⟩⟩ (fun hHeld => ?_); refine with_tabW laws_FnViews.tab15 laws_FnViews.bits15 (fun HT_ HW_ => ?_)
 generalize wr.drew = w85 at HO_820000 HO_825000 HO_829000 BK819 BK820 BK824 BK828 HB hx841_0 hx841_1 hx841_2 hHeld ⊢
 refine yr_ 0 67 bq_8 HT_ ?_
 refine yr_ 1 68 bq_9 HT_ ?_
 refine yr_ 2 69 bq_10 HT_ ?_
 refine yr_ 3 70 bq_11 HT_ ?_
 refine yr_ 4 71 bq_12 HT_ ?_
 refine tr_ 5 72 bq_13 HT_ HW_ hHeld ?_
 refine yr_ 6 73 bq_14 HT_ ?_
 refine yr_ 7 74 bq_15 HT_ ?_
 refine yr_ 8 75 bq_16 HT_ ?_
 refine yr_ 9 76 bq_17 HT_ ?_
 refine yr_ 10 77 bq_18 HT_ ?_
 refine yr_ 12 79 bq_81 HT_ ?_
 refine tr_ 11 78 bq_19 HT_ HW_ hHeld ?_
 refine yr_ 13 80 bq_20 HT_ ?_
 refine tr_ 14 81 bq_21 HT_ HW_ hHeld ?_
 refine tr_ 15 82 bq_22 HT_ HW_ hHeld ?_
 refine yr_ 16 83 bq_23 HT_ ?_
 refine yr_ 17 84 bq_24 HT_ ?_
 refine yr_ 18 85 bq_25 HT_ ?_
 refine yr_ 20 87 bq_99 HT_ ?_
 refine tr_ 19 86 bq_26 HT_ HW_ hHeld ?_
 refine tr_ 21 88 bq_27 HT_ HW_ hHeld ?_
 refine one_ (i := 22) (N := some 89) bq_28 rfl rfl (one_of HT_.out (by kernel_rfl)) (by decide) (fun K hK => ?_)
 refine goes_ Try.func19 (by kernel_rfl) rfl #[.agg #[.slice Ao25 t825.length co25], .string t816] (by rfl) rfl rfl tq_0 ?_
 with_reducible refine (impl_ItemAt.calls _ _ t825 t816 t842 _ ?side1 ?side2 A76.out).mono ?_
 (case side1 => exact tq_74)
 (case side2 => exact (Kd.R_reads' HO_829000.out).2.1)
 rintro e w86 ⟨rfl, hb⟩
 have HS5_ := (hb.cell (World.block_lt_of_cell? _ _ (hHeld.2.2.2.2.2.1))).trans (hHeld.2.2.2.2.2.1)
 have HS6_ := (hb.cell (World.block_lt_of_cell? _ _ (hHeld.2.2.2.2.2.2.1))).trans (hHeld.2.2.2.2.2.2.1)
 have HS7_ := (hb.cell (World.block_lt_of_cell? _ _ (hHeld.2.2.2.2.2.2.2))).trans (hHeld.2.2.2.2.2.2.2)
 refine ⟨_, rfl, ?_⟩
 have z_ := p_ (Kd.R_below (raR_ HO_820000) hb) <| p_ (Kd.R_below (raR_ HO_825000) hb) <| p_ (Kd.R_below (raR_ HO_829000) hb) <| bw4_ (kb_ BK819) (kb_ BK820) (kb_ BK824) (kb_ BK828) th_ hb
 clear HO_820000 HO_825000 HO_829000 BK819 BK820 BK824 BK828 HB
 obtain ⟨HO_820000, HO_825000, HO_829000, BK819, BK820, BK824, BK828, HB⟩ := z_
 (try clear hb)
 refine hK.out _ _ ⟨(blk_cell BK824.out 0).trans rfl, bc3_ BK820.out ⟨(blk_cell BK828.out 0).trans rfl, HS5_, HS6_, HS7_⟩⟩ (fun hHeld => ?_)
 clear hK K
 refine nm_ (some 89) ?_
 refine yr_ 23 90 bq_29 HT_ ?_
 refine yr_ 24 91 bq_30 HT_ ?_
 refine yr_ 25 92 bq_31 HT_ ?_
 refine yr_ 28 95 bq_146 HT_ ?_
 refine tr_ 26 93 bq_147 HT_ HW_ hHeld ?_
 refine one_ (i := 27) (N := some 94) bq_32 rfl rfl (one_of HT_.out (by kernel_rfl)) (by decide) (fun K hK => ?_)
 refine goes_ Try.func21 (by kernel_rfl) rfl #[.agg #[.slice (some ad841) t821.length co18]] (by rfl) rfl rfl tq_0 ?_
 with_reducible refine (impl_PagesIn.calls k4 _ _ t821 t843 _ ?side1 ?side2 A78.out).mono ?_
 (case side1 => exact tq_49)
 (case side2 => exact (Kd.R_reads' HO_825000.out).2.1)
 rintro e w87 ⟨rfl, hb⟩
 have HS5_ := (hb.cell (World.block_lt_of_cell? _ _ (hHeld.2.2.2.2.2.1))).trans (hHeld.2.2.2.2.2.1)
 have HS6_ := (hb.cell (World.block_lt_of_cell? _ _ (hHeld.2.2.2.2.2.2.1))).trans (hHeld.2.2.2.2.2.2.1)
 have HS7_ := (hb.cell (World.block_lt_of_cell? _ _ (hHeld.2.2.2.2.2.2.2))).trans (hHeld.2.2.2.2.2.2.2)
 refine ⟨_, rfl, ?_⟩
 have z_ := p_ (Kd.R_below (raR_ HO_820000) hb) <| p_ (Kd.R_below (raR_ HO_825000) hb) <| p_ (Kd.R_below (raR_ HO_829000) hb) <| bw4_ (kb_ BK819) (kb_ BK820) (kb_ BK824) (kb_ BK828) th_ hb
 clear HO_820000 HO_825000 HO_829000 BK819 BK820 BK824 BK828 HB
 obtain ⟨HO_820000, HO_825000, HO_829000, BK819, BK820, BK824, BK828, HB⟩ := z_
 (try clear hb)
 refine hK.out _ _ ⟨(blk_cell BK824.out 0).trans rfl, bc3_ BK820.out ⟨(blk_cell BK828.out 0).trans rfl, HS5_, HS6_, HS7_⟩⟩ (fun hHeld => ?_)
 clear hK K
 refine nm_ (some 94) ?_
 refine yr_ 29 96 bq_33 HT_ ?_
 refine yr_ 30 97 bq_34 HT_ ?_
 refine yr_ 31 98 bq_35 HT_ ?_
 refine tr_ 32 99 bq_36 HT_ HW_ hHeld ?_
 refine tr_ 33 100 bq_37 HT_ HW_ hHeld ?_
 refine one_ (i := 34) (N := some 101) bq_38 rfl rfl (one_of HT_.out (by kernel_rfl)) (by decide) (fun K hK => ?_)
 refine goes_ Try.func22 (by kernel_rfl) rfl #[.agg #[.slice (some ad841) t821.length co18], .agg #[.slice (some ad841) t821.length co18]] (by rfl) rfl rfl tq_0 ?_
 with_reducible refine (impl_SameView.calls k4 _ _ t821 _ _ t821 t844 _ ?side1 ?side2 ?side3 ?side4 A80.out).mono ?_
 (case side1 => exact tq_49)
 (case side2 => exact (Kd.R_reads' HO_825000.out).2.1)
 (case side3 => exact tq_49)
 (case side4 => exact (Kd.R_reads' HO_825000.out).2.1)
 rintro e w88 ⟨rfl, hb⟩
 have HS5_ := (hb.cell (World.block_lt_of_cell? _ _ (hHeld.2.2.2.2.2.1))).trans (hHeld.2.2.2.2.2.1)
 have HS6_ := (hb.cell (World.block_lt_of_cell? _ _ (hHeld.2.2.2.2.2.2.1))).trans (hHeld.2.2.2.2.2.2.1)
 have HS7_ := (hb.cell (World.block_lt_of_cell? _ _ (hHeld.2.2.2.2.2.2.2))).trans (hHeld.2.2.2.2.2.2.2)
 refine ⟨_, rfl, ?_⟩
 have z_ := p_ (Kd.R_below (raR_ HO_820000) hb) <| p_ (Kd.R_below (raR_ HO_825000) hb) <| p_ (Kd.R_below (raR_ HO_829000) hb) <| bw4_ (kb_ BK819) (kb_ BK820) (kb_ BK824) (kb_ BK828) th_ hb
 clear HO_820000 HO_825000 HO_829000 BK819 BK820 BK824 BK828 HB
 obtain ⟨HO_820000, HO_825000, HO_829000, BK819, BK820, BK824, BK828, HB⟩ := z_
 (try clear hb)
 refine hK.out _ _ ⟨(blk_cell BK824.out 0).trans rfl, bc3_ BK820.out ⟨(blk_cell BK828.out 0).trans rfl, HS5_, HS6_, HS7_⟩⟩ (fun hHeld => ?_)
 clear hK K
 refine nm_ (some 101) ?_
 refine yr_ 35 102 bq_39 HT_ ?_
 refine yr_ 36 2 bq_40 HT_ ?_
 refine done_ (done_of HT_.out (by kernel_rfl)) ?_
 try go_wp2
 go_ret
 exact ⟨tq_1, th_⟩


end Go.Proofs.Ytljnnmpfeningaa.PFnViews
