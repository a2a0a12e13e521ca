/- Contracts of Go functions, written by a program of ours over the print of the kit: each says that the call returns what the Lean function beside it computes. Conditions: as each theorem states them. -/
import Derived.Test.YtljnnmpfeningaaPkFnViews
import Derived.Test.YtljnnmpfeningaaPFnViewsx0
import Derived.Test.YtljnnmpfeningaaPFnViewsx2
import Derived.Test.YtljnnmpfeningaaPFnViewsx4
import Derived.Test.YtljnnmpfeningaaPFnViewsx14
import Derived.Test.YtljnnmpfeningaaPFnViewsx15
namespace Go.Proofs.Ytljnnmpfeningaa.PFnViews
open Go.RowKit Go.Proofs.YtljnnmpfeningaaW.PrintWords Go.Proofs.YtljnnmpfeningaaW.PrintLast Go.Proofs.YtljnnmpfeningaaW.PrintMore
attribute [local go_sem] max2_int min2_int max_two min_two max_three min_three max_four min_four   -- for this text's walks alone
set_option linter.unusedVariables false
set_option linter.unusedSimpArgs false

/-! ### spec_DrawPutItem: function 13 -/
def spec_DrawPutItem.f (k : Nat) (l0 : List Int) : Option ((List (S44)) × ByteArray × Bool × ByteArray) := (spec_l01New.f k l0).bind fun bt739 => ((spec_l11Geo.f bt739.1 bt739.2.1 bt739.2.2).bind fun bt743 => ((spec_l16Any.f k bt739.1 bt743.2.2.2.2.1 bt743.2.2.2.2.2 bt743.1 bt743.2.1 bt743.2.2.1 bt743.2.2.2.1).bind fun bt749 => ((spec_l15Any.f bt739.1 bt749.2.1 bt749.2.2).bind fun bt755 => ((spec_l01Once.f bt739.1 bt755.2.1 bt755.2.2 2).bind fun bt758 => ((spec_l01Below.f bt739.1 bt758.2.1 bt758.2.2 5).bind fun bt761 => ((spec_l01Text.f k bt739.1 bt761.2.1 bt761.2.2 bt761.1).bind fun bt764 => (some (bt749.1, bt755.1, bt758.1, bt764.1))))))))
theorem spec_DrawPutItem.mono : ∀ a0 k, LeO (spec_DrawPutItem.f k a0) (spec_DrawPutItem.f (k + 1) a0) := by
 intro a0 k
 unfold spec_DrawPutItem.f
 repeat' first
   | (with_reducible exact spec_l01New.mono ..)
   | (with_reducible exact spec_l01Text.mono ..)
   | (with_reducible exact spec_l16Any.mono ..)
   | (with_reducible exact LeO.refl _)
   | (with_reducible exact LeO.none _)
   | (with_reducible refine LeO.ite ?_ ?_)
   | (with_reducible refine LeO.bind ?_ (fun _ => ?_))
   | exact spec_l01New.mono ..
   | exact spec_l01Text.mono ..
   | exact spec_l16Any.mono ..
   | exact LeO.none _
   | refine LeO.ite ?_ ?_
   | refine LeO.bind ?_ (fun _ => ?_)
def spec_DrawPutItem.T3 : Bool × List (List Nat × List Nat) := (true, [([], []), ([], []), ([1], [1]), ([], []), ([3, 2], [3]), ([], []), ([], []), ([6, 4], [6]), ([5, 7, 7], [5, 7]), ([2, 4, 8], [2, 4, 8]), ([0, 8, 0], [0]), ([9, 10, 0, 1, 2, 3, 4, 5, 6, 7, 8, 9, 10], [9])])
def spec_DrawPutItem.B3 : List Nat := [0, 0, 2, 0, 14, 0, 0, 94, 254, 510, 511, 2047]
theorem spec_DrawPutItem.tab3 : rtab .any (opsOf Try.f13 3) = spec_DrawPutItem.T3 := by kernel_rfl
theorem spec_DrawPutItem.bits3 : waitsOk spec_DrawPutItem.T3.2 spec_DrawPutItem.B3 = true := by kernel_rfl
set_option maxHeartbeats 8000000 in
set_option maxRecDepth 100000 in
theorem spec_DrawPutItem.calls (k : Nat) (A0 : Option Addr) (c0 : Nat) (l0 : List Int) (r1 : List (S44)) (r2 : ByteArray) (r3 : Bool) (r4 : ByteArray) (w : World) (hr0 : Kd.C (Kd.int .u8) w A0 l0.length l0) (hc0 : l0.length ≤ c0) (h : spec_DrawPutItem.f k l0 = some (r1, r2, r3, r4)) :
  Calls Try.prog 13 #[.slice A0 l0.length c0] w fun e w' => ∃ v0_ : Value, e = .returned (.tuple #[.agg #[v0_], .agg #[.string r2, .bool r3, .string r4]]) ∧ Kd.R k44 44 w' w.heap.size (fun _ => True) v0_ r1 ∧ Below w.heap.size w w' := by
 have hu42 := Try.underlying42
 have hu44 := Try.underlying44
 have HR0 := Aside0.mk hr0
 have HC0 := Aside0.mk hc0
 clear hr0 hc0
 have HB := Aside0.mk (Below.refl w.heap.size w)
 unfold spec_DrawPutItem.f at h
 have H := h
 clear h
 obtain ⟨⟨t739, t740, t741⟩, A2, H⟩ := bd_ H
 try dsimp -simprocs only at H
 obtain ⟨⟨t743, t744, t745, t746, t747, t748⟩, A3, H⟩ := bd_ H
 try dsimp -simprocs only at H
 obtain ⟨⟨t749, t752, t753⟩, A4, H⟩ := bd_ H
 try dsimp -simprocs only at H
 obtain ⟨⟨t755, t756, t757⟩, A5, H⟩ := bd_ H
 try dsimp -simprocs only at H
 obtain ⟨⟨t758, t759, t760⟩, A6, H⟩ := bd_ H
 try dsimp -simprocs only at H
 obtain ⟨⟨t761, t762, t763⟩, A7, H⟩ := bd_ H
 try dsimp -simprocs only at H
 obtain ⟨⟨t764, t765, t766⟩, A8, H⟩ := bd_ H
 try dsimp -simprocs only at H
 simp only [Option.some.injEq, Prod.mk.injEq] at H
 obtain ⟨rfl, rfl, rfl, rfl⟩ := H
 go_enter Try.func13, Try.ntmps13
 try go_wp2_with (first | ((with_reducible refine gate_dst (N := 2) rfl ?_); refine be_ 2 (cs := #[.slice none 0 0]) 42 ?_; intro gb737 hg w9 hbox hb; have z_ := bx0_ th_ hb hbox hg; clear HB; obtain ⟨HB, BK737, GW737, GE737⟩ := z_; clear hb hbox hg) | ((with_reducible refine gate_dst (N := 3) rfl ?_); refine be_ 3 (cs := #[.string (⟨#[]⟩ : ByteArray), .bool false, .string (⟨#[]⟩ : ByteArray)]) 44 ?_; intro gb738 hg w10 hbox hb; have z_ := bx1_ (kb_ BK737) th_ hb hbox hg; clear BK737 HB; obtain ⟨BK737, HB, BK738, GW738, GE738, NB737_738, NB738_737⟩ := z_; clear hb hbox hg) | ((with_reducible refine gate_callee (f := 47) rfl ?_); refine goesL_ (some 7) rfl rfl Try.func47 (by kernel_rfl) rfl #[.slice A0 l0.length c0] rfl tq_0 ?_; (with_reducible refine (spec_l01New.calls k _ _ l0 t739 t740 t741 w _ ?side1 ?side2 ?side3 A2.out).mono ?_); (case side1 => repeat (first | (with_reducible first | exact HB.out | apply below_alloc | apply pw_below_drewN | apply below_drew1 | refine below_set ?_ GE737.out | refine below_set ?_ GE738.out) | exact HB.out)); (case side2 => exact HR0.out); (case side3 => exact HC0.out); rintro e w11 ⟨g742, rfl, hi, hb, hb2⟩; refine ⟨_, rfl, ?_⟩; have z_ := p_ (blk_below (kb_ BK737) hb2) <| p_ (blk_below (kb_ BK738) hb2) <| p_ (hb) <| p_ (hi) <| p_ (IsS105.ne_blk hi (blk_below (kb_ BK737) hb2) (by decide)) <| p_ (Ne.symm (IsS105.ne_blk hi (blk_below (kb_ BK737) hb2) (by decide))) <| p_ (IsS105.ne_blk hi (blk_below (kb_ BK738) hb2) (by decide)) <| a_ (Ne.symm (IsS105.ne_blk hi (blk_below (kb_ BK738) hb2) (by decide))); clear BK737 BK738 HB; obtain ⟨BK737, BK738, HB, HI742, NB742_737, NB737_742, NB742_738, NB738_742⟩ := z_; (try clear hb); (try clear hb2); (try clear hi)) | ((with_reducible refine gate_callee (f := 49) rfl ?_); refine goesL_ (some 10) rfl rfl Try.func49 (by kernel_rfl) rfl #[.pointer (some ⟨g742, 0, none⟩)] rfl tq_0 ?_; (with_reducible refine (spec_l11Geo.calls g742 t739 t740 t741 t743 t744 t745 t746 t747 t748 w _ ?side1 ?side2 A3.out).mono ?_); (case side1 => exact tq_97); (case side2 => exact tq_98); rintro e w12 ⟨rfl, hi, hb, hk⟩; refine ⟨_, rfl, ?_⟩; have z_ := p_ (KeepBut.blk hk (g' := gb737) (o := .cells #[.slice none 0 0] 42 (0, 0)) (kb_ BK737) NB737_742.out (by simp)) <| p_ (KeepBut.blk hk (g' := gb738) (o := .cells #[.string (⟨#[]⟩ : ByteArray), .bool false, .string (⟨#[]⟩ : ByteArray)] 44 (0, 0)) (kb_ BK738) NB738_742.out (by simp)) <| p_ (hb) <| a_ (hi); clear BK737 BK738 HB HI742; obtain ⟨BK737, BK738, HB, HI742⟩ := z_; (try clear hb); (try clear hb2); (try clear hk); (try clear hi)) | ((with_reducible refine gate_callee (f := 48) rfl ?_); refine goesL_ (some 11) rfl rfl Try.func48 (by kernel_rfl) rfl #[.pointer (some ⟨g742, 0, none⟩), .agg #[.int .i64 t743, .int .i64 t744, .int .i64 t745, .int .i64 t746]] rfl tq_0 ?_; (with_reducible refine (spec_l16Any.calls k g742 t739 t747 t748 t743 t744 t745 t746 t749 t752 t753 w _ ?side1 ?side2 A4.out).mono ?_); (case side1 => exact tq_97); (case side2 => exact tq_98); rintro e w13 ⟨v750, rfl, ho0, hi, hb, hk⟩; refine ⟨_, rfl, ?_⟩; have z_ := p_ (KeepBut.blk hk (g' := gb737) (o := .cells #[.slice none 0 0] 42 (0, 0)) (kb_ BK737) NB737_742.out (by simp)) <| p_ (KeepBut.blk hk (g' := gb738) (o := .cells #[.string (⟨#[]⟩ : ByteArray), .bool false, .string (⟨#[]⟩ : ByteArray)] 44 (0, 0)) (kb_ BK738) NB738_742.out (by simp)) <| p_ (Kd.R_lower (Kd.R_newB ho0 (g := gb738) (o := .cells #[.string (⟨#[]⟩ : ByteArray), .bool false, .string (⟨#[]⟩ : ByteArray)] 44 (0, 0)) (kb_ BK738)) (below_size tq_47)) <| p_ (hb) <| a_ (hi); clear BK737 BK738 HB HI742; obtain ⟨BK737, BK738, HO751, HB, HI742⟩ := z_; (try clear hb); (try clear hk); (try clear hi); (try clear ho0)) | ((with_reducible refine gate_dst (N := 5) rfl ?_); refine be_ 5 (cs := #[.slice none 0 0]) 42 ?_; intro gb754 hg w14 hbox hb; have z_ := p_ (Kd.R_below (raR_ HO751) hb) <| p_ (blk_below (kb_ BK737) hb) <| p_ (blk_below (kb_ BK738) hb) <| p_ (IsS105.below tq_57 hb) <| p_ (below_step tq_47 hb) <| p_ (hbox) <| p_ (gb_ hg tq_47) <| p_ (gb_ hg tq_47) <| p_ (ltne_ hg (blk_lt (kb_ BK737))) <| p_ (gtne_ hg (blk_lt (kb_ BK737))) <| p_ (ltne_ hg (blk_lt (kb_ BK738))) <| p_ (gtne_ hg (blk_lt (kb_ BK738))) <| p_ ((by rw [hg]; exact Nat.ne_of_lt (IsS105.lt (show IsS105 w _ g742 t739 t752 t753 from tq_57)) : g742 ≠ gb754)) <| a_ ((by rw [hg]; exact Nat.ne_of_gt (IsS105.lt (show IsS105 w _ g742 t739 t752 t753 from tq_57)) : gb754 ≠ g742)); clear HO751 BK737 BK738 HI742 HB; obtain ⟨HO751, BK737, BK738, HI742, HB, BK754, GW754, GE754, NB737_754, NB754_737, NB738_754, NB754_738, NB742_754, NB754_742⟩ := z_; clear hb hbox hg; obtain ⟨Ao15, co15, eo15⟩ := Kd.R_slice HO751.out; subst eo15; obtain ⟨n754_737, n737_754, n754_738, n738_754, n754_742, n742_754⟩ := an6_ NB754_737 NB737_754 NB754_738 NB738_754 NB754_742 NB742_754; have hcz19_0 := bc_ BK754.out 0; have hfz19_0 := blk_frozen BK754.out 0))
 have n0_ : Aside0 (Kd.R k44 44 (w14.setCell ⟨gb754, 0, none⟩ (.slice Ao15 t749.length co15)) w.heap.size (fun k_ => k_ ≠ gb738) (.slice Ao15 t749.length co15) t749) := ⟨(by (with_reducible repeat (first | apply Kd.R_alloc | apply Kd.R_drewN | apply Kd.R_drew)); exact Kd.R_mono (rR_ (Kd.R_types HO751.out BK754.out (by decide))) (fun _ hk => hk.1.2))⟩
 have n1_ : Aside0 ((w14.setCell ⟨gb754, 0, none⟩ (.slice Ao15 t749.length co15)).heap[gb737]? = some (.cells #[.slice none 0 0] 42 (0, 0))) := ⟨tb_⟩
 have n2_ : Aside0 ((w14.setCell ⟨gb754, 0, none⟩ (.slice Ao15 t749.length co15)).heap[gb738]? = some (.cells #[.string (⟨#[]⟩ : ByteArray), .bool false, .string (⟨#[]⟩ : ByteArray)] 44 (0, 0))) := ⟨tb_⟩
 have n3_ : Aside0 ((w14.setCell ⟨gb754, 0, none⟩ (.slice Ao15 t749.length co15)).heap[gb754]? = some (.cells #[.slice Ao15 t749.length co15] 42 (0, 0))) := ⟨tb_⟩
 have n4_ : Aside0 (IsS105 w (w14.setCell ⟨gb754, 0, none⟩ (.slice Ao15 t749.length co15)) g742 t739 t752 t753) := ⟨tq_33⟩
 have n5_ : Aside0 (Below w.heap.size w (w14.setCell ⟨gb754, 0, none⟩ (.slice Ao15 t749.length co15))) := ⟨tq_84⟩
 (try clear HO751)
 (try clear BK737)
 (try clear BK738)
 (try clear BK754)
 (try clear HI742)
 (try clear HB)
 generalize (w14.setCell ⟨gb754, 0, none⟩ (.slice Ao15 t749.length co15)) = w20 at n0_ n1_ n2_ n3_ n4_ n5_ ⊢
 have HO751 := n0_
 have BK737 := n1_
 have BK738 := n2_
 have BK754 := n3_
 have HI742 := n4_
 have HB := n5_
 clear n0_ n1_ n2_ n3_ n4_ n5_
 have z_ := p_ (Kd.R_drew HO751.out) <| p_ (blk_drew BK737.out) <| p_ (blk_drew BK738.out) <| p_ (blk_drew BK754.out) <| p_ (IsS105.drew HI742.out) <| a_ (below_drew1 HB.out)
 clear HO751 BK737 BK738 BK754 HI742 HB
 obtain ⟨HO751, BK737, BK738, BK754, HI742, HB⟩ := z_
 refine start_ (n := 12) (S := fun w' => w'.cell? ⟨gb754, 0, none⟩ = some (.slice Ao15 t749.length co15)) (ds := []) #[false, false, false, false, false, false, false, false, false, false, false, false] (by kernel_rfl) rfl rfl ((blk_cell BK754.out 0).trans rfl) (fun hHeld => ?_); refine with_tabW spec_DrawPutItem.tab3 spec_DrawPutItem.bits3 (fun HT_ HW_ => ?_)
 generalize w20.drew = w21 at HO751 BK737 BK738 BK754 HI742 HB hHeld ⊢
 refine yr_ 1 13 #[false, true, false, false, false, false, false, false, false, false, false, false] HT_ ?_
 refine yr_ 3 15 #[false, true, false, true, false, false, false, false, false, false, false, false] HT_ ?_
 refine yr_ 5 17 #[false, true, false, true, false, true, false, false, false, false, false, false] HT_ ?_
 refine yr_ 6 18 #[false, true, false, true, false, true, true, false, false, false, false, false] HT_ ?_
 refine take_ (i := 0) (N := some 12) (v := ?_) (a' := ?_) #[true, true, false, true, false, true, true, false, false, false, false, false] rfl rfl (take_ofW HT_.out HW_.out (by kernel_rfl)) (fun _ _ _ h => h) (Or.inl ⟨(by rfl), ?_⟩) hHeld ?_ ?_
 rotate_left
 ·intro w' s0
  go_simp
  with_reducible rfl
 rotate_left
 ·simp only [Act.put, List.setIfInBounds_toArray, List.set_cons_zero, List.set_cons_succ, i64_w, i32_w]
  rfl
 refine one_ (i := 2) (N := some 14) #[true, true, true, true, false, true, true, false, false, false, false, false] rfl rfl (one_of HT_.out (by kernel_rfl)) (by decide) (fun K hK => ?_)
 refine goes_ Try.func50 (by kernel_rfl) rfl #[.pointer (some ⟨g742, 0, none⟩)] (by rfl) rfl rfl tq_0 ?_
 with_reducible refine (spec_l15Any.calls g742 t739 t752 t753 t755 t756 t757 w _ ?side1 ?side2 A5.out).mono ?_
 (case side1 => exact tq_41)
 (case side2 => exact tq_44)
 rintro e w22 ⟨rfl, hi, hb, hk⟩
 refine ⟨_, rfl, ?_⟩
 have z_ := p_ (KeepBut.blk hk (g' := gb737) (o := .cells #[.slice none 0 0] 42 (0, 0)) (kb_ BK737) NB737_742.out (by simp)) <| p_ (KeepBut.blk hk (g' := gb738) (o := .cells #[.string (⟨#[]⟩ : ByteArray), .bool false, .string (⟨#[]⟩ : ByteArray)] 44 (0, 0)) (kb_ BK738) NB738_742.out (by simp)) <| p_ (Kd.R_mono (Kd.R_keep (IsS105.apart (show IsS105 w _ g742 t739 t752 t753 from tq_33) (raR_ HO751) (by decide)) hk (fun _ h => h.2)) (fun _ h => h.1)) <| p_ (KeepBut.blk hk (g' := gb754) (o := .cells #[.slice Ao15 t749.length co15] 42 (0, 0)) (kb_ BK754) NB754_742.out (by simp)) <| p_ (hb) <| a_ (hi)
 clear BK737 BK738 HO751 BK754 HB HI742
 obtain ⟨BK737, BK738, HO751, BK754, HB, HI742⟩ := z_
 (try clear hb)
 (try clear hk)
 (try clear hi)
 refine hK.out _ _ ((blk_cell BK754.out 0).trans rfl) (fun hHeld => ?_)
 clear hK K
 refine nm_ (some 14) ?_
 refine one_ (i := 4) (N := some 16) #[true, true, true, true, true, true, true, false, false, false, false, false] rfl rfl (one_of HT_.out (by kernel_rfl)) (by decide) (fun K hK => ?_)
 refine goes_ Try.func51 (by kernel_rfl) rfl #[.pointer (some ⟨g742, 0, none⟩), .int .i64 2] (by rfl) rfl rfl tq_0 ?_
 with_reducible refine (spec_l01Once.calls g742 t739 t756 t757 2 t758 t759 t760 w _ ?side1 ?side2 A6.out).mono ?_
 (case side1 => exact tq_41)
 (case side2 => exact tq_44)
 rintro e w23 ⟨rfl, hi, hb, hk⟩
 refine ⟨_, rfl, ?_⟩
 have z_ := p_ (KeepBut.blk hk (g' := gb737) (o := .cells #[.slice none 0 0] 42 (0, 0)) (kb_ BK737) NB737_742.out (by simp)) <| p_ (KeepBut.blk hk (g' := gb738) (o := .cells #[.string (⟨#[]⟩ : ByteArray), .bool false, .string (⟨#[]⟩ : ByteArray)] 44 (0, 0)) (kb_ BK738) NB738_742.out (by simp)) <| p_ (Kd.R_mono (Kd.R_keep (IsS105.apart (show IsS105 w _ g742 t739 t756 t757 from tq_33) (raR_ HO751) (by decide)) hk (fun _ h => h.2)) (fun _ h => h.1)) <| p_ (KeepBut.blk hk (g' := gb754) (o := .cells #[.slice Ao15 t749.length co15] 42 (0, 0)) (kb_ BK754) NB754_742.out (by simp)) <| p_ (hb) <| a_ (hi)
 clear BK737 BK738 HO751 BK754 HB HI742
 obtain ⟨BK737, BK738, HO751, BK754, HB, HI742⟩ := z_
 (try clear hb)
 (try clear hk)
 (try clear hi)
 refine hK.out _ _ ((blk_cell BK754.out 0).trans rfl) (fun hHeld => ?_)
 clear hK K
 refine nm_ (some 16) ?_
 refine one_ (i := 7) (N := some 19) #[true, true, true, true, true, true, true, true, false, false, false, false] rfl rfl (one_of HT_.out (by kernel_rfl)) (by decide) (fun K hK => ?_)
 refine goes_ Try.func53 (by kernel_rfl) rfl #[.pointer (some ⟨g742, 0, none⟩), .int .i64 5] (by rfl) rfl rfl tq_0 ?_
 with_reducible refine (spec_l01Below.calls g742 t739 t759 t760 5 t761 t762 t763 w _ ?side1 ?side2 A7.out).mono ?_
 (case side1 => exact tq_41)
 (case side2 => exact tq_44)
 rintro e w24 ⟨rfl, hi, hb, hk⟩
 refine ⟨_, rfl, ?_⟩
 have z_ := p_ (KeepBut.blk hk (g' := gb737) (o := .cells #[.slice none 0 0] 42 (0, 0)) (kb_ BK737) NB737_742.out (by simp)) <| p_ (KeepBut.blk hk (g' := gb738) (o := .cells #[.string (⟨#[]⟩ : ByteArray), .bool false, .string (⟨#[]⟩ : ByteArray)] 44 (0, 0)) (kb_ BK738) NB738_742.out (by simp)) <| p_ (Kd.R_mono (Kd.R_keep (IsS105.apart (show IsS105 w _ g742 t739 t759 t760 from tq_33) (raR_ HO751) (by decide)) hk (fun _ h => h.2)) (fun _ h => h.1)) <| p_ (KeepBut.blk hk (g' := gb754) (o := .cells #[.slice Ao15 t749.length co15] 42 (0, 0)) (kb_ BK754) NB754_742.out (by simp)) <| p_ (hb) <| a_ (hi)
 clear BK737 BK738 HO751 BK754 HB HI742
 obtain ⟨BK737, BK738, HO751, BK754, HB, HI742⟩ := z_
 (try clear hb)
 (try clear hk)
 (try clear hi)
 refine hK.out _ _ ((blk_cell BK754.out 0).trans rfl) (fun hHeld => ?_)
 clear hK K
 refine nm_ (some 19) ?_
 refine one_ (i := 8) (N := some 20) #[true, true, true, true, true, true, true, true, true, false, false, false] rfl rfl (one_of HT_.out (by kernel_rfl)) (by decide) (fun K hK => ?_)
 refine goes_ Try.func52 (by kernel_rfl) rfl #[.pointer (some ⟨g742, 0, none⟩), .int .i64 t761] (by rfl) rfl rfl tq_0 ?_
 with_reducible refine (spec_l01Text.calls k g742 t739 t762 t763 t761 t764 t765 t766 w _ ?side1 ?side2 A8.out).mono ?_
 (case side1 => exact tq_41)
 (case side2 => exact tq_44)
 rintro e w25 ⟨rfl, hi, hb, hk⟩
 refine ⟨_, rfl, ?_⟩
 have z_ := p_ (KeepBut.blk hk (g' := gb737) (o := .cells #[.slice none 0 0] 42 (0, 0)) (kb_ BK737) NB737_742.out (by simp)) <| p_ (KeepBut.blk hk (g' := gb738) (o := .cells #[.string (⟨#[]⟩ : ByteArray), .bool false, .string (⟨#[]⟩ : ByteArray)] 44 (0, 0)) (kb_ BK738) NB738_742.out (by simp)) <| p_ (Kd.R_mono (Kd.R_keep (IsS105.apart (show IsS105 w _ g742 t739 t762 t763 from tq_33) (raR_ HO751) (by decide)) hk (fun _ h => h.2)) (fun _ h => h.1)) <| p_ (KeepBut.blk hk (g' := gb754) (o := .cells #[.slice Ao15 t749.length co15] 42 (0, 0)) (kb_ BK754) NB754_742.out (by simp)) <| p_ (hb) <| a_ (hi)
 clear BK737 BK738 HO751 BK754 HB HI742
 obtain ⟨BK737, BK738, HO751, BK754, HB, HI742⟩ := z_
 (try clear hb)
 (try clear hk)
 (try clear hi)
 refine hK.out _ _ ((blk_cell BK754.out 0).trans rfl) (fun hHeld => ?_)
 clear hK K
 refine nm_ (some 20) ?_
 refine yr_ 9 21 #[true, true, true, true, true, true, true, true, true, true, false, false] HT_ ?_
 refine one_ (i := 10) (N := none) #[true, true, true, true, true, true, true, true, true, true, true, false] rfl rfl (one_of HT_.out (by kernel_rfl)) (by decide) (fun K hK => ?_)
 have hs26 : w25.cell? ⟨gb737, 0, none⟩ = some (.slice none 0 0) := (blk_cell BK737.out 0).trans rfl
 have hfs26 := blk_frozen BK737.out 0
 obtain ⟨n738_737, n737_738⟩ := an2_ NB738_737 NB737_738
 refine skip_ (w1 := ?_) (by rfl) rfl ?_ ?_
 rotate_left
 ·go_simp
  rfl
 refine hK.out _ _ ((cf_ NB754_737 hHeld)) (fun hHeld => ?_)
 clear hK K
 refine one_ (i := 11) (N := none) #[true, true, true, true, true, true, true, true, true, true, true, true] rfl rfl (one_of HT_.out (by kernel_rfl)) (by decide) (fun K hK => ?_)
 have hs27 : w25.cell? ⟨gb738, 0, none⟩ = some (.string (⟨#[]⟩ : ByteArray)) := (blk_cell BK738.out 0).trans rfl
 have hfs27 := blk_frozen BK738.out 0
 have hs28 : w25.cell? ⟨gb738, 1, none⟩ = some (.bool false) := (blk_cell BK738.out 1).trans rfl
 have hfs28 := blk_frozen BK738.out 1
 have hs29 : w25.cell? ⟨gb738, 2, none⟩ = some (.string (⟨#[]⟩ : ByteArray)) := (blk_cell BK738.out 2).trans rfl
 have hfs29 := blk_frozen BK738.out 2
 refine skip_ (w1 := ?_) (by rfl) rfl ?_ ?_
 rotate_left
 ·go_simp
  rfl
 refine hK.out _ _ ((cf_ NB754_738 (cf_ NB754_738 (cf_ NB754_738 hHeld)))) (fun hHeld => ?_)
 clear hK K
 refine done_ (done_of HT_.out (by kernel_rfl)) ?_
 try go_wp2
 refine bodyPost_ret (results_cc rfl _ _ gb737 gb738 42 44 #[.slice Ao15 t749.length co15] #[.string t755, .bool t758, .string t764] (0, 0) (0, 0) _ _ rfl tb_ Try.underlying42 rfl (by kernel_rfl) rfl tb_ Try.underlying44 rfl (by kernel_rfl)) rfl ?_
 exact ⟨_, tq_1, (by (with_reducible repeat (first | apply Kd.R_alloc | apply Kd.R_drewN | apply Kd.R_drew)); exact Kd.R_mono (rR_ (rR_ (rR_ (rR_ (Kd.R_mono (Kd.R_types HO751.out BK737.out (by decide)) (fun k_ hk => (⟨hk, hk.1⟩ : _ ∧ k_ ≠ gb738))) (fun _ hk => hk.1.2))))) (fun _ hk => trivial)), tq_84⟩

/-! ### impl_PutItem_1: function 55 -/
def clo55.p (c0_0 : ByteArray) (c0_1 : Bool) (c0_2 : ByteArray) (x : S44) : Bool := !(Op.bytesLess x.f0.toList c0_0.toList)
theorem clo55 (x : S44) (gb0 : Nat) (c0_0 : ByteArray) (c0_1 : Bool) (c0_2 : ByteArray) (W : World) (hcl0 : W.heap[gb0]? = some (.cells #[.string c0_0, .bool c0_1, .string c0_2] 44 (0, 0))) : Calls Try.prog 55 (#[.agg #[.string x.f0, .bool x.f1, .string x.f2]] ++ #[.pointer (some ⟨gb0, 0, none⟩)]) W fun e w' => e = .returned (.bool (clo55.p c0_0 c0_1 c0_2 x)) ∧ Below W.heap.size W w' := by
 have hu44 := Try.underlying44
 have hb0 : gb0 < W.heap.size := blk_lt hcl0
 have h0_0 : W.cell? ⟨gb0, 0, none⟩ = some (.string c0_0) := (blk_cell hcl0 0).trans rfl
 have h0_1 : W.cell? ⟨gb0, 1, none⟩ = some (.bool c0_1) := (blk_cell hcl0 1).trans rfl
 have h0_2 : W.cell? ⟨gb0, 2, none⟩ = some (.string c0_2) := (blk_cell hcl0 2).trans rfl
 clear hcl0
 show Calls Try.prog 55 #[.agg #[.string x.f0, .bool x.f1, .string x.f2], .pointer (some ⟨gb0, 0, none⟩)] W _
 go_enter Try.func55, Try.ntmps55
 go_wp2
 go_ret
 exact ⟨(by unfold clo55.p; first | rfl | (simp; done)), tq_102⟩

/-! ### impl_DropItem_1: function 59 -/
def clo59.p (c0_0 : ByteArray) (x : S44) : Bool := x.f0.toList == c0_0.toList
theorem clo59 (x : S44) (gb0 : Nat) (c0_0 : ByteArray) (W : World) (hcl0 : W.heap[gb0]? = some (.cells #[.string c0_0] 9 (0, 0))) : Calls Try.prog 59 (#[.agg #[.string x.f0, .bool x.f1, .string x.f2]] ++ #[.pointer (some ⟨gb0, 0, none⟩)]) W fun e w' => e = .returned (.bool (clo59.p c0_0 x)) ∧ Below W.heap.size W w' := by
 have hu9 := Try.underlying9
 have hu44 := Try.underlying44
 have hb0 : gb0 < W.heap.size := blk_lt hcl0
 have h0_0 : W.cell? ⟨gb0, 0, none⟩ = some (.string c0_0) := (blk_cell hcl0 0).trans rfl
 clear hcl0
 show Calls Try.prog 59 #[.agg #[.string x.f0, .bool x.f1, .string x.f2], .pointer (some ⟨gb0, 0, none⟩)] W _
 go_enter Try.func59, Try.ntmps59
 go_wp2
 go_ret
 exact ⟨(by unfold clo59.p; first | rfl | (simp; done)), tq_102⟩

/-! ### impl_ItemAt_1: function 60 -/
def clo60.p (c0_0 : ByteArray) (x : S44) : Bool := x.f0.toList == c0_0.toList
theorem clo60 (x : S44) (gb0 : Nat) (c0_0 : ByteArray) (W : World) (hcl0 : W.heap[gb0]? = some (.cells #[.string c0_0] 9 (0, 0))) : Calls Try.prog 60 (#[.agg #[.string x.f0, .bool x.f1, .string x.f2]] ++ #[.pointer (some ⟨gb0, 0, none⟩)]) W fun e w' => e = .returned (.bool (clo60.p c0_0 x)) ∧ Below W.heap.size W w' := by
 have hu9 := Try.underlying9
 have hu44 := Try.underlying44
 have hb0 : gb0 < W.heap.size := blk_lt hcl0
 have h0_0 : W.cell? ⟨gb0, 0, none⟩ = some (.string c0_0) := (blk_cell hcl0 0).trans rfl
 clear hcl0
 show Calls Try.prog 60 #[.agg #[.string x.f0, .bool x.f1, .string x.f2], .pointer (some ⟨gb0, 0, none⟩)] W _
 go_enter Try.func60, Try.ntmps60
 go_wp2
 go_ret
 exact ⟨(by unfold clo60.p; first | rfl | (simp; done)), tq_102⟩

/-! ### slices_IndexFunc_Item: function 54 -/
def lq54_ren : Go.Shelf.Ren := ⟨fun | 6 => 54 | n => n, fun | 22 => 40 | 23 => 44 | 25 => 83 | 3 => 3 | 0 => 0 | 4 => 4 | n => n, fun | n => n⟩
theorem lq54 : Go.Proofs.SlLaysH0.n6 Try.prog lq54_ren := {
 mixed := by kernel_rfl
 f6 := ⟨Try.f54.name, (by decide), Try.func54.trans (congrArg some (by kernel_rfl))⟩
 t0 := Try.underlying0
 a0 := Try.isAgg0
 z0 := Try.sizeOf0
 v0 := Try.zeroValue0
 t3 := Try.underlying3
 a3 := Try.isAgg3
 z3 := Try.sizeOf3
 v3 := Try.zeroValue3
 t4 := Try.underlying4
 a4 := Try.isAgg4
 z4 := Try.sizeOf4
 v4 := Try.zeroValue4
 t22 := Try.underlying40
 a22 := Try.isAgg40
 z22 := Try.sizeOf40
 v22 := Try.zeroValue40
 t25 := Try.underlying83
 a25 := Try.isAgg83
 z25 := Try.sizeOf83
 v25 := Try.zeroValue83 }
theorem idx54_nil (a : Option Addr) (c : Nat) (fv : Value) (w : World) : Calls Try.prog 54 #[.slice a 0 c, fv] w fun e w' => e = .returned (.int .i64 (-1)) ∧ w' = w := by
 go_enter Try.func54, Try.ntmps54
 go_wp2
 go_loopg [5, 8] 0 (fun gg _ s8 wr => s8 = .int .i64 0 ∧ wr = w)
 case atStart => exact ⟨rfl, rfl⟩
 case round =>
 obtain ⟨rfl, rfl⟩ := hrel
 go_wp2
 go_ret
 exact ⟨rfl, rfl⟩
instance inh44 : Inhabited S44 := ⟨z44⟩
def enc44 (x : S44) : List Value := [.string x.f0, .bool x.f1, .string x.f2]
theorem idx54 (p : S44 → Bool) (g : Nat) (lb : Array Value) (eg : ∀ args w, (callFunc g args).run Try.prog w = .ok (.enter g args) w) (A0 : Option Addr) (c0 : Nat) (l0 : List S44) (w : World) (hr0 : Kd.C k44 w A0 l0.length l0) (hbig : l0.length ≤ 9223372036854775807)
  (hp : PredBelow Try.prog g lb (fun x => .agg (enc44 x).toArray) p w) :
  Calls Try.prog 54 #[.slice A0 l0.length c0, .func (.func g) #[] lb] w fun e w' => e = .returned (.int .i64 (Lib.idxBy (fun _ y => p y) l0 default)) ∧ Below w.heap.size w w' := by
 rcases Nat.eq_zero_or_pos l0.length with hz | hz
 ·have hn := List.eq_nil_of_length_eq_zero hz
  subst hn
  refine (idx54_nil A0 c0 _ w).mono ?_
  rintro e w' ⟨rfl, rfl⟩
  exact ⟨rfl, Below.refl _ _⟩
 ·obtain ⟨ad, rfl, hcell⟩ := hr0.2.2 hz
  have cells : ∀ (j : Nat) x, l0[j]? = some x → ∀ i v, (enc44 x)[i]? = some v → w.cell? (ad.add (j * 3 + i)) = some v := by
   intro j x hx i v hv
   obtain ⟨c, _, hk, hc⟩ := hcell j x hx
   have hk2 := k44_open hk
   subst hk2
   exact hc i _ hv
  have h0 := cells 0 _ (List.getElem?_eq_getElem hz) 0 _ rfl
  have hsp : ad.spot = none := by
   have h0' : w.cell? ad = some _ := h0
   unfold World.cell? at h0'
   split at h0'
   ·split at h0'
    ·cases h0'
    ·simpa using ‹¬ ad.spot.isSome = true›
   ·cases h0'
  obtain ⟨bk, o, sp⟩ := ad
  cases hsp
  have := AnyQ.slices_IndexFunc lq54 3 Try.isAgg44 Try.sizeOf44 enc44 (fun _ => rfl) p g lb eg bk o l0.length c0 l0 w hp (Nat.le_refl _) hbig (World.block_lt_of_cell? w _ h0) (fun j hj i v hv => by
   have := cells j _ (List.getElem?_eq_getElem hj) i v (by rw [← getElem!_pos l0 j hj]; exact hv)
   rw [Addr.add_lit] at this
   rw [Nat.add_assoc]
   exact this)
  rw [List.take_length] at this
  exact this
def slices_IndexFunc_Item_g55.f (l0 : List S44) (c0_0 : ByteArray) (c0_1 : Bool) (c0_2 : ByteArray) : Option (Int) := if l0.length ≤ 9223372036854775807 then some (Lib.idxBy (fun _ y => clo55.p c0_0 c0_1 c0_2 y) l0 z44) else none
theorem slices_IndexFunc_Item_g55.calls (A0 : Option Addr) (c0 : Nat) (l0 : List S44) (gb0 : Nat) (c0_0 : ByteArray) (c0_1 : Bool) (c0_2 : ByteArray) (r : Int) (w : World) (hr0 : Kd.C k44 w A0 l0.length l0) (hc0 : l0.length ≤ c0) (hcl0 : w.heap[gb0]? = some (.cells #[.string c0_0, .bool c0_1, .string c0_2] 44 (0, 0))) (h : slices_IndexFunc_Item_g55.f l0 c0_0 c0_1 c0_2 = some r) :
  Calls Try.prog 54 #[.slice A0 l0.length c0, .func (.func 55) #[] #[.pointer (some ⟨gb0, 0, none⟩)]] w fun e w' => e = .returned (.int .i64 r) ∧ Below w.heap.size w w' := by
 unfold slices_IndexFunc_Item_g55.f at h
 split at h
 case isFalse => cases h
 case isTrue hl =>
 obtain rfl := Option.some.inj h
 exact idx54 (fun y => clo55.p c0_0 c0_1 c0_2 y) 55 #[.pointer (some ⟨gb0, 0, none⟩)] (fun args W => enters_ Try.func55 rfl rfl args W) A0 c0 l0 w hr0 hl (fun W x hW => (clo55 x gb0 c0_0 c0_1 c0_2 W (blk_below hcl0 hW)).mono fun e w' hq => ⟨hq.1, hW.trans (hq.2.mono hW.size)⟩)
def slices_IndexFunc_Item_g59.f (l0 : List S44) (c0_0 : ByteArray) : Option (Int) := if l0.length ≤ 9223372036854775807 then some (Lib.idxBy (fun _ y => clo59.p c0_0 y) l0 z44) else none
theorem slices_IndexFunc_Item_g59.calls (A0 : Option Addr) (c0 : Nat) (l0 : List S44) (gb0 : Nat) (c0_0 : ByteArray) (r : Int) (w : World) (hr0 : Kd.C k44 w A0 l0.length l0) (hc0 : l0.length ≤ c0) (hcl0 : w.heap[gb0]? = some (.cells #[.string c0_0] 9 (0, 0))) (h : slices_IndexFunc_Item_g59.f l0 c0_0 = some r) :
  Calls Try.prog 54 #[.slice A0 l0.length c0, .func (.func 59) #[] #[.pointer (some ⟨gb0, 0, none⟩)]] w fun e w' => e = .returned (.int .i64 r) ∧ Below w.heap.size w w' := by
 unfold slices_IndexFunc_Item_g59.f at h
 split at h
 case isFalse => cases h
 case isTrue hl =>
 obtain rfl := Option.some.inj h
 exact idx54 (fun y => clo59.p c0_0 y) 59 #[.pointer (some ⟨gb0, 0, none⟩)] (fun args W => enters_ Try.func59 rfl rfl args W) A0 c0 l0 w hr0 hl (fun W x hW => (clo59 x gb0 c0_0 W (blk_below hcl0 hW)).mono fun e w' hq => ⟨hq.1, hW.trans (hq.2.mono hW.size)⟩)
def slices_IndexFunc_Item_g60.f (l0 : List S44) (c0_0 : ByteArray) : Option (Int) := if l0.length ≤ 9223372036854775807 then some (Lib.idxBy (fun _ y => clo60.p c0_0 y) l0 z44) else none
theorem slices_IndexFunc_Item_g60.calls (A0 : Option Addr) (c0 : Nat) (l0 : List S44) (gb0 : Nat) (c0_0 : ByteArray) (r : Int) (w : World) (hr0 : Kd.C k44 w A0 l0.length l0) (hc0 : l0.length ≤ c0) (hcl0 : w.heap[gb0]? = some (.cells #[.string c0_0] 9 (0, 0))) (h : slices_IndexFunc_Item_g60.f l0 c0_0 = some r) :
  Calls Try.prog 54 #[.slice A0 l0.length c0, .func (.func 60) #[] #[.pointer (some ⟨gb0, 0, none⟩)]] w fun e w' => e = .returned (.int .i64 r) ∧ Below w.heap.size w w' := by
 unfold slices_IndexFunc_Item_g60.f at h
 split at h
 case isFalse => cases h
 case isTrue hl =>
 obtain rfl := Option.some.inj h
 exact idx54 (fun y => clo60.p c0_0 y) 60 #[.pointer (some ⟨gb0, 0, none⟩)] (fun args W => enters_ Try.func60 rfl rfl args W) A0 c0 l0 w hr0 hl (fun W x hW => (clo60 x gb0 c0_0 W (blk_below hcl0 hW)).mono fun e w' hq => ⟨hq.1, hW.trans (hq.2.mono hW.size)⟩)

/-! ### slices_DeleteFunc_Item: function 57 -/
theorem flat44 : Flat.IsFlat k44 enc44 := ⟨fun w base ok x => k44_mkM w base ok x, fun w x cs h => k44_open h⟩
set_option maxHeartbeats 8000000 in
set_option maxRecDepth 100000 in
theorem del57 (p : S44 → Bool) (g : Nat) (lb : Array Value) (eg : ∀ args w, (callFunc g args).run Try.prog w = .ok (.enter g args) w) (gb : Nat) (ob : Obj)
  (hp : ∀ (x : S44) (W : World), W.heap[gb]? = some ob → Calls Try.prog g (#[.agg (enc44 x).toArray] ++ lb) W fun e w' => e = .returned (.bool (p x)) ∧ Below W.heap.size W w')
  (P0_ : Nat → Prop) (u9000_ : Value) (l0 : List S44) (w0 w : World) (hB : Below w0.heap.size w0 w) (ho0 : Kd.R k44 44 w w0.heap.size P0_ u9000_ l0) (hbig : l0.length ≤ 9223372036854775807) (hcl : w.heap[gb]? = some ob) (hne : some gb ≠ u9000_.ownBlock) :
  Calls Try.prog 57 #[u9000_, .func (.func g) #[] lb] w fun e w' => ∃ v0_ : Value, e = .returned v0_ ∧ Kd.R k44 44 w' w0.heap.size (fun k_ => (P0_ k_ ∨ w.heap.size ≤ k_)) v0_ (l0.filter fun y => !p y) ∧ Below w0.heap.size w0 w' ∧ Kept w w' (fun k_ => P0_ k_) := by
 obtain ⟨A, c, rfl, hnc, hC⟩ := Kd.R_reads ho0
 have hIF := idx54 p g lb eg A c l0 w hC hbig (fun W x hW => (hp x W (blk_below hcl hW)).mono fun e w' hq => ⟨hq.1, hW.trans (hq.2.mono hW.size)⟩)
 have HB := Aside0.mk hB
 have HO := Aside0.mk ho0
 have hu44 := Try.underlying44
 rcases Flat.idx_cut p default l0 0 with ⟨e1, hall⟩ | ⟨a, b, c', hl, e1, hb, ha⟩
 ·have e2 : Lib.idxBy (fun _ y => p y) l0 default = -1 := e1
  rw [e2] at hIF
  rw [hall]
  clear e1 e2 hall hC ho0 hp hB hcl hne
  go_enter Try.func57, Try.ntmps57
  go_wp2_with (go_at_call 54; refine hIF.mono ?_; rintro e w1 ⟨rfl, hb⟩)
  go_ret
  exact ⟨_, rfl, Kd.R_mono (Kd.R_below HO.out hb) (fun _ h => .inl h), below_step HB.out hb, Kept.of_below hb _⟩
 ·have e2 : Lib.idxBy (fun _ y => p y) l0 default = ((a.length : Nat) : Int) := e1.trans (by rw [Nat.zero_add])
  rw [e2] at hIF
  have hpos : 0 < l0.length := by rw [hl]; simp; omega
  have hst := Flat.DelInv.start (c := c') hb ha
  rw [← hl] at hst
  obtain ⟨g0, cap, hv, hbg, hlt, cells, hh⟩ := Kd.R_form ho0 hpos
  injection hv with hv1 _ hv2
  subst hv1; subst hv2
  have hgne : gb ≠ g0 := fun e => hne (by rw [e]; rfl)
  have HST := Aside0.mk hst
  have HCL := Aside0.mk hcl
  have HP := Aside0.mk hp
  have HGP := Aside0.mk (ho0.1 g0 rfl)
  have hne1 : (((a.length : Nat) : Int) == -1) = false := beq_eq_false_iff_ne.2 (by omega)
  have hal : a.length < l0.length := by rw [hl]; simp
  have HL := Aside0.mk hal
  clear e1 e2 hl hb ha hp hst hC hcl hB ho0 hh hne
  go_enter Try.func57, Try.ntmps57
  go_wp2_with (go_at_call 54; refine hIF.mono ?_; rintro e w1 ⟨rfl, hb⟩)
  go_loopg [5, 6, 7] l0.length (fun gg s5 s6 _ wr => ∃ (i j : Nat) (l : List S44), s5 = .int .i64 i ∧ s6 = .int .i64 j ∧ l0.length - j ≤ gg ∧ Aside0 (Flat.DelInv p l0 i j l) ∧ Aside0 (Kd.R k44 44 wr w0.heap.size (fun k_ => (P0_ k_ ∨ w.heap.size ≤ k_)) (.slice (some ⟨g0, 0, none⟩) l0.length c) l) ∧ Aside0 (Below w0.heap.size w0 wr) ∧ Aside0 (Kept w wr (fun k_ => P0_ k_)) ∧ Aside0 (wr.heap[gb]? = some ob))
  case atStart => exact ⟨a.length, a.length + 1, l0, rfl, (by have := HL.out; go_num), (by omega), HST, ⟨Kd.R_mono (Kd.R_below HO.out hb) (fun _ h => .inl h)⟩, ⟨below_step HB.out hb⟩, ⟨Kept.of_below hb _⟩, ⟨blk_below HCL.out hb⟩⟩
  case round =>
  obtain ⟨i, j, l, rfl, rfl, hgg, HI, HR, HB1, HK, HC1⟩ := hrel
  have hij := HI.out.lt
  have hjn := HI.out.le
  have hll := HI.out.len
  clear HST HCL HO HB
  by_cases hjl : j < l0.length
  rotate_left
  ·have hjz : ¬ ((j : Int) < (l0.length : Int)) := by omega
   have hje : j = l0.length := by omega
   have hci : ¬ (c = i) := by omega
   have hin : i ≤ l0.length := by omega
   have hcl : ∀ ty, (Builtin.clear_ #[40] ty #[.slice (some ⟨g0, i * 3, none⟩) (l0.length - i) (c - i)]).run Try.prog wr = .ok (.tuple #[]) (wr.setCells g0 (i * 3) ((List.replicate (l0.length - i) z44).flatMap enc44)) := fun ty => Flat.run_clear flat44 (by decide) HR.out 40 ty _ z44 rfl Try.underlying40 Try.zeroValue44 i (l0.length - i) (c - i) (by omega) (by omega)
   go_wp2
   go_ret
   have hS := Flat.R_cells flat44 HR.out i (List.replicate (l0.length - i) z44) (by rw [List.length_replicate]; omega)
   have hT := Kd.R_take (m := i) hS.1 (by simp [List.length_take, List.length_drop]; omega)
   rw [List.append_assoc, List.take_left' (by simp [List.length_take]; omega)] at hT
   have hD := HI.out
   rw [hje] at hD
   rw [hD.done] at hT
   refine ⟨_, rfl, hT, pw_below_grown HB1.out (some g0) HB1.out.size hS.2 (fun k hk => ?_), Kept.of_grown hS.2 HK.out (fun k hk => ?_)⟩
   ·obtain rfl := Option.some.inj hk
    exact hbg
   ·obtain rfl := Option.some.inj hk
    exact .inl HGP.out
  have hjz : (j : Int) < (l0.length : Int) := by omega
  have hx := HI.out.at_ hjl (by omega)
  have hR := HR.out
  obtain ⟨x, hxe⟩ : ∃ x, x = l0[j] := ⟨_, rfl⟩
  have hcj0 : wr.cell? ⟨g0, j * 3, none⟩ = some (.string x.f0) := by rw [hxe, ← hx]; exact Flat.R_cell flat44 hR j (by omega) 0 _ rfl
  have hcj1 : wr.cell? ⟨g0, j * 3 + 1, none⟩ = some (.bool x.f1) := by rw [hxe, ← hx]; exact Flat.R_cell flat44 hR j (by omega) 1 _ rfl
  have hcj2 : wr.cell? ⟨g0, j * 3 + 2, none⟩ = some (.string x.f2) := by rw [hxe, ← hx]; exact Flat.R_cell flat44 hR j (by omega) 2 _ rfl
  have hcall : ∀ W', Below wr.heap.size wr W' → W'.heap[wr.heap.size]? = some (.cells #[.string x.f0, .bool x.f1, .string x.f2] 44 (0, 0)) → Calls Try.prog g (#[.agg #[.string x.f0, .bool x.f1, .string x.f2]] ++ lb) W' fun e w' => e = .returned (.bool (p x)) ∧ Below wr.heap.size wr w' ∧ w'.heap[wr.heap.size]? = some (.cells #[.string x.f0, .bool x.f1, .string x.f2] 44 (0, 0)) := fun W' hW hx => (HP.out x W' (blk_below HC1.out hW)).mono fun e w' hq => ⟨hq.1, below_then hW hW.size hq.2, blk_below hx hq.2⟩
  have HXE := Aside0.mk hxe
  clear hxe hx hR
  cases hq : p x with
  | false =>
   rw [hq] at hcall
   go_wp2_with (go_at_fn g; refine (hcall _ ?hbl ?hbx).mono ?_; (case hbl => exact below_alloc (Below.refl _ _) _); (case hbx => exact heap_alloc_new ..); rintro e w1 ⟨rfl, hb1, hbx⟩; have hv0 : w1.cell? ⟨wr.heap.size, 0, none⟩ = some (.string x.f0) := (blk_cell hbx 0).trans rfl; have hv1 : w1.cell? ⟨wr.heap.size, 1, none⟩ = some (.bool x.f1) := (blk_cell hbx 1).trans rfl; have hv2 : w1.cell? ⟨wr.heap.size, 2, none⟩ = some (.string x.f2) := (blk_cell hbx 2).trans rfl; have HR1 := Aside0.mk (Kd.R_below HR.out hb1); have HB2 := Aside0.mk hb1; have hi0 := Flat.R_cell flat44 HR1.out i (by omega) 0 _ rfl; have hi1 := Flat.R_cell flat44 HR1.out i (by omega) 1 _ rfl; have hi2 := Flat.R_cell flat44 HR1.out i (by omega) 2 _ rfl; have hf0 := Flat.R_fz flat44 HR1.out (i * 3); have hf1 := Flat.R_fz flat44 HR1.out (i * 3 + 1); have hf2 := Flat.R_fz flat44 HR1.out (i * 3 + 2); clear hbx hb1; (try simp only [show k44.sz = 3 from rfl, Nat.add_zero] at hi0 hi1 hi2))
   go_roundg (l0.length - (j + 1))
   case measure => omega
   case rel =>
   have hS := Flat.R_cells flat44 HR1.out i [x] (by show i + 1 ≤ l.length; omega)
   refine ⟨i + 1, j + 1, l.take i ++ [x] ++ l.drop (i + 1), (by go_num), (by go_num), (by omega), ⟨?_⟩, ⟨hS.1⟩, ⟨pw_below_grown (below_then HB1.out HB1.out.size HB2.out) (some g0) (Nat.le_trans HB1.out.size HB2.out.size) hS.2 (fun k hk => ?_)⟩, ⟨Kept.of_grown hS.2 (Kept.below HK.out HB2.out) (fun k hk => ?_)⟩, ⟨blk_grown (blk_below HC1.out HB2.out) hS.2 (fun e => hgne (Option.some.inj e))⟩⟩
   ·rw [HXE.out]
    exact HI.out.keep hjl (by rw [← HXE.out]; exact hq)
   ·obtain rfl := Option.some.inj hk
    exact hbg
   ·obtain rfl := Option.some.inj hk
    exact .inl HGP.out
  | true =>
   rw [hq] at hcall
   go_wp2_with (go_at_fn g; refine (hcall _ ?hbl ?hbx).mono ?_; (case hbl => exact below_alloc (Below.refl _ _) _); (case hbx => exact heap_alloc_new ..); rintro e w1 ⟨rfl, hb1, hbx⟩; have HB2 := Aside0.mk hb1; clear hbx hb1)
   go_roundg (l0.length - (j + 1))
   case measure => omega
   case rel => exact ⟨i, j + 1, l, rfl, (by go_num), (by omega), ⟨HI.out.skip hjl (by rw [← HXE.out]; exact hq)⟩, ⟨Kd.R_below HR.out HB2.out⟩, ⟨below_step HB1.out HB2.out⟩, ⟨Kept.below HK.out HB2.out⟩, ⟨blk_below HC1.out HB2.out⟩⟩
def slices_DeleteFunc_Item_g59.f (l0 : List S44) (c0_0 : ByteArray) : Option (List S44) := if l0.length ≤ 9223372036854775807 then some (l0.filter fun y => !clo59.p c0_0 y) else none
theorem slices_DeleteFunc_Item_g59.calls (P0_ : Nat → Prop) (u9000_ : Value) (l0 : List S44) (gb0 : Nat) (c0_0 : ByteArray) (r : List S44) (w0 w : World) (hB : Below w0.heap.size w0 w) (ho0 : Kd.R k44 44 w w0.heap.size P0_ u9000_ l0) (hcl0 : w.heap[gb0]? = some (.cells #[.string c0_0] 9 (0, 0))) (h : slices_DeleteFunc_Item_g59.f l0 c0_0 = some r) :
  Calls Try.prog 57 #[u9000_, .func (.func 59) #[] #[.pointer (some ⟨gb0, 0, none⟩)]] w fun e w' => ∃ v0_ : Value, e = .returned v0_ ∧ Kd.R k44 44 w' w0.heap.size (fun k_ => (P0_ k_ ∨ w.heap.size ≤ k_)) v0_ r ∧ Below w0.heap.size w0 w' ∧ Kept w w' (fun k_ => P0_ k_) := by
 unfold slices_DeleteFunc_Item_g59.f at h
 split at h
 case isFalse => cases h
 case isTrue hl =>
 obtain rfl := Option.some.inj h
 exact del57 (fun y => clo59.p c0_0 y) 59 #[.pointer (some ⟨gb0, 0, none⟩)] (fun args W => enters_ Try.func59 rfl rfl args W) gb0 (.cells #[.string c0_0] 9 (0, 0)) (fun x W hx => clo59 x gb0 c0_0 W hx) P0_ u9000_ l0 w0 w hB ho0 hl hcl0 (Kd.R_ne ho0 hcl0 (by decide))

/-! ### slices_Clone_Item: function 58 -/
def slices_Clone_Item.f (l0 : List (S44)) : Option (List (S44)) := if l0.length < 3518437208883 then some l0 else none
set_option maxHeartbeats 8000000 in
set_option maxRecDepth 100000 in
theorem slices_Clone_Item.calls (A0 : Option Addr) (c0 : Nat) (l0 : List (S44)) (r : List (S44)) (w : World) (hr0 : Kd.C k44 w A0 l0.length l0) (hc0 : l0.length ≤ c0) (h : slices_Clone_Item.f l0 = some r) :
  Calls Try.prog 58 #[.slice A0 l0.length c0] w fun e w' => ∃ v0_ : Value, e = .returned (v0_) ∧ Kd.R k44 44 w' w.heap.size (fun _ => True) v0_ r ∧ Below w.heap.size w w' := by
 have hl : l0.length < 3518437208883 ∧ l0 = r := by
  unfold slices_Clone_Item.f at h
  split at h
  ·exact ⟨(by assumption), Option.some.inj h⟩
  ·cases h
 obtain ⟨hl, rfl⟩ := hl
 clear h
 have HR0 := Aside0.mk hr0
 clear hr0 hc0
 have q_ : ∀ (w : World) (a : Option Addr) (n c n' c' : Nat), (binOp .eql 40 (.slice a n c) (.slice none n' c')).run Try.prog w = .ok (.bool a.isNone) w := fun w a n c n' c' => Lib.run_eql_slice_nil w _ _ a n c n' c' Try.underlying40
 rcases A0 with _ | ad
 ·have hn : l0 = [] := by
   rcases Nat.eq_zero_or_pos l0.length with h0 | h0
   ·exact List.eq_nil_of_length_eq_zero h0
   ·obtain ⟨ad, h, _⟩ := HR0.out.2.2 h0
    cases h
  subst hn
  clear HR0
  go_enter Try.func58, Try.ntmps58
  go_wp2
  go_ret
  exact ⟨_, rfl, Kd.R_nil _ _ _ _ _, Below.refl _ _⟩
 ·have HL := Aside0.mk hl
  clear hl
  go_enter Try.func58, Try.ntmps58
  go_wp2_with ((with_reducible refine gate_builtin (b := .append) (xs := #[.tmp 5, .tmp 6]) rfl ?_); at_builtin; refine Kd.R_append_rows k44 (w0 := w) w.heap.size rfl (.tmp 5) (.tmp 6) 40 44 (.agg #[(.string ⟨#[]⟩), (.bool false), (.string ⟨#[]⟩)]) 40 rfl Try.underlying40 info44 rfl (by decide) (by omega) _ [] l0 _ _ _ (fun _ => True) (fun _ => False) rfl rfl ?aO ?aR (fun _ _ h => h) (fun _ h => h.elim) (fun _ _ => trivial) ?aB ?aS ?aL ?_; (case aO => exact ⟨fun _ _ => trivial, [], World.ownsRow_made w #[] 0 (Nat.le_refl _) (Nat.zero_le _) (by simp), Reps.none _ _⟩); (case aR => exact Kd.C_alloc HR0.out _); (case aB => exact (Below.refl _ _).alloc (Nat.le_refl _) _); (case aS => simp); (case aL => have := HL.out; simp only [List.length_nil]; omega); intro v1 w1 hR hB hg hat)
  go_ret
  exact ⟨_, rfl, (by simpa using hR), hB⟩

/-! ### impl_DropItem: function 15 -/
def impl_DropItem.f (l0_0 : List (S44)) (a1 : ByteArray) : Option ((List (S44))) := (slices_Clone_Item.f l0_0).bind fun t770 => ((slices_DeleteFunc_Item_g59.f t770 a1).bind fun t773 => (some t773))
set_option maxHeartbeats 8000000 in
set_option maxRecDepth 100000 in
theorem impl_DropItem.calls (A0_0 : Option Addr) (c0_0 : Nat) (l0_0 : List (S44)) (a1 : ByteArray) (r : List (S44)) (w : World) (hr0_0 : Kd.C k44 w A0_0 l0_0.length l0_0) (hc0_0 : l0_0.length ≤ c0_0) (h : impl_DropItem.f l0_0 a1 = some r) :
  Calls Try.prog 15 #[.agg #[.slice A0_0 l0_0.length c0_0], .string a1] w fun e w' => ∃ v0_ : Value, e = .returned (.agg #[v0_]) ∧ Kd.R k44 44 w' w.heap.size (fun _ => True) v0_ r ∧ Below w.heap.size w w' := by
 have hu42 := Try.underlying42
 have HR0_0 := Aside0.mk hr0_0
 have HC0_0 := Aside0.mk hc0_0
 clear hr0_0 hc0_0
 have HB := Aside0.mk (Below.refl w.heap.size w)
 unfold impl_DropItem.f at h
 have H := h
 clear h
 obtain ⟨t770, A3, H⟩ := bd_ H
 obtain ⟨t773, A4, H⟩ := bd_ H
 obtain rfl := Option.some.inj H
 go_enter Try.func15, Try.ntmps15
 go_wp2_with (first | ((with_reducible refine gate_dst (N := 2) rfl ?_); refine be_ 2 (cs := #[.slice A0_0 l0_0.length c0_0]) 42 ?_; intro gb767 hg w5 hbox hb; have z_ := bx0_ th_ hb hbox hg; clear HB; obtain ⟨HB, BK767, GW767, GE767⟩ := z_; clear hb hbox hg) | ((with_reducible refine gate_dst (N := 3) rfl ?_); refine be_ 3 (cs := #[.string a1]) 9 ?_; intro gb768 hg w6 hbox hb; have z_ := bx1_ (kb_ BK767) th_ hb hbox hg; clear BK767 HB; obtain ⟨BK767, HB, BK768, GW768, GE768, NB767_768, NB768_767⟩ := z_; clear hb hbox hg) | ((with_reducible refine gate_dst (N := 4) rfl ?_); refine be_ 4 (cs := #[.slice none 0 0]) 42 ?_; intro gb769 hg w7 hbox hb; have z_ := bx2_ (kb_ BK767) (kb_ BK768) th_ hb hbox hg; clear BK767 BK768 HB; obtain ⟨BK767, BK768, HB, BK769, GW769, GE769, NB767_769, NB769_767, NB768_769, NB769_768⟩ := z_; clear hb hbox hg; obtain ⟨n767_768, n768_767, n767_769, n769_767⟩ := an4_ NB767_768 NB768_767 NB767_769 NB769_767; have hcz10_0 := bc_ BK767.out 0; have hfz10_0 := blk_frozen BK767.out 0) | ((with_reducible refine gate_callee (f := 58) rfl ?_); refine goesL_ (some 7) rfl rfl Try.func58 (by kernel_rfl) rfl #[.slice A0_0 l0_0.length c0_0] rfl tq_0 ?_; (with_reducible refine (slices_Clone_Item.calls _ _ l0_0 t770 _ ?side1 ?side2 A3.out).mono ?_); (case side1 => exact tq_10); (case side2 => exact HC0_0.out); rintro e w11 ⟨v771, rfl, ho0, hb⟩; refine ⟨_, rfl, ?_⟩; have z_ := p_ (Kd.R_lower ho0 (below_size th_)) <| bw3_ (kb_ BK767) (kb_ BK768) (kb_ BK769) th_ hb; clear BK767 BK768 BK769 HB; obtain ⟨HO772, BK767, BK768, BK769, HB⟩ := z_; (try clear hb); (try clear ho0); obtain ⟨Ao12, co12, eo12⟩ := Kd.R_slice HO772.out; subst eo12) | ((with_reducible refine gate_callee (f := 57) rfl ?_); refine goesL_ (some 9) rfl rfl Try.func57 (by kernel_rfl) rfl #[.slice Ao12 t770.length co12, .func (.func 59) #[] #[.pointer (some ⟨gb768, 0, none⟩)]] rfl tq_0 ?_; (with_reducible refine (slices_DeleteFunc_Item_g59.calls (fun k_ => some k_ = (.slice Ao12 t770.length co12 : Value).ownBlock) (.slice Ao12 t770.length co12) t770 gb768 a1 t773 w _ ?side1 ?side2 ?side3 A4.out).mono ?_); (case side1 => repeat (first | (with_reducible first | exact HB.out | apply below_alloc | apply pw_below_drewN | apply below_drew1 | refine below_set ?_ GE767.out | refine below_set ?_ GE768.out | refine below_set ?_ GE769.out) | exact HB.out)); (case side2 => exact Kd.R_tight rfl HO772.out); (case side3 => (with_reducible repeat (first | refine blk_drewN ?_ _ | refine blk_drew ?_ | refine blk_alloc ?_ _)); exact BK768.out); rintro e w13 ⟨v774, rfl, ho0, hb, hkp⟩; refine ⟨_, rfl, ?_⟩; have z_ := p_ (blk_kept (kb_ BK767) hkp (fun hs_ => (fun e_ => (Kd.R_ne HO772.out BK767.out (by decide)) e_) hs_)) <| p_ (blk_kept (kb_ BK768) hkp (fun hs_ => (fun e_ => (Kd.R_ne HO772.out BK768.out (by decide)) e_) hs_)) <| p_ (blk_kept (kb_ BK769) hkp (fun hs_ => (fun e_ => (Kd.R_ne HO772.out BK769.out (by decide)) e_) hs_)) <| p_ (Kd.R_mono (ok' := fun k_ => True) ho0 (fun k_ hk_ => trivial)) <| a_ (hb); clear BK767 BK768 BK769 HB HO772; obtain ⟨BK767, BK768, BK769, HO775, HB⟩ := z_; (try clear hb); (try clear hkp); (try clear ho0); obtain ⟨Ao14, co14, eo14⟩ := Kd.R_slice HO775.out; subst eo14; obtain ⟨n769_768, n768_769⟩ := an2_ NB769_768 NB768_769; have hcz16_0 := bc_ BK769.out 0; have hfz16_0 := blk_frozen BK769.out 0))
 refine bodyPost_ret (results_cell_row rfl _ _ gb769 42 #[.slice Ao14 t773.length co14] (0, 0) _ rfl tb_ Try.underlying42 rfl (by kernel_rfl)) rfl ?_
 exact ⟨_, tq_1, (by (with_reducible repeat (first | apply Kd.R_alloc | apply Kd.R_drewN | apply Kd.R_drew)); exact Kd.R_mono (rR_ (Kd.R_types HO775.out BK769.out (by decide))) (fun _ hk => trivial)), th_⟩

/-! ### slices_Insert_Item: function 56 -/
set_option maxHeartbeats 8000000 in
set_option maxRecDepth 100000 in
theorem ins56_end (P0_ : Nat → Prop) (u9000_ : Value) (l0 : List S44) (P2_ : Nat → Prop) (vb vc : Nat) (y : S44) (w0 w : World) (hB : Below w0.heap.size w0 w) (ho0 : Kd.R k44 44 w w0.heap.size P0_ u9000_ l0) (ho2 : Kd.R k44 44 w w0.heap.size P2_ (.slice (some ⟨vb, 0, none⟩) 1 vc) [y]) (hbig : (l0.length + 1) * 40 ≤ 140737488355328) :
  Calls Try.prog 56 #[u9000_, .int .i64 l0.length, .slice (some ⟨vb, 0, none⟩) 1 vc] w fun e w' => ∃ v0_ : Value, e = .returned v0_ ∧ Kd.R k44 44 w' w0.heap.size (fun k_ => ((P0_ k_ ∨ P2_ k_) ∨ w.heap.size ≤ k_)) v0_ (l0 ++ [y]) ∧ Below w0.heap.size w0 w' ∧ Kept w w' (fun k_ => P0_ k_ ∨ P2_ k_) := by
 have HRy := Aside0.mk (Kd.R_reads' ho2).2.2
 have HO := Aside0.mk (Kd.R_mono (ok' := fun k_ => ((P0_ k_ ∨ P2_ k_) ∨ w.heap.size ≤ k_)) ho0 (fun k h => .inl (.inl h)))
 have HG := Aside0.mk ho0.1
 have HB := Aside0.mk hB
 have HL := Aside0.mk hbig
 rcases Flat.R_form0 ho0 with ⟨rfl, hn⟩ | ⟨g, c, rfl, hnc, hcm⟩
 ·obtain rfl := List.eq_nil_of_length_eq_zero hn
  clear ho0 ho2 hB hbig hn
  go_enter Try.func56, Try.ntmps56
  go_wp2_with ((with_reducible refine gate_builtin (b := .append) (xs := #[.tmp 23, .tmp 24]) rfl ?_); at_builtin; refine Kd.R_append_rows k44 (w0 := w0) w0.heap.size rfl (.tmp 23) (.tmp 24) 40 44 (.agg #[(.string ⟨#[]⟩), (.bool false), (.string ⟨#[]⟩)]) 40 rfl Try.underlying40 info44 rfl (by decide) (by omega) _ [] [y] _ _ _ _ (fun _ => False) rfl rfl HO.out HRy.out ?aM (fun _ h => h.elim) (fun k h => .inr h) HB.out HB.out.size HL.out ?_; (case aM => intro x cs h; have h := k44_open h; subst h; exact k44_mkM _ _ _ x); intro v1 w1 hR hB1 hg hat)
  go_ret
  exact ⟨_, rfl, hR, hB1, Kept.of_grown hg (Kept.refl _ _) (fun k hk => .inl (.inl (HG.out k hk)))⟩
 ·clear ho0 ho2 hB hbig
  go_enter Try.func56, Try.ntmps56
  go_wp2_with ((with_reducible refine gate_builtin (b := .append) (xs := #[.tmp 23, .tmp 24]) rfl ?_); at_builtin; refine Kd.R_append_rows k44 (w0 := w0) w0.heap.size rfl (.tmp 23) (.tmp 24) 40 44 (.agg #[(.string ⟨#[]⟩), (.bool false), (.string ⟨#[]⟩)]) 40 rfl Try.underlying40 info44 rfl (by decide) (by omega) _ l0 [y] _ _ _ _ (fun _ => False) rfl rfl HO.out HRy.out ?aM (fun _ h => h.elim) (fun k h => .inr h) HB.out HB.out.size HL.out ?_; (case aM => intro x cs h; have h := k44_open h; subst h; exact k44_mkM _ _ _ x); intro v1 w1 hR hB1 hg hat)
  all_goals (go_ret; exact ⟨_, rfl, hR, hB1, Kept.of_grown hg (Kept.refl _ _) (fun k hk => .inl (.inl (HG.out k hk)))⟩)
set_option maxHeartbeats 8000000 in
set_option maxRecDepth 100000 in
theorem ins56_room (g c i vb vc n : Nat) (l0 : List S44) (y : S44) (w0 w : World) (P0_ P2_ : Nat → Prop) (hn : l0.length = n) (hi : i < n) (hroom : n + 1 ≤ c) (hvb : vb ≠ g) (hB : Below w0.heap.size w0 w) (ho0 : Kd.R k44 44 w w0.heap.size P0_ (.slice (some ⟨g, 0, none⟩) n c) l0) (ho2 : Kd.R k44 44 w w0.heap.size P2_ (.slice (some ⟨vb, 0, none⟩) 1 vc) [y]) :
  Calls Try.prog 56 #[.slice (some ⟨g, 0, none⟩) n c, .int .i64 i, .slice (some ⟨vb, 0, none⟩) 1 vc] w fun e w' => ∃ v0_ : Value, e = .returned v0_ ∧ Kd.R k44 44 w' w0.heap.size (fun k_ => ((P0_ k_ ∨ P2_ k_) ∨ w.heap.size ≤ k_)) v0_ (l0.take i ++ [y] ++ l0.drop i) ∧ Below w0.heap.size w0 w' ∧ Kept w w' (fun k_ => P0_ k_ ∨ P2_ k_) := by
 obtain ⟨hbg, hok, _, hnc, hcm, cur, hh, hcs, ht⟩ := Flat.R_open flat44 ho0
 obtain ⟨hbv, _, _, hvc, hvcm, vcur, hvh, hvcs, hvt⟩ := Flat.R_open flat44 ho2
 change cur.size = c * 3 at hcs
 change vcur.size = vc * 3 at hvcs
 change cur.toList.take (n * 3) = _ at ht
 change vcur.toList.take (1 * 3) = enc44 y ++ [] at hvt
 rw [List.append_nil] at hvt
 have hc63 : c ≤ 9223372036854775807 := by simp only [maxLen] at hcm; omega
 have mixed : Try.prog.follows .mixedOrders = true := by kernel_rfl
 have hsz : (Try.prog.info? 44).map (·.size) = some 3 := by
  obtain ⟨i0, hi0, h0, h1, h2⟩ := info_parts info44
  rw [hi0]; simp [h1]
 have hYl : (enc44 y).length = 3 := rfl
 have hDl : ((l0.drop i).flatMap enc44).length = (n - i) * 3 := by rw [Flat.flat_len flat44.len, List.length_drop, hn]; rfl
 have hDe := Flat.flat_drop (enc := enc44) (sz := 3) flat44.len l0 i (by omega)
 have hone : ∀ (xs : List S44), ∀ v ∈ xs.flatMap enc44, v.oneCell' = true := fun xs v hv => by
  obtain ⟨x, _, hx⟩ := List.mem_flatMap.1 hv
  exact flat44.one x v hx
 have hcell : ∀ (W : World), W.heap[g]? = some (.cells cur 44 (0, 0)) → ∀ j v, ((l0.drop i).flatMap enc44)[j]? = some v → W.cell? ((⟨g, i * 3, none⟩ : Addr).add j) = some v := fun W hW j v hj => by
  rw [Addr.add_lit, blk_cell hW, ← Array.getElem?_toList]
  rw [hDe, ← ht, List.getElem?_drop, List.getElem?_take] at hj
  split at hj
  ·exact hj
  ·cases hj
 have hsome : ∀ j, j < c * 3 → (w.cell? ⟨g, j, none⟩).isSome = true := fun j hj => by
  rw [blk_cell hh]; simp; omega
 have hfz : ∀ j, w.frozen? ⟨g, j, none⟩ = false := fun j => blk_frozen hh j
 have hvcell : ∀ (W : World), W.heap[vb]? = some (.cells vcur 44 (0, 0)) → ∀ j v, (enc44 y)[j]? = some v → W.cell? ((⟨vb, 0, none⟩ : Addr).add j) = some v := fun W hW j v hj => by
  rw [Addr.add_lit, Nat.zero_add, blk_cell hW, ← Array.getElem?_toList]
  rw [← hvt, List.getElem?_take] at hj
  split at hj
  ·exact hj
  ·cases hj
 have hov : ∀ lb cb, (callFunc 86 #[.slice (some ⟨vb, 0, none⟩) 1 vc, .slice (some ⟨g, (i + 1) * 3, none⟩) lb cb]).run Try.prog w = .ok (.value (.bool false)) w := fun lb cb => by
  rw [run_callFunc_extern Try.func86 (by kernel_rfl) (by kernel_rfl) (by kernel_rfl) (e := Extern.SlicesOverlaps.overlaps #[40, 40] #[4]) (by kernel_rfl),
   Lib.run_overlaps_apart w 40 4 44 Try.underlying40 3 Try.sizeOf44 ⟨vb, 0, none⟩ ⟨g, (i + 1) * 3, none⟩ 1 vc lb cb hvb 44 44 vcur.size cur.size (by simp [World.shape?, hvh]) (by simp [World.shape?, hh]) (by omega) (blk_frozen hvh _) (blk_frozen hvh _)]
  rfl
 have hz1 : ¬ ((1 : Int) = 0) := by omega
 have hz2 : ¬ ((i : Int) = (n : Int)) := by omega
 have hw1 : IntKind.i64.wrap ((i : Int) + (1 : Int)) = (i : Int) + (1 : Int) := by rw [IntKind.wrap_i64]; omega
 have hw2 : IntKind.i64.wrap ((n : Int) + (1 : Int)) = (n : Int) + (1 : Int) := by rw [IntKind.wrap_i64]; omega
 have hb1 : (0 : Int) ≤ (i : Int) + (1 : Int) := by omega
 have hin : i ≤ n := by omega
 have htn : ((i : Int) + (1 : Int)).toNat = i + 1 := by omega
 have hb2 : ¬ (c = i + 1) := by omega
 have hb3 : (i : Int) ≤ (n : Int) + (1 : Int) := by omega
 have hb4 : ¬ (c = i) := by omega
 have hcp1 : ∀ ty dc sc, (Builtin.copy_ #[40, 40] ty #[.slice (some ⟨g, (i + 1) * 3, none⟩) (n - i) dc, .slice (some ⟨g, i * 3, none⟩) (n + 1 - i) sc]).run Try.prog w.drew = .ok (goInt ((n - i : Nat) : Int)) (w.drew.setCells g ((i + 1) * 3) ((l0.drop i).flatMap enc44)) := fun ty dc sc =>
  Flat.run_copy_k w.drew 40 40 ty 44 g ((i + 1) * 3) (n - i) dc ⟨g, i * 3, none⟩ (n + 1 - i) sc 3 (n - i) _ Try.underlying40 hsz (by simp only [Nat.min_def]; split <;> omega) hDl
   (hcell w.drew hh) (fun j hj => hsome _ (by omega)) (fun j hj => hfz _) (hone _)
 obtain ⟨W1, hW1⟩ : ∃ W1, W1 = w.drew.setCells g ((i + 1) * 3) ((l0.drop i).flatMap enc44) := ⟨_, rfl⟩
 obtain ⟨cur1, h1, s1, _⟩ := setCells_row ((l0.drop i).flatMap enc44) ((i + 1) * 3) w.drew cur hh (by rw [hDl]; omega)
 rw [← hW1] at h1
 have hv1 : W1.heap[vb]? = some (.cells vcur 44 (0, 0)) := by rw [hW1, setCells_far _ _ _ hvb]; exact hvh
 have hcp2 : ∀ (W : World), (∀ x, W.cell? x = W1.cell? x) → (∀ x, W.frozen? x = W1.frozen? x) → ∀ ty dc, (Builtin.copy_ #[40, 40] ty #[.slice (some ⟨g, i * 3, none⟩) (n + 1 - i) dc, .slice (some ⟨vb, 0, none⟩) 1 vc]).run Try.prog W = .ok (goInt ((1 : Nat) : Int)) (W.setCells g (i * 3) (enc44 y)) := fun W hWc hWf ty dc =>
  Flat.run_copy_k W 40 40 ty 44 g (i * 3) (n + 1 - i) dc ⟨vb, 0, none⟩ 1 vc 3 1 _ Try.underlying40 hsz (by simp only [Nat.min_def]; split <;> omega) hYl
   (fun j v hj => by rw [hWc]; exact hvcell W1 hv1 j v hj) (fun j hj => by rw [hWc, blk_cell h1]; rw [hYl] at hj; simp; omega) (fun j hj => by rw [hWf]; exact blk_frozen h1 _) (flat44.one y)
 have HI := Aside0.mk (Flat.ins_room flat44 hn (W := w.drew) hh hcs ht i (by omega) hroom y)
 have HW := Aside0.mk hW1
 have HH := Aside0.mk (And.intro hB (And.intro hbg (And.intro hok (And.intro hcm hn))))
 rw [← hW1] at hcp1
 clear hh hvh ht hvt hcell hvcell hsome hfz ho0 ho2 hone hDe h1 hv1 hW1 hsz hB
 go_enter Try.func56, Try.ntmps56
 go_wp2_with (simp only [hov])
 go_region_law_o (refine step_copy_runI rfl _ _ 40 40 rfl _ _ (by simp [Act.eval, Act.put]) (by simp [Act.eval, Act.put]) (hcp1 _ _ _) ?_)
 go_wp2_with (at_builtin; refine wpList_copy_runI _ rfl _ _ 40 40 rfl _ _ rfl rfl (hcp2 _ (fun _ => rfl) (fun _ => rfl) _ _) ?_)
 go_ret
 obtain ⟨cur2, h2, s2, t2⟩ := HI.out
 obtain ⟨hB, hbg, hok, hcm, hn⟩ := HH.out
 rw [HW.out]
 refine ⟨_, rfl, Flat.R_shut flat44 hbg (.inl (.inl hok)) (by simp [List.length_take, List.length_drop]; omega) hroom hcm h2 s2 t2, ?_, ?_⟩
 ·exact Flat.below_cells (Flat.below_cells hB.drew hbg _ _) hbg _ _
 ·exact Flat.kept_cells (Flat.kept_cells (Kept.drew (Kept.refl _ _)) (.inl (.inl hok)) _ _) (.inl (.inl hok)) _ _
set_option maxHeartbeats 8000000 in
set_option maxRecDepth 100000 in
theorem ins56_grow (g c i vb vc n : Nat) (l0 : List S44) (y : S44) (w0 w : World) (P0_ P2_ : Nat → Prop) (hn : l0.length = n) (hi : i < n) (hroom : c < n + 1) (hbig : (n + 1) * 40 ≤ 140737488355328) (hB : Below w0.heap.size w0 w) (ho0 : Kd.R k44 44 w w0.heap.size P0_ (.slice (some ⟨g, 0, none⟩) n c) l0) (ho2 : Kd.R k44 44 w w0.heap.size P2_ (.slice (some ⟨vb, 0, none⟩) 1 vc) [y]) :
  Calls Try.prog 56 #[.slice (some ⟨g, 0, none⟩) n c, .int .i64 i, .slice (some ⟨vb, 0, none⟩) 1 vc] w fun e w' => ∃ v0_ : Value, e = .returned v0_ ∧ Kd.R k44 44 w' w0.heap.size (fun k_ => ((P0_ k_ ∨ P2_ k_) ∨ w.heap.size ≤ k_)) v0_ (l0.take i ++ [y] ++ l0.drop i) ∧ Below w0.heap.size w0 w' ∧ Kept w w' (fun k_ => P0_ k_ ∨ P2_ k_) := by
 obtain ⟨hbg, hok, _, hnc, hcm, cur, hh, hcs, ht⟩ := Flat.R_open flat44 ho0
 obtain ⟨hbv, _, _, hvc, hvcm, vcur, hvh, hvcs, hvt⟩ := Flat.R_open flat44 ho2
 change cur.size = c * 3 at hcs
 change vcur.size = vc * 3 at hvcs
 change cur.toList.take (n * 3) = _ at ht
 change vcur.toList.take (1 * 3) = enc44 y ++ [] at hvt
 rw [List.append_nil] at hvt
 have hc63 : c ≤ 9223372036854775807 := by simp only [maxLen] at hcm; omega
 have mixed : Try.prog.follows .mixedOrders = true := by kernel_rfl
 obtain ⟨i0, hi0, hz0, hzs, hzb⟩ := info_parts info44
 have hsz : (Try.prog.info? 44).map (·.size) = some 3 := by rw [hi0]; simp [hzs]
 have hYl : (enc44 y).length = 3 := rfl
 have hDl : ((l0.drop i).flatMap enc44).length = (n - i) * 3 := by rw [Flat.flat_len flat44.len, List.length_drop, hn]; rfl
 have hDe := Flat.flat_drop (enc := enc44) (sz := 3) flat44.len l0 i (by omega)
 have hTe := Flat.flat_take (enc := enc44) (sz := 3) flat44.len l0 i (by omega)
 have hTl : ((l0.take i).flatMap enc44).length = i * 3 := by rw [Flat.flat_len flat44.len, List.length_take, hn, Nat.min_eq_left (by omega)]; rfl
 have hone : ∀ (xs : List S44), ∀ v ∈ xs.flatMap enc44, v.oneCell' = true := fun xs v hv => by
  obtain ⟨x, _, hx⟩ := List.mem_flatMap.1 hv
  exact flat44.one x v hx
 have hcell : ∀ (W : World), W.heap[g]? = some (.cells cur 44 (0, 0)) → ∀ j v, ((l0.drop i).flatMap enc44)[j]? = some v → W.cell? ((⟨g, i * 3, none⟩ : Addr).add j) = some v := fun W hW j v hj => by
  rw [Addr.add_lit, blk_cell hW, ← Array.getElem?_toList]
  rw [hDe, ← ht, List.getElem?_drop, List.getElem?_take] at hj
  split at hj
  ·exact hj
  ·cases hj
 have hcellT : ∀ j v, ((l0.take i).flatMap enc44)[j]? = some v → w.cell? ((⟨g, 0, none⟩ : Addr).add j) = some v := fun j v hj => by
  rw [Addr.add_lit, Nat.zero_add, blk_cell hh, ← Array.getElem?_toList]
  rw [hTe, ← ht, List.getElem?_take] at hj
  split at hj
  ·rw [List.getElem?_take] at hj
   split at hj
   ·exact hj
   ·cases hj
  ·cases hj
 have hvcell : ∀ (W : World), W.heap[vb]? = some (.cells vcur 44 (0, 0)) → ∀ j v, (enc44 y)[j]? = some v → W.cell? ((⟨vb, 0, none⟩ : Addr).add j) = some v := fun W hW j v hj => by
  rw [Addr.add_lit, Nat.zero_add, blk_cell hW, ← Array.getElem?_toList]
  rw [← hvt, List.getElem?_take] at hj
  split at hj
  ·exact hj
  ·cases hj
 have hbw : g < w.heap.size := blk_lt hh
 have hvw : vb < w.heap.size := blk_lt hvh
 have hkk : (n : Int) + (1 : Int) - (i : Int) = ((n + 1 - i : Nat) : Int) := by omega
 have hik : i + (n + 1 - i) = n + 1 := by omega
 have hold : (Builtin.firstCells i0.size i (.slice (some ⟨g, 0, none⟩) i c)).run Try.prog w.drew = .ok ((l0.take i).flatMap enc44).toArray w.drew := by
  rw [hzs]
  exact run_firstCells_some w.drew 3 i ⟨g, 0, none⟩ i c _ hTl (fun j v hj => hcellT j v hj)
 have hrz : ∀ ty, (Builtin.append_ #[40, 3] ty #[.slice (some ⟨g, 0, none⟩) i c, .int .i64 ((n : Int) + (1 : Int) - (i : Int))]).run Try.prog w =
   .ok (.slice (some ⟨w.heap.size, 0, none⟩) (n + 1) (grownCap w (n + 1) c 44)) (w.drew.alloc (.cells (((l0.take i).flatMap enc44).toArray ++ Builtin.zeroCells ((.agg #[(.string ⟨#[]⟩), (.bool false), (.string ⟨#[]⟩)]) : Value).cells (n + 1 - i) ++ Builtin.zeroCells ((.agg #[(.string ⟨#[]⟩), (.bool false), (.string ⟨#[]⟩)]) : Value).cells (grownCap w (n + 1) c 44 - (n + 1))) 44)) := fun ty => by
  have h := Lib.run_append_grow_zeros w 40 3 ty 44 i0 _ .i64 .i64 Try.underlying40 Try.underlying3 hi0 hz0 (some ⟨g, 0, none⟩) i c _ hold (n + 1 - i) (by omega) (by omega) (by omega) (by omega) (by rw [hzb]; omega) (by rw [hzb, hik]; exact growslice_fits hroom hbig)
  rw [hik] at h
  rw [hkk]
  exact h
 obtain ⟨G, hG⟩ : ∃ G, G = grownCap w (n + 1) c 44 := ⟨_, rfl⟩
 obtain ⟨ROW, hROW⟩ : ∃ ROW : Array Value, ROW = ((l0.take i).flatMap enc44).toArray ++ Builtin.zeroCells ((.agg #[(.string ⟨#[]⟩), (.bool false), (.string ⟨#[]⟩)]) : Value).cells (n + 1 - i) ++ Builtin.zeroCells ((.agg #[(.string ⟨#[]⟩), (.bool false), (.string ⟨#[]⟩)]) : Value).cells (G - (n + 1)) := ⟨_, rfl⟩
 rw [← hG] at hrz
 rw [← hROW] at hrz
 have hGn : n + 1 ≤ G := by rw [hG]; exact grownCap_ge w _ _ _
 have hGm : G ≤ maxLen := by rw [hG]; exact grownCap_le_maxLen w (n + 1) c 44 (by unfold maxLen; omega)
 have hG63 : G ≤ 9223372036854775807 := by unfold maxLen at hGm; omega
 have hRs : ROW.size = G * 3 := by
  rw [hROW]
  simp [Builtin.zeroCells, Value.cells, hTl]
  omega
 have hRt : ROW.toList.take (i * 3) = (l0.take i).flatMap enc44 := by
  rw [hROW]
  simp only [Array.toList_append, List.append_assoc]
  rw [List.take_left' (by rw [← hTl])]
 obtain ⟨W1, hW1⟩ : ∃ W1, W1 = w.drew.alloc (.cells ROW 44) := ⟨_, rfl⟩
 rw [← hW1] at hrz
 have hN : W1.heap[w.heap.size]? = some (.cells ROW 44 (0, 0)) := by rw [hW1]; exact heap_alloc_new w.drew _
 have hOg : W1.heap[g]? = some (.cells cur 44 (0, 0)) := by rw [hW1]; exact blk_alloc (w := w.drew) hh _
 have hOv : W1.heap[vb]? = some (.cells vcur 44 (0, 0)) := by rw [hW1]; exact blk_alloc (w := w.drew) hvh _
 have hcpA : ∀ (W : World), (∀ x, W.cell? x = W1.cell? x) → (∀ x, W.frozen? x = W1.frozen? x) → ∀ ty dc, (Builtin.copy_ #[40, 40] ty #[.slice (some ⟨w.heap.size, i * 3, none⟩) (n + 1 - i) dc, .slice (some ⟨vb, 0, none⟩) 1 vc]).run Try.prog W = .ok (goInt ((1 : Nat) : Int)) (W.setCells w.heap.size (i * 3) (enc44 y)) := fun W hWc hWf ty dc =>
  Flat.run_copy_k W 40 40 ty 44 w.heap.size (i * 3) (n + 1 - i) dc ⟨vb, 0, none⟩ 1 vc 3 1 _ Try.underlying40 hsz (by simp only [Nat.min_def]; split <;> omega) hYl
   (fun j v hj => by rw [hWc]; exact hvcell W1 hOv j v hj) (fun j hj => by rw [hWc, blk_cell hN]; rw [hYl] at hj; simp; omega) (fun j hj => by rw [hWf]; exact blk_frozen hN _) (flat44.one y)
 obtain ⟨cur1, h1, s1, _⟩ := setCells_row (enc44 y) (i * 3) W1 ROW hN (by rw [hYl]; omega)
 have hbN : g ≠ w.heap.size := by omega
 have hO1 : (W1.setCells w.heap.size (i * 3) (enc44 y)).heap[g]? = some (.cells cur 44 (0, 0)) := by rw [setCells_far _ _ _ hbN]; exact hOg
 have hcpB : ∀ (W : World), (∀ x, W.cell? x = (W1.setCells w.heap.size (i * 3) (enc44 y)).cell? x) → (∀ x, W.frozen? x = (W1.setCells w.heap.size (i * 3) (enc44 y)).frozen? x) → ∀ ty dc sc, (Builtin.copy_ #[40, 40] ty #[.slice (some ⟨w.heap.size, (i + 1) * 3, none⟩) (n - i) dc, .slice (some ⟨g, i * 3, none⟩) (n - i) sc]).run Try.prog W = .ok (goInt ((n - i : Nat) : Int)) (W.setCells w.heap.size ((i + 1) * 3) ((l0.drop i).flatMap enc44)) := fun W hWc hWf ty dc sc =>
  Flat.run_copy_k W 40 40 ty 44 w.heap.size ((i + 1) * 3) (n - i) dc ⟨g, i * 3, none⟩ (n - i) sc 3 (n - i) _ Try.underlying40 hsz (by simp only [Nat.min_def]; split <;> omega) hDl
   (fun j v hj => by rw [hWc]; exact hcell _ hO1 j v hj) (fun j hj => by rw [hWc, blk_cell h1]; rw [hDl] at hj; simp; omega) (fun j hj => by rw [hWf]; exact blk_frozen h1 _) (hone _)
 have HI := Aside0.mk (Flat.ins_grow flat44 hn (W := W1) hN hRs i (by omega) hRt hGn y)
 have hGi : ¬ (G = i) := by omega
 have hGim : ¬ (G = i + 1) := by omega
 have hci : ¬ (c = i) := by omega
 subst hW1
 have hE1 : ∀ x, ((w.alloc (.cells ROW 44)).drew).cell? x = (w.drew.alloc (.cells ROW 44)).cell? x := fun x => rfl
 have hE2 : ∀ x, ((w.alloc (.cells ROW 44)).drew).frozen? x = (w.drew.alloc (.cells ROW 44)).frozen? x := fun x => rfl
 have hF1 : ∀ x, (((w.alloc (.cells ROW 44)).drew.setCells w.heap.size (i * 3) (enc44 y)).drew).cell? x = ((w.drew.alloc (.cells ROW 44)).setCells w.heap.size (i * 3) (enc44 y)).cell? x := fun x => rfl
 have hF2 : ∀ x, (((w.alloc (.cells ROW 44)).drew.setCells w.heap.size (i * 3) (enc44 y)).drew).frozen? x = ((w.drew.alloc (.cells ROW 44)).setCells w.heap.size (i * 3) (enc44 y)).frozen? x := fun x => rfl
 have hz1 : ¬ ((1 : Int) = 0) := by omega
 have hz2 : ¬ ((i : Int) = (n : Int)) := by omega
 have hz3 : (c : Int) < (n : Int) + (1 : Int) := by omega
 have hw1 : IntKind.i64.wrap ((i : Int) + (1 : Int)) = (i : Int) + (1 : Int) := by rw [IntKind.wrap_i64]; omega
 have hw2 : IntKind.i64.wrap ((n : Int) + (1 : Int)) = (n : Int) + (1 : Int) := by rw [IntKind.wrap_i64]; omega
 have hb1 : (0 : Int) ≤ (i : Int) + (1 : Int) := by omega
 have hin : i ≤ n := by omega
 have htn : ((i : Int) + (1 : Int)).toNat = i + 1 := by omega
 have hb3 : (i : Int) ≤ (n : Int) := by omega
 have HH := Aside0.mk (And.intro hB (And.intro hGm hn))
 clear hkk hik hold hROW hG hRt hRs hN hOg hOv h1 hO1 s1 hcell hcellT hvcell hone hDe hTe hTl hh hvh ht hvt hsz ho0 ho2 hB
 go_enter Try.func56, Try.ntmps56
 go_wp2_with (first
  | (at_builtin; refine Lib.wpList_append_run _ rfl _ _ _ _ rfl _ _ rfl rfl _ _ (hrz _) ?_)
  | (at_builtin; refine wpList_copy_runI _ rfl _ _ 40 40 rfl _ _ rfl rfl (hcpA _ hE1 hE2 _ _) ?_)
  | (at_builtin; refine wpList_copy_runI _ rfl _ _ 40 40 rfl _ _ rfl rfl (hcpB _ (fun _ => rfl) (fun _ => rfl) _ _ _) ?_))
 go_region_law_o (refine step_copy_runI rfl _ _ 40 40 rfl (.slice (some ⟨w.heap.size, (i + 1) * 3, none⟩) (n - i) (G - (i + 1))) (.slice (some ⟨g, i * 3, none⟩) (n - i) (c - i)) (by simp [Act.eval, Act.put]) (by simp [Act.eval, Act.put]) (hcpB _ hF1 hF2 3 (G - (i + 1)) (c - i)) ?_)
 go_wp2
 go_ret
 obtain ⟨cur2, h2, s2, t2⟩ := HI.out
 obtain ⟨hB, hGm, hn⟩ := HH.out
 have hE : ((w.alloc (.cells ROW 44)).drew.setCells w.heap.size (i * 3) (enc44 y)).drew.setCells w.heap.size ((i + 1) * 3) ((l0.drop i).flatMap enc44) = (((w.drew.alloc (.cells ROW 44)).setCells w.heap.size (i * 3) (enc44 y)).setCells w.heap.size ((i + 1) * 3) ((l0.drop i).flatMap enc44)).drew := (drew_setCells _ _ _ _).symm
 rw [hE]
 refine ⟨_, rfl, Kd.R_drew (Flat.R_shut flat44 hB.size (.inr (Nat.le_refl _)) (by simp [List.length_take, List.length_drop]; omega) (by omega) hGm h2 s2 t2), ?_, ?_⟩
 ·exact (Flat.below_cells (Flat.below_cells (hB.drew.alloc hB.size _) hB.size _ _) hB.size _ _).drew
 ·exact Kept.drew (Flat.kept_cells (Flat.kept_cells (Kept.alloc (Kept.drew (Kept.refl _ _)) _) (.inr (Nat.le_refl _)) _ _) (.inr (Nat.le_refl _)) _ _)
theorem ins56 (P0_ : Nat → Prop) (u9000_ : Value) (l0 : List S44) (i : Nat) (P2_ : Nat → Prop) (u9001_ : Value) (y : S44) (w0 w : World) (hB : Below w0.heap.size w0 w) (ho0 : Kd.R k44 44 w w0.heap.size P0_ u9000_ l0) (hp0_2 : ∀ k_, P0_ k_ → ¬ P2_ k_) (ho2 : Kd.R k44 44 w w0.heap.size P2_ u9001_ [y]) (hi : i ≤ l0.length) (hbig : (l0.length + 1) * 40 ≤ 140737488355328) :
  Calls Try.prog 56 #[u9000_, .int .i64 i, u9001_] w fun e w' => ∃ v0_ : Value, e = .returned v0_ ∧ Kd.R k44 44 w' w0.heap.size (fun k_ => ((P0_ k_ ∨ P2_ k_) ∨ w.heap.size ≤ k_)) v0_ (l0.take i ++ [y] ++ l0.drop i) ∧ Below w0.heap.size w0 w' ∧ Kept w w' (fun k_ => P0_ k_ ∨ P2_ k_) := by
 obtain ⟨vb, vc, hv, _, _, _⟩ := Kd.R_form ho2 (by simp)
 have hv2 : u9001_ = .slice (some ⟨vb, 0, none⟩) 1 vc := hv
 subst hv2
 by_cases hin : i = l0.length
 ·subst hin
  rw [List.take_length, List.drop_length, List.append_nil]
  exact ins56_end P0_ u9000_ l0 P2_ vb vc y w0 w hB ho0 ho2 hbig
 rcases Flat.R_form0 ho0 with ⟨_, hn⟩ | ⟨g, c, rfl, hnc, hcm⟩
 ·omega
 by_cases hroom : l0.length + 1 ≤ c
 ·exact ins56_room g c i vb vc l0.length l0 y w0 w P0_ P2_ rfl (by omega) hroom (fun e => hp0_2 g (ho0.1 g rfl) (e ▸ ho2.1 vb rfl)) hB ho0 ho2
 ·exact ins56_grow g c i vb vc l0.length l0 y w0 w P0_ P2_ rfl (by omega) (by omega) hbig hB ho0 ho2
def slices_Insert_Item.f (l0 : List S44) (a1 : Int) (l2 : List S44) : Option (List S44) := if (0 ≤ a1 ∧ a1 ≤ (l0.length : Int)) ∧ l2.length = 1 ∧ (l0.length + 1) * 40 ≤ 140737488355328 then some (l0.take a1.toNat ++ l2 ++ l0.drop a1.toNat) else none
theorem slices_Insert_Item.calls (P0_ : Nat → Prop) (u9000_ : Value) (l0 : List S44) (a1 : Int) (P2_ : Nat → Prop) (u9001_ : Value) (l2 : List S44) (r : List S44) (w0 w : World) (hB : Below w0.heap.size w0 w) (ho0 : Kd.R k44 44 w w0.heap.size P0_ u9000_ l0) (hp0_2 : ∀ k_, P0_ k_ → ¬ P2_ k_) (ho2 : Kd.R k44 44 w w0.heap.size P2_ u9001_ l2) (hp2_0 : ∀ k_, P2_ k_ → ¬ P0_ k_) (h : slices_Insert_Item.f l0 a1 l2 = some r) :
  Calls Try.prog 56 #[u9000_, .int .i64 a1, u9001_] w fun e w' => ∃ v0_ : Value, e = .returned v0_ ∧ Kd.R k44 44 w' w0.heap.size (fun k_ => ((P0_ k_ ∨ P2_ k_) ∨ w.heap.size ≤ k_)) v0_ r ∧ Below w0.heap.size w0 w' ∧ Kept w w' (fun k_ => P0_ k_ ∨ P2_ k_) := by
 unfold slices_Insert_Item.f at h
 split at h
 case isFalse => cases h
 case isTrue hc =>
 obtain ⟨⟨h0, h1⟩, h2, h3⟩ := hc
 obtain rfl := Option.some.inj h
 obtain ⟨y, rfl⟩ := List.length_eq_one_iff.1 h2
 obtain ⟨c, rfl⟩ := Int.eq_ofNat_of_zero_le h0
 exact ins56 P0_ u9000_ l0 c P2_ u9001_ y w0 w hB ho0 hp0_2 ho2 (by omega) h3

end Go.Proofs.Ytljnnmpfeningaa.PFnViews
