/- Contracts of Go functions, written by a program of ours over the print of the kit: each says that the call returns what the Lean function beside it computes. Conditions: as each theorem states them. -/
import Derived.Test.YtcdnfkoahajhhaaPkFnExactWithEntry
import Derived.Test.YtcdnfkoahajhhaaPFnExactWithEntryx0
import Derived.Test.YtcdnfkoahajhhaaPFnExactWithEntryx4
namespace Go.Proofs.Ytcdnfkoahajhhaa.PFnExactWithEntry
open Go.RowKit Go.Proofs.YtcdnfkoahajhhaaW.PrintWords Go.Proofs.YtcdnfkoahajhhaaW.PrintLast Go.Proofs.YtcdnfkoahajhhaaW.PrintMore
attribute [local go_sem] max2_int min2_int max_two min_two max_three min_three max_four min_four   -- for this text's walks alone
set_option linter.unusedVariables false
set_option linter.unusedSimpArgs false

/-! ### spec_WithEntry: function 34 -/
mutual
def spec_WithEntry.l0 : Nat → Bool → Int → Int → Int → Int → ByteArray → List (S170) → List (S59) → Int → ByteArray → Int → Int → Int → ByteArray → List (S170) → List (S59) → Option (Int × Int × Int × ByteArray × (List (S170)) × (List (S59)))
 | 0, _, _, _, _, _, _, _, _, _, _, _, _, _, _, _, _ => none
 | k + 1, x6, x7, x194000, x194001, x194002, x194003, x194004, x194005, x195000, x195001, x207000, x207001, x207002, x207003, x207004, x207005 => if x7 < (x194005.length : Int) then (if x6 = true then (spec_WithEntry.j1 k x6 x7 false x194000 x194001 x194002 x194003 x194004 x194005 x195000 x195001 x207000 x207001 x207002 x207003 x207004 x207005) else (if 0 ≤ x7 then (spec_WithEntry.j1 k x6 x7 (Op.bytesLess x195001.toList (((rd_T59 x194005 x7).f1).toList)) x194000 x194001 x194002 x194003 x194004 x194005 x195000 x195001 x207000 x207001 x207002 x207003 x207004 x207005) else (none))) else (if x6 = true then (some (x207000, x207001, x207002, x207003, x207004, x207005)) else (if x207005.length < 5864062014805 then (some (x207000, x207001, x207002, x207003, x207004, (x207005 ++ [(⟨x195000, x195001⟩ : S59)]))) else (none)))
def spec_WithEntry.j1 : Nat → Bool → Int → Bool → Int → Int → Int → ByteArray → List (S170) → List (S59) → Int → ByteArray → Int → Int → Int → ByteArray → List (S170) → List (S59) → Option (Int × Int × Int × ByteArray × (List (S170)) × (List (S59)))
 | 0, _, _, _, _, _, _, _, _, _, _, _, _, _, _, _, _, _ => none
 | k + 1, x6, x7, x31, x194000, x194001, x194002, x194003, x194004, x194005, x195000, x195001, x207000, x207001, x207002, x207003, x207004, x207005 => if x31 = true then (if x207005.length < 5864062014805 then ((some (x207005 ++ [(⟨x195000, x195001⟩ : S59)] : List (S59))).bind fun y214 => (if 0 ≤ x7 then (if x7 < (x194005.length : Int) then (if ((rd_T59 x194005 x7).f1).toList = x195001.toList then (spec_WithEntry.l0 k true (wrap64 (x7 + 1)) x194000 x194001 x194002 x194003 x194004 x194005 x195000 x195001 x207000 x207001 x207002 x207003 x207004 y214) else (if y214.length < 5864062014805 then (spec_WithEntry.l0 k true (wrap64 (x7 + 1)) x194000 x194001 x194002 x194003 x194004 x194005 x195000 x195001 x207000 x207001 x207002 x207003 x207004 (y214 ++ [(⟨(rd_T59 x194005 x7).f0, (rd_T59 x194005 x7).f1⟩ : S59)])) else (none))) else (none)) else (none))) else (none)) else (if 0 ≤ x7 then (if x7 < (x194005.length : Int) then (if ((rd_T59 x194005 x7).f1).toList = x195001.toList then (spec_WithEntry.l0 k x6 (wrap64 (x7 + 1)) x194000 x194001 x194002 x194003 x194004 x194005 x195000 x195001 x207000 x207001 x207002 x207003 x207004 x207005) else (if x207005.length < 5864062014805 then (spec_WithEntry.l0 k x6 (wrap64 (x7 + 1)) x194000 x194001 x194002 x194003 x194004 x194005 x195000 x195001 x207000 x207001 x207002 x207003 x207004 (x207005 ++ [(⟨(rd_T59 x194005 x7).f0, (rd_T59 x194005 x7).f1⟩ : S59)])) else (none))) else (none)) else (none))
end
def spec_WithEntry.f (k : Nat) (a0_0 : Int) (a0_1 : Int) (a0_2 : Int) (a0_3 : ByteArray) (l0_4 : List (S170)) (l0_5 : List (S59)) (a1_0 : Int) (a1_1 : ByteArray) : Option (Int × Int × Int × ByteArray × (List (S170)) × (List (S59))) := (spec_l12Copy.f a0_0 a0_1 a0_2 a0_3 l0_4 l0_5).bind fun bt196 => (spec_WithEntry.l0 k false 0 a0_0 a0_1 a0_2 a0_3 l0_4 l0_5 a1_0 a1_1 bt196.1 bt196.2.1 bt196.2.2.1 bt196.2.2.2.1 bt196.2.2.2.2.1 (([] : List (S59))))
theorem spec_WithEntry.mono_l : ∀ k, (∀ y0 y1 y2 y3 y4 y5 y6 y7 y8 y9 y10 y11 y12 y13 y14 y15, LeO (spec_WithEntry.l0 k y0 y1 y2 y3 y4 y5 y6 y7 y8 y9 y10 y11 y12 y13 y14 y15) (spec_WithEntry.l0 (k + 1) y0 y1 y2 y3 y4 y5 y6 y7 y8 y9 y10 y11 y12 y13 y14 y15)) ∧ (∀ y0 y1 y2 y3 y4 y5 y6 y7 y8 y9 y10 y11 y12 y13 y14 y15 y16, LeO (spec_WithEntry.j1 k y0 y1 y2 y3 y4 y5 y6 y7 y8 y9 y10 y11 y12 y13 y14 y15 y16) (spec_WithEntry.j1 (k + 1) y0 y1 y2 y3 y4 y5 y6 y7 y8 y9 y10 y11 y12 y13 y14 y15 y16))
 | 0 => ⟨fun _ _ _ _ _ _ _ _ _ _ _ _ _ _ _ _ r h => by simp [spec_WithEntry.l0] at h, fun _ _ _ _ _ _ _ _ _ _ _ _ _ _ _ _ _ r h => by simp [spec_WithEntry.j1] at h⟩
 | k + 1 => by
  obtain ⟨ih0, ih1⟩ := spec_WithEntry.mono_l k
  refine ⟨?_, ?_⟩
  ·intro y0 y1 y2 y3 y4 y5 y6 y7 y8 y9 y10 y11 y12 y13 y14 y15
   unfold spec_WithEntry.l0
   repeat' first
   | (with_reducible exact ih0 ..)
   | (with_reducible exact ih1 ..)
   | (with_reducible exact LeO.refl _)
   | (with_reducible exact LeO.none _)
   | (with_reducible refine LeO.ite ?_ ?_)
   | (with_reducible refine LeO.bind ?_ (fun _ => ?_))
   | exact ih0 ..
   | exact ih1 ..
   | exact LeO.none _
   | refine LeO.ite ?_ ?_
   | refine LeO.bind ?_ (fun _ => ?_)
  ·intro y0 y1 y2 y3 y4 y5 y6 y7 y8 y9 y10 y11 y12 y13 y14 y15 y16
   unfold spec_WithEntry.j1
   repeat' first
   | (with_reducible exact ih0 ..)
   | (with_reducible exact ih1 ..)
   | (with_reducible exact LeO.refl _)
   | (with_reducible exact LeO.none _)
   | (with_reducible refine LeO.ite ?_ ?_)
   | (with_reducible refine LeO.bind ?_ (fun _ => ?_))
   | exact ih0 ..
   | exact ih1 ..
   | exact LeO.none _
   | refine LeO.ite ?_ ?_
   | refine LeO.bind ?_ (fun _ => ?_)
theorem spec_WithEntry.mono : ∀ a0 a1 a2 a3 a4 a5 a6 a7 k, LeO (spec_WithEntry.f k a0 a1 a2 a3 a4 a5 a6 a7) (spec_WithEntry.f (k + 1) a0 a1 a2 a3 a4 a5 a6 a7) := by
 intro a0 a1 a2 a3 a4 a5 a6 a7 k
 obtain ⟨ih0, ih1⟩ := spec_WithEntry.mono_l k
 unfold spec_WithEntry.f
 repeat' first
   | (with_reducible exact ih0 ..)
   | (with_reducible exact ih1 ..)
   | (with_reducible exact LeO.refl _)
   | (with_reducible exact LeO.none _)
   | (with_reducible refine LeO.ite ?_ ?_)
   | (with_reducible refine LeO.bind ?_ (fun _ => ?_))
   | exact ih0 ..
   | exact ih1 ..
   | exact LeO.none _
   | refine LeO.ite ?_ ?_
   | refine LeO.bind ?_ (fun _ => ?_)
def spec_WithEntry.T7 : Bool × List (List Nat × List Nat) := (true, [([], []), ([0], [0]), ([1], [1]), ([2], [2]), ([3, 2], [2, 3]), ([2], [2]), ([4, 5, 2], [2, 4, 5]), ([6, 2], [2, 6]), ([7, 2], [2, 7]), ([2], [2]), ([9, 2], [2, 9]), ([8, 10, 2], [2, 8, 10]), ([2, 11], [2, 11])])
def spec_WithEntry.B7 : List Nat := [0, 1, 3, 7, 15, 7, 63, 127, 255, 7, 519, 2047, 4095]
theorem spec_WithEntry.tab7 : rtab .any (opsOf Try.f34 7) = spec_WithEntry.T7 := by kernel_rfl
theorem spec_WithEntry.bits7 : waitsOk spec_WithEntry.T7.2 spec_WithEntry.B7 = true := by kernel_rfl
def spec_WithEntry.T10 : Bool × List (List Nat × List Nat) := (true, [([], []), ([0], [0]), ([], []), ([1, 2], [1, 2]), ([3], [3]), ([4], [4]), ([], []), ([6], [6]), ([5, 7], [5, 7])])
def spec_WithEntry.B10 : List Nat := [0, 1, 0, 7, 15, 31, 0, 64, 255]
theorem spec_WithEntry.tab10 : rtab .any (opsOf Try.f34 10) = spec_WithEntry.T10 := by kernel_rfl
theorem spec_WithEntry.bits10 : waitsOk spec_WithEntry.T10.2 spec_WithEntry.B10 = true := by kernel_rfl
def spec_WithEntry.T11 : Bool × List (List Nat × List Nat) := (true, [([], []), ([0], [0]), ([], []), ([2], [2]), ([], []), ([3, 4], [3, 4]), ([5], [5]), ([6], [6]), ([1, 7], [1, 7]), ([0, 1, 2, 3, 4, 5, 6, 7, 8], []), ([9, 8, 8, 0, 1, 2, 3, 4, 5, 6, 7, 8], [8, 9])])
def spec_WithEntry.B11 : List Nat := [0, 1, 0, 4, 0, 28, 60, 124, 255, 511, 1023]
theorem spec_WithEntry.tab11 : rtab .any (opsOf Try.f34 11) = spec_WithEntry.T11 := by kernel_rfl
theorem spec_WithEntry.bits11 : waitsOk spec_WithEntry.T11.2 spec_WithEntry.B11 = true := by kernel_rfl
set_option maxHeartbeats 8000000 in
set_option maxRecDepth 100000 in
theorem spec_WithEntry.calls (k : Nat) (a0_0 : Int) (a0_1 : Int) (a0_2 : Int) (a0_3 : ByteArray) (A0_4 : Option Addr) (c0_4 : Nat) (l0_4 : List (S170)) (A0_5 : Option Addr) (c0_5 : Nat) (l0_5 : List (S59)) (a1_0 : Int) (a1_1 : ByteArray) (r1 : Int) (r2 : Int) (r3 : Int) (r4 : ByteArray) (r5 : List (S170)) (r6 : List (S59)) (w : World) (hr0_4 : Kd.C k170 w A0_4 l0_4.length l0_4) (hc0_4 : l0_4.length ≤ c0_4) (hr0_5 : Kd.C k59 w A0_5 l0_5.length l0_5) (hc0_5 : l0_5.length ≤ c0_5) (h : spec_WithEntry.f k a0_0 a0_1 a0_2 a0_3 l0_4 l0_5 a1_0 a1_1 = some (r1, r2, r3, r4, r5, r6)) :
  Calls Try.prog 34 #[.agg #[.int .i64 a0_0, .int .i64 a0_1, .int .i64 a0_2, .string a0_3, .slice A0_4 l0_4.length c0_4, .slice A0_5 l0_5.length c0_5], .agg #[.int .i64 a1_0, .string a1_1]] w fun e w' => ∃ v4_ v5_ : Value, e = .returned (.agg #[.int .i64 r1, .int .i64 r2, .int .i64 r3, .string r4, v4_, v5_]) ∧ Kd.R k170 170 w' w.heap.size (fun _ => True) v4_ r5 ∧ Kd.R k59 59 w' w.heap.size (fun _ => True) v5_ r6 ∧ Below w.heap.size w w' := by
 have hu49 := Try.underlying49
 have hu59 := Try.underlying59
 have HR0_4 := Aside0.mk hr0_4
 have HC0_4 := Aside0.mk hc0_4
 clear hr0_4 hc0_4
 have HR0_5 := Aside0.mk hr0_5
 have HC0_5 := Aside0.mk hc0_5
 clear hr0_5 hc0_5
 have HB := Aside0.mk (Below.refl w.heap.size w)
 have H : ((spec_l12Copy.f a0_0 a0_1 a0_2 a0_3 l0_4 l0_5).bind fun bt196 => (spec_WithEntry.l0 k false 0 a0_0 a0_1 a0_2 a0_3 l0_4 l0_5 a1_0 a1_1 bt196.1 bt196.2.1 bt196.2.2.1 bt196.2.2.2.1 bt196.2.2.2.2.1 (([] : List (S59))))) = some (r1, r2, r3, r4, r5, r6) := h
 clear h
 replace H := Option.bind_eq_some_iff.mp H
 obtain ⟨⟨t196, t197, t198, t199, t200, t203⟩, A30, H⟩ := H
 replace H : (spec_WithEntry.l0 k false 0 a0_0 a0_1 a0_2 a0_3 l0_4 l0_5 a1_0 a1_1 t196 t197 t198 t199 t200 (([] : List (S59)))) = some (r1, r2, r3, r4, r5, r6) := H
 have A3 := Aside0.mk A30
 clear A30
 obtain ⟨y207, hy207⟩ : ∃ y_ : List (S59), y_ = (([] : List (S59))) := ⟨_, rfl⟩
 replace H : (spec_WithEntry.l0 k false 0 a0_0 a0_1 a0_2 a0_3 l0_4 l0_5 a1_0 a1_1 t196 t197 t198 t199 t200 y207) = some (r1, r2, r3, r4, r5, r6) := by first | (rw [hy207]; with_reducible exact H) | (have H2_ := (Option.bind_some _ _).symm.trans H; rw [hy207]; with_reducible exact H2_) | (have H2_ := (Option.bind_some _ _).symm.trans H; with_reducible exact H2_) | with_reducible exact H | (rw [hy207]; exact H) | exact H
 have Ny207 := Aside0.mk hy207
 clear hy207
 have H' := Aside0.mk H
 clear H
 go_enter Try.func34, Try.ntmps34
 go_wp2_with (first | ((with_reducible refine gate_dst (N := 2) rfl ?_); refine box_event ?hg (N := 2) ?hd (cs := #[.int .i64 a0_0, .int .i64 a0_1, .int .i64 a0_2, .string a0_3, .slice A0_4 l0_4.length c0_4, .slice A0_5 l0_5.length c0_5]) (t := 49) ?hr ?_; (case hd => rfl); (case hg => rfl); (case hr => first | (go_simp; done) | (go_simp; rfl)); intro gb193 hg w4 hbox hb; have z_ := p_ (below_step tq_0 hb) <| p_ (hbox) <| p_ (gb_ hg tq_0) <| a_ (gb_ hg tq_0); clear HB; obtain ⟨HB, BK193, GW193, GE193⟩ := z_; clear hb hbox hg) | ((with_reducible refine gate_dst (N := 3) rfl ?_); refine box_event ?hg (N := 3) ?hd (cs := #[.int .i64 a1_0, .string a1_1]) (t := 59) ?hr ?_; (case hd => rfl); (case hg => rfl); (case hr => first | (go_simp; done) | (go_simp; rfl)); intro gb194 hg w5 hbox hb; have z_ := p_ (blk_below tq_32 hb) <| p_ (below_step tq_132 hb) <| p_ (hbox) <| p_ (gb_ hg tq_132) <| p_ (gb_ hg tq_132) <| p_ (ltne_ hg (blk_lt tq_32)) <| a_ (gtne_ hg (blk_lt tq_32)); clear BK193 HB; obtain ⟨BK193, HB, BK194, GW194, GE194, NB193_194, NB194_193⟩ := z_; clear hb hbox hg) | ((with_reducible refine gate_dst (N := 4) rfl ?_); refine box_event ?hg (N := 4) ?hd (cs := #[.int .i64 0, .int .i64 0, .int .i64 0, .string (⟨#[]⟩ : ByteArray), .slice none 0 0, .slice none 0 0]) (t := 49) ?hr ?_; (case hd => rfl); (case hg => rfl); (case hr => first | (go_simp; done) | (go_simp; rfl)); intro gb195 hg w6 hbox hb; have z_ := p_ (blk_below tq_32 hb) <| p_ (blk_below tq_30 hb) <| p_ (below_step tq_122 hb) <| p_ (hbox) <| p_ (gb_ hg tq_122) <| p_ (gb_ hg tq_122) <| p_ (ltne_ hg (blk_lt tq_32)) <| p_ (gtne_ hg (blk_lt tq_32)) <| p_ (ltne_ hg (blk_lt tq_30)) <| a_ (gtne_ hg (blk_lt tq_30)); clear BK193 BK194 HB; obtain ⟨BK193, BK194, HB, BK195, GW195, GE195, NB193_195, NB195_193, NB194_195, NB195_194⟩ := z_; clear hb hbox hg; have hnb7 := NB193_194.out; have hnc7 := NB194_193.out; have hnb8 := NB193_195.out; have hnc8 := NB195_193.out; have hcz9_0 := bc_ BK193.out 0; have hcz9_1 := bc_ BK193.out 1; have hcz9_2 := bc_ BK193.out 2; have hcz9_3 := bc_ BK193.out 3; have hcz9_4 := bc_ BK193.out 4; have hcz9_5 := bc_ BK193.out 5; have hfz9_0 := blk_frozen BK193.out 0; have hfz9_1 := blk_frozen BK193.out 1; have hfz9_2 := blk_frozen BK193.out 2; have hfz9_3 := blk_frozen BK193.out 3; have hfz9_4 := blk_frozen BK193.out 4; have hfz9_5 := blk_frozen BK193.out 5) | ((with_reducible refine gate_callee (f := 93) rfl ?_); refine goesL_ (some 9) rfl rfl Try.func93 (by kernel_rfl) rfl #[.agg #[.int .i64 a0_0, .int .i64 a0_1, .int .i64 a0_2, .string a0_3, .slice A0_4 l0_4.length c0_4, .slice A0_5 l0_5.length c0_5]] rfl tq_2 ?_; (with_reducible refine (spec_l12Copy.calls a0_0 a0_1 a0_2 a0_3 _ _ l0_4 _ _ l0_5 t196 t197 t198 t199 t200 t203 _ ?side1 ?side2 ?side3 ?side4 A3.out).mono ?_); (case side1 => exact tq_15); (case side2 => exact HC0_4.out); (case side3 => exact tq_24); (case side4 => exact HC0_5.out); rintro e w10 ⟨v201, v204, rfl, ho0, ho1, hb⟩; refine ⟨_, rfl, ?_⟩; have z_ := p_ (Kd.R_lower ho0 (below_size tq_52)) <| p_ (Kd.R_lower (Kd.R_newB ho1 (g := gb194) (o := .cells #[.int .i64 a1_0, .string a1_1] 59 (0, 0)) tq_30) (below_size tq_52)) <| p_ (blk_below tq_32 hb) <| p_ (blk_below tq_30 hb) <| p_ (blk_below tq_39 hb) <| a_ (below_step tq_52 hb); clear BK193 BK194 BK195 HB; obtain ⟨HO202, HO205, BK193, BK194, BK195, HB⟩ := z_; (try clear hb); (try clear hb2); (try clear hk); (try clear hi); (try clear ho0); (try clear ho1)) | ((with_reducible refine gate_dst (N := 5) rfl ?_); refine box_event ?hg (N := 5) ?hd (cs := #[.int .i64 0, .int .i64 0, .int .i64 0, .string (⟨#[]⟩ : ByteArray), .slice none 0 0, .slice none 0 0]) (t := 49) ?hr ?_; (case hd => rfl); (case hg => rfl); (case hr => first | (go_simp; done) | (go_simp; rfl)); intro gb206 hg w11 hbox hb; have z_ := p_ (Kd.R_below (by (with_reducible repeat (first | apply Kd.R_alloc | apply Kd.R_drewN | apply Kd.R_drew)); exact HO202.out) hb) <| p_ (Kd.R_below (by (with_reducible repeat (first | apply Kd.R_alloc | apply Kd.R_drewN | apply Kd.R_drew)); exact HO205.out) hb) <| p_ (blk_below tq_32 hb) <| p_ (blk_below tq_30 hb) <| p_ (blk_below tq_39 hb) <| p_ (below_step tq_52 hb) <| p_ (hbox) <| p_ (gb_ hg tq_52) <| p_ (gb_ hg tq_52) <| p_ (ltne_ hg (blk_lt tq_32)) <| p_ (gtne_ hg (blk_lt tq_32)) <| p_ (ltne_ hg (blk_lt tq_30)) <| p_ (gtne_ hg (blk_lt tq_30)) <| p_ (ltne_ hg (blk_lt tq_39)) <| a_ (gtne_ hg (blk_lt tq_39)); clear HO202 HO205 BK193 BK194 BK195 HB; obtain ⟨HO202, HO205, BK193, BK194, BK195, HB, BK206, GW206, GE206, NB193_206, NB206_193, NB194_206, NB206_194, NB195_206, NB206_195⟩ := z_; clear hb hbox hg; have hnb12 := NB206_193.out; have hnc12 := NB193_206.out; have hnb13 := NB206_194.out; have hnc13 := NB194_206.out; have hnb14 := NB206_195.out; have hnc14 := NB195_206.out; have hcz15_0 := bc_ BK206.out 0; have hcz15_1 := bc_ BK206.out 1; have hcz15_2 := bc_ BK206.out 2; have hcz15_3 := bc_ BK206.out 3; have hcz15_4 := bc_ BK206.out 4; have hcz15_5 := bc_ BK206.out 5; have hfz15_0 := blk_frozen BK206.out 0; have hfz15_1 := blk_frozen BK206.out 1; have hfz15_2 := blk_frozen BK206.out 2; have hfz15_3 := blk_frozen BK206.out 3; have hfz15_4 := blk_frozen BK206.out 4; have hfz15_5 := blk_frozen BK206.out 5; obtain ⟨Ao16, co16, eo16⟩ := Kd.R_slice HO202.out; subst eo16; obtain ⟨Ao17, co17, eo17⟩ := Kd.R_slice HO205.out; subst eo17) | ((with_reducible refine gate_dst (N := 10) rfl ?_); refine Kd.R_lit k59 _ 59 ?hg (N := 10) ?hd (xs := ([] : List (S59))) (inner := []) (ok := fun _ => True) (okp := fun _ => True) ?hr ?hp (fun _ hk => hk) trivial (Below.refl _ _) (Nat.le_refl _) (by simp) ?_; (case hd => rfl); (case hg => rfl); (case hr => first | (go_simp; done) | (go_simp; rfl)); (case hp => exact (Reps.none _ _)); intro v208 w18 ho19 hb hg_ hnew_; clear hg_ hnew_; (first | rw [← Ny207.out] at ho19 | (simp only [Int.reduceToNat] at ho19; rw [← Ny207.out] at ho19)); have z_ := p_ (Kd.R_below (by (with_reducible repeat (first | apply Kd.R_alloc | apply Kd.R_drewN | apply Kd.R_drew)); exact (Kd.R_mono (Kd.R_far (p := ⟨gb206, 5, none⟩) (Kd.R_far (p := ⟨gb206, 4, none⟩) (Kd.R_far (p := ⟨gb206, 3, none⟩) (Kd.R_far (p := ⟨gb206, 2, none⟩) (Kd.R_far (p := ⟨gb206, 1, none⟩) (Kd.R_far (p := ⟨gb206, 0, none⟩) (Kd.R_types HO202.out BK206.out (by decide)) (fun _ hk => hk.2) (.int .i64 t196)) (fun _ hk => hk.2) (.int .i64 t197)) (fun _ hk => hk.2) (.int .i64 t198)) (fun _ hk => hk.2) (.string t199)) (fun _ hk => hk.2) (.slice Ao16 t200.length co16)) (fun _ hk => hk.2) (.slice Ao17 t203.length co17)) (fun _ h_ => h_.1))) hb) <| p_ (Kd.R_elder' tq_90 (Kd.R_base ho19) hb) <| p_ (Kd.R_lower (Kd.R_newB (Kd.R_new' ho19 (Kd.R_lt tq_90)) (g := gb194) (o := .cells #[.int .i64 a1_0, .string a1_1] 59 (0, 0)) tq_64) (below_size tq_9)) <| p_ (blk_below (g := gb193) (o := .cells #[.int .i64 a0_0, .int .i64 a0_1, .int .i64 a0_2, .string a0_3, .slice A0_4 l0_4.length c0_4, .slice A0_5 l0_5.length c0_5] 49 (0, 0)) (by (with_reducible repeat (first | refine blk_drewN ?_ _ | refine blk_drew ?_ | refine blk_alloc ?_ _)); refine blk_far ?_ NB193_206.out _; (with_reducible repeat (first | refine blk_drewN ?_ _ | refine blk_drew ?_ | refine blk_alloc ?_ _)); refine blk_far ?_ NB193_206.out _; (with_reducible repeat (first | refine blk_drewN ?_ _ | refine blk_drew ?_ | refine blk_alloc ?_ _)); refine blk_far ?_ NB193_206.out _; (with_reducible repeat (first | refine blk_drewN ?_ _ | refine blk_drew ?_ | refine blk_alloc ?_ _)); refine blk_far ?_ NB193_206.out _; (with_reducible repeat (first | refine blk_drewN ?_ _ | refine blk_drew ?_ | refine blk_alloc ?_ _)); refine blk_far ?_ NB193_206.out _; (with_reducible repeat (first | refine blk_drewN ?_ _ | refine blk_drew ?_ | refine blk_alloc ?_ _)); refine blk_far ?_ NB193_206.out _; (with_reducible repeat (first | refine blk_drewN ?_ _ | refine blk_drew ?_ | refine blk_alloc ?_ _)); exact BK193.out) hb) <| p_ (blk_below (g := gb194) (o := .cells #[.int .i64 a1_0, .string a1_1] 59 (0, 0)) tq_64 hb) <| p_ (blk_below (g := gb195) (o := .cells #[.int .i64 0, .int .i64 0, .int .i64 0, .string (⟨#[]⟩ : ByteArray), .slice none 0 0, .slice none 0 0] 49 (0, 0)) (by (with_reducible repeat (first | refine blk_drewN ?_ _ | refine blk_drew ?_ | refine blk_alloc ?_ _)); refine blk_far ?_ NB195_206.out _; (with_reducible repeat (first | refine blk_drewN ?_ _ | refine blk_drew ?_ | refine blk_alloc ?_ _)); refine blk_far ?_ NB195_206.out _; (with_reducible repeat (first | refine blk_drewN ?_ _ | refine blk_drew ?_ | refine blk_alloc ?_ _)); refine blk_far ?_ NB195_206.out _; (with_reducible repeat (first | refine blk_drewN ?_ _ | refine blk_drew ?_ | refine blk_alloc ?_ _)); refine blk_far ?_ NB195_206.out _; (with_reducible repeat (first | refine blk_drewN ?_ _ | refine blk_drew ?_ | refine blk_alloc ?_ _)); refine blk_far ?_ NB195_206.out _; (with_reducible repeat (first | refine blk_drewN ?_ _ | refine blk_drew ?_ | refine blk_alloc ?_ _)); refine blk_far ?_ NB195_206.out _; (with_reducible repeat (first | refine blk_drewN ?_ _ | refine blk_drew ?_ | refine blk_alloc ?_ _)); exact BK195.out) hb) <| p_ (blk_below (g := gb206) (o := .cells #[.int .i64 t196, .int .i64 t197, .int .i64 t198, .string t199, .slice Ao16 t200.length co16, .slice Ao17 t203.length co17] 49 (0, 0)) (by (with_reducible repeat (first | refine blk_drewN ?_ _ | refine blk_drew ?_ | refine blk_alloc ?_ _)); refine blk_put (cs := #[.int .i64 t196, .int .i64 t197, .int .i64 t198, .string t199, .slice Ao16 t200.length co16, .slice none 0 0]) ?_ 5 _ rfl; (with_reducible repeat (first | refine blk_drewN ?_ _ | refine blk_drew ?_ | refine blk_alloc ?_ _)); refine blk_put (cs := #[.int .i64 t196, .int .i64 t197, .int .i64 t198, .string t199, .slice none 0 0, .slice none 0 0]) ?_ 4 _ rfl; (with_reducible repeat (first | refine blk_drewN ?_ _ | refine blk_drew ?_ | refine blk_alloc ?_ _)); refine blk_put (cs := #[.int .i64 t196, .int .i64 t197, .int .i64 t198, .string (⟨#[]⟩ : ByteArray), .slice none 0 0, .slice none 0 0]) ?_ 3 _ rfl; (with_reducible repeat (first | refine blk_drewN ?_ _ | refine blk_drew ?_ | refine blk_alloc ?_ _)); refine blk_put (cs := #[.int .i64 t196, .int .i64 t197, .int .i64 0, .string (⟨#[]⟩ : ByteArray), .slice none 0 0, .slice none 0 0]) ?_ 2 _ rfl; (with_reducible repeat (first | refine blk_drewN ?_ _ | refine blk_drew ?_ | refine blk_alloc ?_ _)); refine blk_put (cs := #[.int .i64 t196, .int .i64 0, .int .i64 0, .string (⟨#[]⟩ : ByteArray), .slice none 0 0, .slice none 0 0]) ?_ 1 _ rfl; (with_reducible repeat (first | refine blk_drewN ?_ _ | refine blk_drew ?_ | refine blk_alloc ?_ _)); refine blk_put (cs := #[.int .i64 0, .int .i64 0, .int .i64 0, .string (⟨#[]⟩ : ByteArray), .slice none 0 0, .slice none 0 0]) ?_ 0 _ rfl; (with_reducible repeat (first | refine blk_drewN ?_ _ | refine blk_drew ?_ | refine blk_alloc ?_ _)); exact BK206.out) hb) <| a_ (below_step tq_9 hb); clear HO202 HO205 BK193 BK194 BK195 BK206 HB; obtain ⟨HO202, HO205, HO209, BK193, BK194, BK195, BK206, HB⟩ := z_; clear hb ho19; obtain ⟨Ao20, co20, eo20⟩ := Kd.R_slice HO209.out; subst eo20; have hcz21_0 := bc_ BK206.out 0; have hcz21_1 := bc_ BK206.out 1; have hcz21_2 := bc_ BK206.out 2; have hcz21_3 := bc_ BK206.out 3; have hcz21_4 := bc_ BK206.out 4; have hcz21_5 := bc_ BK206.out 5; have hfz21_0 := blk_frozen BK206.out 0; have hfz21_1 := blk_frozen BK206.out 1; have hfz21_2 := blk_frozen BK206.out 2; have hfz21_3 := blk_frozen BK206.out 3; have hfz21_4 := blk_frozen BK206.out 4; have hfz21_5 := blk_frozen BK206.out 5))
 go_loopg [6, 7] k (fun kq v6 v7 w' => ∃ (x6_1 : Bool) (x7_1 : Int) (x207005_1 : List (S59)) (u207005 : Value), v6 = .bool x6_1 ∧ v7 = .int .i64 x7_1 ∧ Aside0 (spec_WithEntry.l0 kq x6_1 x7_1 a0_0 a0_1 a0_2 a0_3 l0_4 l0_5 a1_0 a1_1 t196 t197 t198 t199 t200 x207005_1 = some (r1, r2, r3, r4, r5, r6)) ∧ Aside0 (kq ≤ k) ∧ Aside0 (Kd.R k170 170 w' w.heap.size (fun _ => True) (.slice Ao16 t200.length co16) t200) ∧ Aside0 (Kd.R k59 59 w' w.heap.size (fun k_ => k_ ≠ gb194) u207005 x207005_1) ∧ Aside0 (w'.heap[gb193]? = some (.cells #[.int .i64 a0_0, .int .i64 a0_1, .int .i64 a0_2, .string a0_3, (.slice A0_4 l0_4.length c0_4), (.slice A0_5 l0_5.length c0_5)] 49 (0, 0))) ∧ Aside0 (w'.heap[gb194]? = some (.cells #[.int .i64 a1_0, .string a1_1] 59 (0, 0))) ∧ Aside0 (w'.heap[gb195]? = some (.cells #[.int .i64 0, .int .i64 0, .int .i64 0, .string (⟨#[]⟩ : ByteArray), (.slice none 0 0), (.slice none 0 0)] 49 (0, 0))) ∧ Aside0 (w'.heap[gb206]? = some (.cells #[.int .i64 t196, .int .i64 t197, .int .i64 t198, .string t199, (.slice Ao16 t200.length co16), u207005] 49 (0, 0))) ∧ Aside0 (Below w.heap.size w w'))
 case atStart => exact ⟨(false), (0), (y207), (.slice Ao20 y207.length co20), tq_33, tq_33, H', ⟨Nat.le_refl _⟩, ⟨(by (with_reducible repeat (first | apply Kd.R_alloc | apply Kd.R_drewN | apply Kd.R_drew)); exact Kd.R_mono (Kd.R_far (p := ⟨gb206, 5, none⟩) (Kd.R_types HO202.out BK206.out (by decide)) (fun _ hk => hk.2) (.slice Ao20 y207.length co20)) (fun _ hk => trivial))⟩, ⟨(by (with_reducible repeat (first | apply Kd.R_alloc | apply Kd.R_drewN | apply Kd.R_drew)); exact Kd.R_mono (Kd.R_far (p := ⟨gb206, 5, none⟩) (Kd.R_types HO209.out BK206.out (by decide)) (fun _ hk => hk.2) (.slice Ao20 y207.length co20)) (fun _ hk => hk.1.2))⟩, ⟨tq_59⟩, ⟨tq_58⟩, ⟨tq_57⟩, ⟨(by (with_reducible repeat (first | refine blk_drewN ?_ _ | refine blk_drew ?_ | refine blk_alloc ?_ _)); refine blk_put (cs := #[.int .i64 t196, .int .i64 t197, .int .i64 t198, .string t199, .slice Ao16 t200.length co16, .slice Ao17 t203.length co17]) ?_ 5 _ rfl; (with_reducible repeat (first | refine blk_drewN ?_ _ | refine blk_drew ?_ | refine blk_alloc ?_ _)); exact BK206.out)⟩, ⟨tq_9⟩⟩
 case round =>
  clear H'
  try clear c1
  try clear p2
  try clear c3
  try clear c7
  try clear c8
  try clear c9
  try clear c12
  try clear c13
  try clear c14
  try clear hcz15_0 hcz15_1 hcz15_2 hcz15_3 hcz15_4 hcz15_5
  try clear hcz21_0 hcz21_1 hcz21_2 hcz21_3 hcz21_4 hcz21_5
  try clear hcz9_0 hcz9_1 hcz9_2 hcz9_3 hcz9_4 hcz9_5
  try clear hfz15_0 hfz15_1 hfz15_2 hfz15_3 hfz15_4 hfz15_5
  try clear hfz21_0 hfz21_1 hfz21_2 hfz21_3 hfz21_4 hfz21_5
  try clear hfz9_0 hfz9_1 hfz9_2 hfz9_3 hfz9_4 hfz9_5
  obtain ⟨x6_1, x7_1, x207005_1, u207005, rfl, rfl, HA, HK1, HO_207004, HO_207005, BK193, BK194, BK195, BK206, HB⟩ := hrel
  cases gk with
  | zero => exact absurd HA.out (by simp [spec_WithEntry.l0])
  | succ k1 =>
   have H := HA.out
   clear HA
   simp only [spec_WithEntry.l0] at H
   by_cases c22 : x7_1 < (l0_5.length : Int)
   ·rw [if_pos c22] at H
    have c22b0 : decide (x7_1 < (l0_5.length : Int)) = true := decide_eq_true c22
    clear c22
    have HC23 := Aside0.mk H
    clear H
    have hnb24 := NB193_194.out
    have hnc24 := NB194_193.out
    have hnb25 := NB193_195.out
    have hnc25 := NB195_193.out
    have hnb26 := NB193_206.out
    have hnc26 := NB206_193.out
    have hcz27_0 := bc_ BK193.out 0
    have hcz27_1 := bc_ BK193.out 1
    have hcz27_2 := bc_ BK193.out 2
    have hcz27_3 := bc_ BK193.out 3
    have hcz27_4 := bc_ BK193.out 4
    have hcz27_5 := bc_ BK193.out 5
    have hfz27_0 := blk_frozen BK193.out 0
    have hfz27_1 := blk_frozen BK193.out 1
    have hfz27_2 := blk_frozen BK193.out 2
    have hfz27_3 := blk_frozen BK193.out 3
    have hfz27_4 := blk_frozen BK193.out 4
    have hfz27_5 := blk_frozen BK193.out 5
    go_upto_region 7 with (fail)
    go_cut [31] (fun v31 wc => ∃ (kq : Nat) (x31_22 : Bool), v31 = .bool x31_22 ∧ Aside0 (spec_WithEntry.j1 kq x6_1 x7_1 x31_22 a0_0 a0_1 a0_2 a0_3 l0_4 l0_5 a1_0 a1_1 t196 t197 t198 t199 t200 x207005_1 = some (r1, r2, r3, r4, r5, r6)) ∧ Aside0 (kq ≤ k1) ∧ Aside0 (Kd.R k170 170 wc w.heap.size (fun _ => True) (.slice Ao16 t200.length co16) t200) ∧ Aside0 (Kd.R k59 59 wc w.heap.size (fun k_ => k_ ≠ gb194) u207005 x207005_1) ∧ Aside0 (wc.heap[gb193]? = some (.cells #[.int .i64 a0_0, .int .i64 a0_1, .int .i64 a0_2, .string a0_3, (.slice A0_4 l0_4.length c0_4), (.slice A0_5 l0_5.length c0_5)] 49 (0, 0))) ∧ Aside0 (wc.heap[gb194]? = some (.cells #[.int .i64 a1_0, .string a1_1] 59 (0, 0))) ∧ Aside0 (wc.heap[gb195]? = some (.cells #[.int .i64 0, .int .i64 0, .int .i64 0, .string (⟨#[]⟩ : ByteArray), (.slice none 0 0), (.slice none 0 0)] 49 (0, 0))) ∧ Aside0 (wc.heap[gb206]? = some (.cells #[.int .i64 t196, .int .i64 t197, .int .i64 t198, .string t199, (.slice Ao16 t200.length co16), u207005] 49 (0, 0))) ∧ Aside0 (Below w.heap.size w wc))
    case first =>
     have H := HC23.out
     clear HC23
     by_cases c28 : x6_1 = true
     ·subst c28
      have H1 : (spec_WithEntry.j1 k1 true x7_1 false a0_0 a0_1 a0_2 a0_3 l0_4 l0_5 a1_0 a1_1 t196 t197 t198 t199 t200 x207005_1) = some (r1, r2, r3, r4, r5, r6) := by rw [if_pos rfl] at H; exact H
      clear H
      have H := H1
      clear H1
      have H' := Aside0.mk H
      clear H
      try go_wp2
      have z_ := p_ (Kd.R_drew HO_207004.out) <| p_ (Kd.R_drew HO_207005.out) <| p_ (blk_drew BK193.out) <| p_ (blk_drew BK194.out) <| p_ (blk_drew BK195.out) <| p_ (blk_drew BK206.out) <| a_ (below_drew1 HB.out)
      clear HO_207004 HO_207005 BK193 BK194 BK195 BK206 HB
      obtain ⟨HO_207004, HO_207005, BK193, BK194, BK195, BK206, HB⟩ := z_
      refine start_ (n := 13) (S := fun w' => True) (ds := []) bq_34 (by kernel_rfl) rfl rfl trivial (fun hHeld => ?_); refine with_tabW spec_WithEntry.tab7 spec_WithEntry.bits7 (fun HT_ HW_ => ?_)
      generalize wr.drew = w29 at HO_207004 HO_207005 BK193 BK194 BK195 BK206 HB hHeld ⊢
      refine yq_ (i := 0) (N := some 19) bq_35 (any_of HT_.out (by kernel_rfl)) ?_
      refine yq_ (i := 1) (N := some 20) bq_36 (any_of HT_.out (by kernel_rfl)) ?_
      refine yq_ (i := 2) (N := some 21) bq_37 (any_of HT_.out (by kernel_rfl)) ?_
      refine uq_ (i := 3) (N := some 22) bq_38 (any_of HT_.out (by kernel_rfl)) ?_
      refine uq_ (i := 4) (N := some 23) #[true, true, true, true, true, false, false, false, false, false, false, false, false] (any_of HT_.out (by kernel_rfl)) ?_
      refine uq_ (i := 5) (N := some 24) #[true, true, true, true, true, true, false, false, false, false, false, false, false] (any_of HT_.out (by kernel_rfl)) ?_
      refine uq_ (i := 6) (N := some 25) #[true, true, true, true, true, true, true, false, false, false, false, false, false] (any_of HT_.out (by kernel_rfl)) ?_
      refine uq_ (i := 7) (N := some 26) #[true, true, true, true, true, true, true, true, false, false, false, false, false] (any_of HT_.out (by kernel_rfl)) ?_
      refine uq_ (i := 8) (N := some 27) #[true, true, true, true, true, true, true, true, true, false, false, false, false] (any_of HT_.out (by kernel_rfl)) ?_
      refine uq_ (i := 9) (N := some 28) bq_39 (any_of HT_.out (by kernel_rfl)) ?_
      refine uq_ (i := 10) (N := some 29) bq_40 (any_of HT_.out (by kernel_rfl)) ?_
      refine uq_ (i := 11) (N := some 30) bq_41 (any_of HT_.out (by kernel_rfl)) ?_
      refine yq_ (i := 12) (N := some 31) bq_42 (any_of HT_.out (by kernel_rfl)) ?_
      refine done_ (done_of HT_.out (by kernel_rfl)) ?_
      try go_wp2
      go_meet
      case rel => exact ⟨_, (false), tq_33, H', ⟨(by have := HK1.out; first | omega | exact Nat.le_refl _)⟩, ⟨tq_68⟩, ⟨tq_55⟩, ⟨tq_32⟩, ⟨tq_30⟩, ⟨tq_39⟩, ⟨tq_66⟩, ⟨tq_9⟩⟩
     ·replace c28 := Bool.eq_false_iff.mpr c28
      subst c28
      have H1 : (if 0 ≤ x7_1 then (spec_WithEntry.j1 k1 false x7_1 (Op.bytesLess a1_1.toList (((rd_T59 l0_5 x7_1).f1).toList)) a0_0 a0_1 a0_2 a0_3 l0_4 l0_5 a1_0 a1_1 t196 t197 t198 t199 t200 x207005_1) else (none)) = some (r1, r2, r3, r4, r5, r6) := by rw [if_neg (show ¬ (false = true) by decide)] at H; exact H
      clear H
      have H := H1
      clear H1
      by_cases c30 : 0 ≤ x7_1
      ·rw [if_pos c30] at H
       have c30b0 : decide (0 ≤ x7_1) = true := decide_eq_true c30
       clear c30
       (first | rw [c30b0] | (simp only [i64_w, i32_w]; rw [c30b0]) | skip)
       have H' := Aside0.mk H
       clear H
       try go_wp2
       have z_ := p_ (Kd.R_drew HO_207004.out) <| p_ (Kd.R_drew HO_207005.out) <| p_ (blk_drew BK193.out) <| p_ (blk_drew BK194.out) <| p_ (blk_drew BK195.out) <| p_ (blk_drew BK206.out) <| a_ (below_drew1 HB.out)
       clear HO_207004 HO_207005 BK193 BK194 BK195 BK206 HB
       obtain ⟨HO_207004, HO_207005, BK193, BK194, BK195, BK206, HB⟩ := z_
       have p213 : 0 ≤ (x7_1 : Int) := of_decide_eq_true tq_11
       have q213 : x7_1 < (l0_5.length : Int) := of_decide_eq_true tq_11
       obtain ⟨ad213, e213, hx213_0, hx213_1⟩ := at_T59 HR0_5.out x7_1 p213 q213
       have hw213_1 := hx213_1
       have hw213_0 := hx213_0
       cases e213
       replace hx213_0 := hx_ HB.out hx213_0
       replace hx213_1 := hx_ HB.out hx213_1
       replace p213 := eq_true p213
       replace q213 := eq_true q213
       refine start_ (n := 13) (S := fun w' => w'.cell? ⟨gb193, 0, none⟩ = some (.int .i64 a0_0) ∧ w'.cell? ⟨gb193, 1, none⟩ = some (.int .i64 a0_1) ∧ w'.cell? ⟨gb193, 2, none⟩ = some (.int .i64 a0_2) ∧ w'.cell? ⟨gb193, 3, none⟩ = some (.string a0_3) ∧ w'.cell? ⟨gb193, 4, none⟩ = some (.slice A0_4 l0_4.length c0_4) ∧ w'.cell? ⟨gb193, 5, none⟩ = some (.slice (some ad213) l0_5.length c0_5) ∧ w'.cell? ⟨gb194, 0, none⟩ = some (.int .i64 a1_0) ∧ w'.cell? ⟨gb194, 1, none⟩ = some (.string a1_1) ∧ w'.cell? (ad213.add ((x7_1).toNat * 2)) = some (.int .i64 ((rd_T59 l0_5 x7_1).f0)) ∧ w'.cell? ⟨(ad213.add ((x7_1).toNat * 2)).block, (ad213.add ((x7_1).toNat * 2)).off + 1, none⟩ = some (.string ((rd_T59 l0_5 x7_1).f1))) (ds := []) bq_34 (by kernel_rfl) rfl rfl (bc6_ BK193.out (bc2_ BK194.out ⟨((HB.out.cell (World.block_lt_of_cell? w _ hw213_0)).trans hw213_0), ((HB.out.cell (World.block_lt_of_cell? w _ hw213_1)).trans hw213_1)⟩)) (fun hHeld => ?_); refine with_tabW spec_WithEntry.tab7 spec_WithEntry.bits7 (fun HT_ HW_ => ?_)
       generalize wr.drew = w31 at HO_207004 HO_207005 BK193 BK194 BK195 BK206 HB hx213_0 hx213_1 hHeld ⊢
       refine yq_ (i := 0) (N := some 19) bq_35 (any_of HT_.out (by kernel_rfl)) ?_
       refine yq_ (i := 1) (N := some 20) bq_36 (any_of HT_.out (by kernel_rfl)) ?_
       refine yq_ (i := 2) (N := some 21) bq_37 (any_of HT_.out (by kernel_rfl)) ?_
       refine yq_ (i := 3) (N := some 22) bq_38 (any_of HT_.out (by kernel_rfl)) ?_
       refine yq_ (i := 5) (N := some 24) #[true, true, true, true, false, true, false, false, false, false, false, false, false] (any_of HT_.out (by kernel_rfl)) ?_
       refine yq_ (i := 9) (N := some 28) #[true, true, true, true, false, true, false, false, false, true, false, false, false] (any_of HT_.out (by kernel_rfl)) ?_
       refine tk_ (i := 4) (N := some 23) #[true, true, true, true, true, true, false, false, false, true, false, false, false] (take_ofW HT_.out HW_.out (by kernel_rfl)) hHeld ?_
       refine yq_ (i := 6) (N := some 25) #[true, true, true, true, true, true, true, false, false, true, false, false, false] (any_of HT_.out (by kernel_rfl)) ?_
       refine yq_ (i := 7) (N := some 26) #[true, true, true, true, true, true, true, true, false, true, false, false, false] (any_of HT_.out (by kernel_rfl)) ?_
       refine tk_ (i := 8) (N := some 27) bq_39 (take_ofW HT_.out HW_.out (by kernel_rfl)) hHeld ?_
       refine tk_ (i := 10) (N := some 29) bq_40 (take_ofW HT_.out HW_.out (by kernel_rfl)) hHeld ?_
       refine yq_ (i := 11) (N := some 30) bq_41 (any_of HT_.out (by kernel_rfl)) ?_
       refine yq_ (i := 12) (N := some 31) bq_42 (any_of HT_.out (by kernel_rfl)) ?_
       refine done_ (done_of HT_.out (by kernel_rfl)) ?_
       try go_wp2
       go_meet
       case rel => exact ⟨_, ((Op.bytesLess a1_1.toList (((rd_T59 l0_5 x7_1).f1).toList))), (by first | rfl | (simp; done) | exact congrArg Value.bool (bl_leq _ _) | exact congrArg Value.bool (bl_gtr _ _) | (simp only [Value.bool.injEq]; first | exact bl_leq _ _ | exact bl_gtr ..) | (simp [*]; done)), H', ⟨(by have := HK1.out; first | omega | exact Nat.le_refl _)⟩, ⟨tq_68⟩, ⟨tq_55⟩, ⟨tq_32⟩, ⟨tq_30⟩, ⟨tq_39⟩, ⟨tq_66⟩, ⟨tq_9⟩⟩
      ·rw [if_neg c30] at H
       exact absurd H (by simp)
    case rest =>
     clear HC23
     try clear c1
     try clear c2
     try clear p2
     try clear q2
     try clear hx2
     try clear c3
     try clear c7
     try clear c8
     try clear c9
     try clear c12
     try clear c13
     try clear c14
     try clear p21
     try clear q21
     try clear hx21
     try clear c22
     try clear c22b0
     try clear c24
     try clear c25
     try clear c26
     try clear c28
     try clear c30
     try clear c30b0
     try clear hcz15_0 hcz15_1 hcz15_2 hcz15_3 hcz15_4 hcz15_5
     try clear hcz21_0 hcz21_1 hcz21_2 hcz21_3 hcz21_4 hcz21_5
     try clear hcz27_0 hcz27_1 hcz27_2 hcz27_3 hcz27_4 hcz27_5
     try clear hcz9_0 hcz9_1 hcz9_2 hcz9_3 hcz9_4 hcz9_5
     try clear hfz15_0 hfz15_1 hfz15_2 hfz15_3 hfz15_4 hfz15_5
     try clear hfz21_0 hfz21_1 hfz21_2 hfz21_3 hfz21_4 hfz21_5
     try clear hfz27_0 hfz27_1 hfz27_2 hfz27_3 hfz27_4 hfz27_5
     try clear hfz9_0 hfz9_1 hfz9_2 hfz9_3 hfz9_4 hfz9_5
     try clear hx213_0
     try clear hx213_1
     try clear p2
     try clear p213
     try clear q213
     obtain ⟨kq, x31_22, rfl, HA, HJ22, HO_207004, HO_207005, BK193, BK194, BK195, BK206, HB⟩ := hcut
     cases kq with
     | zero => exact absurd HA.out (by simp [spec_WithEntry.j1])
     | succ kj22 =>
      have H := HA.out
      clear HA
      simp only [spec_WithEntry.j1] at H
      by_cases c32 : x31_22 = true
      ·subst c32
       have H1 : (if x207005_1.length < 5864062014805 then ((some (x207005_1 ++ [(⟨a1_0, a1_1⟩ : S59)] : List (S59))).bind fun y214 => (if 0 ≤ x7_1 then (if x7_1 < (l0_5.length : Int) then (if ((rd_T59 l0_5 x7_1).f1).toList = a1_1.toList then (spec_WithEntry.l0 kj22 true (wrap64 (x7_1 + 1)) a0_0 a0_1 a0_2 a0_3 l0_4 l0_5 a1_0 a1_1 t196 t197 t198 t199 t200 y214) else (if y214.length < 5864062014805 then (spec_WithEntry.l0 kj22 true (wrap64 (x7_1 + 1)) a0_0 a0_1 a0_2 a0_3 l0_4 l0_5 a1_0 a1_1 t196 t197 t198 t199 t200 (y214 ++ [(⟨(rd_T59 l0_5 x7_1).f0, (rd_T59 l0_5 x7_1).f1⟩ : S59)])) else (none))) else (none)) else (none))) else (none)) = some (r1, r2, r3, r4, r5, r6) := by rw [if_pos rfl] at H; exact H
       clear H
       have H := H1
       clear H1
       by_cases c33 : x207005_1.length < 5864062014805
       ·rw [if_pos c33] at H
        have LMc33 := Aside0.mk c33
        clear c33
        obtain ⟨y214, hy214⟩ : ∃ y_ : List (S59), y_ = (x207005_1 ++ [(⟨a1_0, a1_1⟩ : S59)]) := ⟨_, rfl⟩
        replace H : (if 0 ≤ x7_1 then (if x7_1 < (l0_5.length : Int) then (if ((rd_T59 l0_5 x7_1).f1).toList = a1_1.toList then (spec_WithEntry.l0 kj22 true (wrap64 (x7_1 + 1)) a0_0 a0_1 a0_2 a0_3 l0_4 l0_5 a1_0 a1_1 t196 t197 t198 t199 t200 y214) else (if y214.length < 5864062014805 then (spec_WithEntry.l0 kj22 true (wrap64 (x7_1 + 1)) a0_0 a0_1 a0_2 a0_3 l0_4 l0_5 a1_0 a1_1 t196 t197 t198 t199 t200 (y214 ++ [(⟨(rd_T59 l0_5 x7_1).f0, (rd_T59 l0_5 x7_1).f1⟩ : S59)])) else (none))) else (none)) else (none)) = some (r1, r2, r3, r4, r5, r6) := by first | (rw [hy214]; with_reducible exact H) | (have H2_ := (Option.bind_some _ _).symm.trans H; rw [hy214]; with_reducible exact H2_) | (have H2_ := (Option.bind_some _ _).symm.trans H; with_reducible exact H2_) | with_reducible exact H | (rw [hy214]; exact H) | exact H
        have Ny214 := Aside0.mk hy214
        clear hy214
        by_cases c34 : 0 ≤ x7_1
        ·rw [if_pos c34] at H
         have c34b0 : decide (0 ≤ x7_1) = true := decide_eq_true c34
         clear c34
         by_cases c35 : x7_1 < (l0_5.length : Int)
         ·rw [if_pos c35] at H
          have c35b0 : decide (x7_1 < (l0_5.length : Int)) = true := decide_eq_true c35
          clear c35
          by_cases c36 : ((rd_T59 l0_5 x7_1).f1).toList = a1_1.toList
          ·rw [if_pos c36] at H
           have c36b0 : (((rd_T59 l0_5 x7_1).f1).toList == a1_1.toList) = true := beq_iff_eq.mpr c36
           have c36b1 : (((rd_T59 l0_5 x7_1).f1).toList != a1_1.toList) = false := bne_eq_false_iff_eq.mpr c36
           clear c36
           have H' := Aside0.mk H
           clear H
           have hnb37 := NB206_193.out
           have hnc37 := NB193_206.out
           have hnb38 := NB206_194.out
           have hnc38 := NB194_206.out
           have hnb39 := NB206_195.out
           have hnc39 := NB195_206.out
           have hcz40_0 := bc_ BK206.out 0
           have hcz40_1 := bc_ BK206.out 1
           have hcz40_2 := bc_ BK206.out 2
           have hcz40_3 := bc_ BK206.out 3
           have hcz40_4 := bc_ BK206.out 4
           have hcz40_5 := bc_ BK206.out 5
           have hfz40_0 := blk_frozen BK206.out 0
           have hfz40_1 := blk_frozen BK206.out 1
           have hfz40_2 := blk_frozen BK206.out 2
           have hfz40_3 := blk_frozen BK206.out 3
           have hfz40_4 := blk_frozen BK206.out 4
           have hfz40_5 := blk_frozen BK206.out 5
           have hnb41 := NB194_193.out
           have hnc41 := NB193_194.out
           have hnb42 := NB194_195.out
           have hnc42 := NB195_194.out
           have hcz43_0 := bc_ BK194.out 0
           have hcz43_1 := bc_ BK194.out 1
           have hfz43_0 := blk_frozen BK194.out 0
           have hfz43_1 := blk_frozen BK194.out 1
           try go_wp2_with (first | ((with_reducible refine gate_builtin (b := .append) (xs := #[.tmp 33, .tmp 35]) rfl ?_); at_builtin; refine Kd.R_append k59 (w0 := w) w.heap.size rfl (.tmp 33) (.tmp 35) 47 59 (.agg #[(.int .i64 0), (.string ⟨#[]⟩)]) 24 rfl Try.underlying47 info59 rfl (by decide) (by omega) u207005 x207005_1 (⟨a1_0, a1_1⟩ : S59) [.int .i64 a1_0, .string a1_1] (fun k_ => k_ ≠ gb194) (fun _ => False) rfl rfl ?aP (fun _ hk => hk.elim) ?aF ?aO ?aB ?aS ?aL ?_; (case aP => exact k59_mkM _ _ _ (⟨a1_0, a1_1⟩ : S59)); (case aB => exact tq_9); (case aF => exact tq_120); (case aO => exact tq_55); (case aS => exact (below_size tq_9)); (case aL => have := LMc33.out; omega); intro v215 w44 ho hb hg hat; rw [← Ny214.out] at ho; have z_ := p_ (Kd.R_over' tq_68 (Kd.R_typed tq_55) (by decide) hg) <| p_ (blk_grown (g := gb193) (o := .cells #[.int .i64 a0_0, .int .i64 a0_1, .int .i64 a0_2, .string a0_3, .slice A0_4 l0_4.length c0_4, .slice A0_5 l0_5.length c0_5] 49 (0, 0)) tq_32 hg (Kd.R_ne HO_207005.out BK193.out (by decide))) <| p_ (blk_grown (g := gb194) (o := .cells #[.int .i64 a1_0, .string a1_1] 59 (0, 0)) tq_30 hg (Kd.R_away HO_207005.out (fun _ hk => hk))) <| p_ (blk_grown (g := gb195) (o := .cells #[.int .i64 0, .int .i64 0, .int .i64 0, .string (⟨#[]⟩ : ByteArray), .slice none 0 0, .slice none 0 0] 49 (0, 0)) tq_39 hg (Kd.R_ne HO_207005.out BK195.out (by decide))) <| p_ (blk_grown (g := gb206) (o := .cells #[.int .i64 t196, .int .i64 t197, .int .i64 t198, .string t199, .slice Ao16 t200.length co16, u207005] 49 (0, 0)) tq_66 hg (Kd.R_ne HO_207005.out BK206.out (by decide))) <| p_ (hb) <| a_ (ho); clear HO_207004 BK193 BK194 BK195 BK206 HB HO_207005; obtain ⟨HO_207004, BK193, BK194, BK195, BK206, HB, HO216⟩ := z_; clear ho hb hg hat; obtain ⟨Ao45, co45, eo45⟩ := Kd.R_slice HO216.out; subst eo45; have hcz46_0 := bc_ BK206.out 0; have hcz46_1 := bc_ BK206.out 1; have hcz46_2 := bc_ BK206.out 2; have hcz46_3 := bc_ BK206.out 3; have hcz46_4 := bc_ BK206.out 4; have hcz46_5 := bc_ BK206.out 5; have hfz46_0 := blk_frozen BK206.out 0; have hfz46_1 := blk_frozen BK206.out 1; have hfz46_2 := blk_frozen BK206.out 2; have hfz46_3 := blk_frozen BK206.out 3; have hfz46_4 := blk_frozen BK206.out 4; have hfz46_5 := blk_frozen BK206.out 5))
           have n0_ : Aside0 (Kd.R k170 170 (w44.setCell ⟨gb206, 5, none⟩ (.slice Ao45 y214.length co45)) w.heap.size (fun _ => True) (.slice Ao16 t200.length co16) t200) := ⟨(by (with_reducible repeat (first | apply Kd.R_alloc | apply Kd.R_drewN | apply Kd.R_drew)); exact Kd.R_mono (Kd.R_far (p := ⟨gb206, 5, none⟩) (Kd.R_types HO_207004.out BK206.out (by decide)) (fun _ hk => hk.2) (.slice Ao45 y214.length co45)) (fun _ hk => trivial))⟩
           have n1_ : Aside0 (Kd.R k59 59 (w44.setCell ⟨gb206, 5, none⟩ (.slice Ao45 y214.length co45)) w.heap.size (fun k_ => k_ ≠ gb194) (.slice Ao45 y214.length co45) y214) := ⟨(by (with_reducible repeat (first | apply Kd.R_alloc | apply Kd.R_drewN | apply Kd.R_drew)); exact Kd.R_mono (Kd.R_far (p := ⟨gb206, 5, none⟩) (Kd.R_types HO216.out BK206.out (by decide)) (fun _ hk => hk.2) (.slice Ao45 y214.length co45)) (fun _ hk => hk.1))⟩
           have n2_ : Aside0 ((w44.setCell ⟨gb206, 5, none⟩ (.slice Ao45 y214.length co45)).heap[gb193]? = some (.cells #[.int .i64 a0_0, .int .i64 a0_1, .int .i64 a0_2, .string a0_3, .slice A0_4 l0_4.length c0_4, .slice A0_5 l0_5.length c0_5] 49 (0, 0))) := ⟨tq_59⟩
           have n3_ : Aside0 ((w44.setCell ⟨gb206, 5, none⟩ (.slice Ao45 y214.length co45)).heap[gb194]? = some (.cells #[.int .i64 a1_0, .string a1_1] 59 (0, 0))) := ⟨tq_58⟩
           have n4_ : Aside0 ((w44.setCell ⟨gb206, 5, none⟩ (.slice Ao45 y214.length co45)).heap[gb195]? = some (.cells #[.int .i64 0, .int .i64 0, .int .i64 0, .string (⟨#[]⟩ : ByteArray), .slice none 0 0, .slice none 0 0] 49 (0, 0))) := ⟨tq_57⟩
           have n5_ : Aside0 ((w44.setCell ⟨gb206, 5, none⟩ (.slice Ao45 y214.length co45)).heap[gb206]? = some (.cells #[.int .i64 t196, .int .i64 t197, .int .i64 t198, .string t199, .slice Ao16 t200.length co16, .slice Ao45 y214.length co45] 49 (0, 0))) := ⟨tq_72⟩
           have n6_ : Aside0 (Below w.heap.size w (w44.setCell ⟨gb206, 5, none⟩ (.slice Ao45 y214.length co45))) := ⟨tq_9⟩
           (try clear HO_207004)
           (try clear HO216)
           (try clear BK193)
           (try clear BK194)
           (try clear BK195)
           (try clear BK206)
           (try clear HB)
           generalize (w44.setCell ⟨gb206, 5, none⟩ (.slice Ao45 y214.length co45)) = w47 at n0_ n1_ n2_ n3_ n4_ n5_ n6_ ⊢
           have HO_207004 := n0_
           have HO216 := n1_
           have BK193 := n2_
           have BK194 := n3_
           have BK195 := n4_
           have BK206 := n5_
           have HB := n6_
           clear n0_ n1_ n2_ n3_ n4_ n5_ n6_
           have z_ := p_ (Kd.R_drew HO_207004.out) <| p_ (Kd.R_drew HO216.out) <| p_ (blk_drew BK193.out) <| p_ (blk_drew BK194.out) <| p_ (blk_drew BK195.out) <| p_ (blk_drew BK206.out) <| a_ (below_drew1 HB.out)
           clear HO_207004 HO216 BK193 BK194 BK195 BK206 HB
           obtain ⟨HO_207004, HO216, BK193, BK194, BK195, BK206, HB⟩ := z_
           have p217 : 0 ≤ (x7_1 : Int) := of_decide_eq_true tq_11
           have q217 : x7_1 < (l0_5.length : Int) := of_decide_eq_true tq_11
           obtain ⟨ad217, e217, hx217_0, hx217_1⟩ := at_T59 HR0_5.out x7_1 p217 q217
           have hw217_1 := hx217_1
           have hw217_0 := hx217_0
           cases e217
           replace hx217_0 := hx_ HB.out hx217_0
           replace hx217_1 := hx_ HB.out hx217_1
           replace p217 := eq_true p217
           replace q217 := eq_true q217
           refine start_ (n := 9) (S := fun w' => w'.cell? ⟨gb193, 0, none⟩ = some (.int .i64 a0_0) ∧ w'.cell? ⟨gb193, 1, none⟩ = some (.int .i64 a0_1) ∧ w'.cell? ⟨gb193, 2, none⟩ = some (.int .i64 a0_2) ∧ w'.cell? ⟨gb193, 3, none⟩ = some (.string a0_3) ∧ w'.cell? ⟨gb193, 4, none⟩ = some (.slice A0_4 l0_4.length c0_4) ∧ w'.cell? ⟨gb193, 5, none⟩ = some (.slice (some ad217) l0_5.length c0_5) ∧ w'.cell? ⟨gb194, 0, none⟩ = some (.int .i64 a1_0) ∧ w'.cell? ⟨gb194, 1, none⟩ = some (.string a1_1) ∧ w'.cell? (ad217.add ((x7_1).toNat * 2)) = some (.int .i64 ((rd_T59 l0_5 x7_1).f0)) ∧ w'.cell? ⟨(ad217.add ((x7_1).toNat * 2)).block, (ad217.add ((x7_1).toNat * 2)).off + 1, none⟩ = some (.string ((rd_T59 l0_5 x7_1).f1))) (ds := []) bq_22 (by kernel_rfl) rfl rfl (bc6_ BK193.out (bc2_ BK194.out ⟨((HB.out.cell (World.block_lt_of_cell? w _ hw217_0)).trans hw217_0), ((HB.out.cell (World.block_lt_of_cell? w _ hw217_1)).trans hw217_1)⟩)) (fun hHeld => ?_); refine with_tabW spec_WithEntry.tab10 spec_WithEntry.bits10 (fun HT_ HW_ => ?_)
           generalize w47.drew = w48 at HO_207004 HO216 BK193 BK194 BK195 BK206 HB hx217_0 hx217_1 hHeld ⊢
           refine yq_ (i := 0) (N := some 38) bq_23 (any_of HT_.out (by kernel_rfl)) ?_
           refine yq_ (i := 2) (N := some 40) bq_24 (any_of HT_.out (by kernel_rfl)) ?_
           refine yq_ (i := 6) (N := some 44) bq_25 (any_of HT_.out (by kernel_rfl)) ?_
           refine tk_ (i := 1) (N := some 39) bq_26 (take_ofW HT_.out HW_.out (by kernel_rfl)) hHeld ?_
           refine yq_ (i := 3) (N := some 41) bq_27 (any_of HT_.out (by kernel_rfl)) ?_
           refine yq_ (i := 4) (N := some 42) bq_28 (any_of HT_.out (by kernel_rfl)) ?_
           refine tk_ (i := 5) (N := some 43) bq_29 (take_ofW HT_.out HW_.out (by kernel_rfl)) hHeld ?_
           refine tk_ (i := 7) (N := some 45) bq_30 (take_ofW HT_.out HW_.out (by kernel_rfl)) hHeld ?_
           refine yq_ (i := 8) (N := some 46) bq_31 (any_of HT_.out (by kernel_rfl)) ?_
           refine done_ (done_of HT_.out (by kernel_rfl)) ?_
           try go_wp2
           go_roundg kj22
           case measure => have := HK1.out; have := HJ22.out; omega
           case rel => exact ⟨(true), (wrap64 (x7_1 + 1)), (y214), (.slice Ao45 y214.length co45), tq_33, tq_33, H', ⟨(by have := HK1.out; have := HJ22.out; omega)⟩, ⟨tq_68⟩, ⟨tq_163⟩, ⟨tq_32⟩, ⟨tq_30⟩, ⟨tq_39⟩, ⟨tq_66⟩, ⟨tq_9⟩⟩
          ·rw [if_neg c36] at H
           have c36b0 : (((rd_T59 l0_5 x7_1).f1).toList == a1_1.toList) = false := beq_eq_false_iff_ne.mpr c36
           have c36b1 : (((rd_T59 l0_5 x7_1).f1).toList != a1_1.toList) = true := bne_iff_ne.mpr c36
           by_cases c49 : y214.length < 5864062014805
           ·rw [if_pos c49] at H
            have LMc49 := Aside0.mk c49
            clear c49
            obtain ⟨y219, hy219⟩ : ∃ y_ : List (S59), y_ = (y214 ++ [(⟨(rd_T59 l0_5 x7_1).f0, (rd_T59 l0_5 x7_1).f1⟩ : S59)]) := ⟨_, rfl⟩
            replace H : (spec_WithEntry.l0 kj22 true (wrap64 (x7_1 + 1)) a0_0 a0_1 a0_2 a0_3 l0_4 l0_5 a1_0 a1_1 t196 t197 t198 t199 t200 y219) = some (r1, r2, r3, r4, r5, r6) := by first | (rw [hy219]; with_reducible exact H) | (have H2_ := (Option.bind_some _ _).symm.trans H; rw [hy219]; with_reducible exact H2_) | (have H2_ := (Option.bind_some _ _).symm.trans H; with_reducible exact H2_) | with_reducible exact H | (rw [hy219]; exact H) | exact H
            have Ny219 := Aside0.mk hy219
            clear hy219
            have H' := Aside0.mk H
            clear H
            have hnb50 := NB206_193.out
            have hnc50 := NB193_206.out
            have hnb51 := NB206_194.out
            have hnc51 := NB194_206.out
            have hnb52 := NB206_195.out
            have hnc52 := NB195_206.out
            have hcz53_0 := bc_ BK206.out 0
            have hcz53_1 := bc_ BK206.out 1
            have hcz53_2 := bc_ BK206.out 2
            have hcz53_3 := bc_ BK206.out 3
            have hcz53_4 := bc_ BK206.out 4
            have hcz53_5 := bc_ BK206.out 5
            have hfz53_0 := blk_frozen BK206.out 0
            have hfz53_1 := blk_frozen BK206.out 1
            have hfz53_2 := blk_frozen BK206.out 2
            have hfz53_3 := blk_frozen BK206.out 3
            have hfz53_4 := blk_frozen BK206.out 4
            have hfz53_5 := blk_frozen BK206.out 5
            have hnb54 := NB194_193.out
            have hnc54 := NB193_194.out
            have hnb55 := NB194_195.out
            have hnc55 := NB195_194.out
            have hcz56_0 := bc_ BK194.out 0
            have hcz56_1 := bc_ BK194.out 1
            have hfz56_0 := blk_frozen BK194.out 0
            have hfz56_1 := blk_frozen BK194.out 1
            try go_wp2_with (first | ((with_reducible refine gate_builtin (b := .append) (xs := #[.tmp 33, .tmp 35]) rfl ?_); at_builtin; refine Kd.R_append k59 (w0 := w) w.heap.size rfl (.tmp 33) (.tmp 35) 47 59 (.agg #[(.int .i64 0), (.string ⟨#[]⟩)]) 24 rfl Try.underlying47 info59 rfl (by decide) (by omega) u207005 x207005_1 (⟨a1_0, a1_1⟩ : S59) [.int .i64 a1_0, .string a1_1] (fun k_ => k_ ≠ gb194) (fun _ => False) rfl rfl ?aP (fun _ hk => hk.elim) ?aF ?aO ?aB ?aS ?aL ?_; (case aP => exact k59_mkM _ _ _ (⟨a1_0, a1_1⟩ : S59)); (case aB => exact tq_9); (case aF => exact tq_120); (case aO => exact tq_55); (case aS => exact (below_size tq_9)); (case aL => have := LMc33.out; omega); intro v215 w57 ho hb hg hat; rw [← Ny214.out] at ho; have z_ := p_ (Kd.R_over' tq_68 (Kd.R_typed tq_55) (by decide) hg) <| p_ (blk_grown (g := gb193) (o := .cells #[.int .i64 a0_0, .int .i64 a0_1, .int .i64 a0_2, .string a0_3, .slice A0_4 l0_4.length c0_4, .slice A0_5 l0_5.length c0_5] 49 (0, 0)) tq_32 hg (Kd.R_ne HO_207005.out BK193.out (by decide))) <| p_ (blk_grown (g := gb194) (o := .cells #[.int .i64 a1_0, .string a1_1] 59 (0, 0)) tq_30 hg (Kd.R_away HO_207005.out (fun _ hk => hk))) <| p_ (blk_grown (g := gb195) (o := .cells #[.int .i64 0, .int .i64 0, .int .i64 0, .string (⟨#[]⟩ : ByteArray), .slice none 0 0, .slice none 0 0] 49 (0, 0)) tq_39 hg (Kd.R_ne HO_207005.out BK195.out (by decide))) <| p_ (blk_grown (g := gb206) (o := .cells #[.int .i64 t196, .int .i64 t197, .int .i64 t198, .string t199, .slice Ao16 t200.length co16, u207005] 49 (0, 0)) tq_66 hg (Kd.R_ne HO_207005.out BK206.out (by decide))) <| p_ (hb) <| a_ (ho); clear HO_207004 BK193 BK194 BK195 BK206 HB HO_207005; obtain ⟨HO_207004, BK193, BK194, BK195, BK206, HB, HO216⟩ := z_; clear ho hb hg hat; obtain ⟨Ao58, co58, eo58⟩ := Kd.R_slice HO216.out; subst eo58; have hcz59_0 := bc_ BK206.out 0; have hcz59_1 := bc_ BK206.out 1; have hcz59_2 := bc_ BK206.out 2; have hcz59_3 := bc_ BK206.out 3; have hcz59_4 := bc_ BK206.out 4; have hcz59_5 := bc_ BK206.out 5; have hfz59_0 := blk_frozen BK206.out 0; have hfz59_1 := blk_frozen BK206.out 1; have hfz59_2 := blk_frozen BK206.out 2; have hfz59_3 := blk_frozen BK206.out 3; have hfz59_4 := blk_frozen BK206.out 4; have hfz59_5 := blk_frozen BK206.out 5))
            have n0_ : Aside0 (Kd.R k170 170 (w57.setCell ⟨gb206, 5, none⟩ (.slice Ao58 y214.length co58)) w.heap.size (fun _ => True) (.slice Ao16 t200.length co16) t200) := ⟨(by (with_reducible repeat (first | apply Kd.R_alloc | apply Kd.R_drewN | apply Kd.R_drew)); exact Kd.R_mono (Kd.R_far (p := ⟨gb206, 5, none⟩) (Kd.R_types HO_207004.out BK206.out (by decide)) (fun _ hk => hk.2) (.slice Ao58 y214.length co58)) (fun _ hk => trivial))⟩
            have n1_ : Aside0 (Kd.R k59 59 (w57.setCell ⟨gb206, 5, none⟩ (.slice Ao58 y214.length co58)) w.heap.size (fun k_ => k_ ≠ gb194) (.slice Ao58 y214.length co58) y214) := ⟨(by (with_reducible repeat (first | apply Kd.R_alloc | apply Kd.R_drewN | apply Kd.R_drew)); exact Kd.R_mono (Kd.R_far (p := ⟨gb206, 5, none⟩) (Kd.R_types HO216.out BK206.out (by decide)) (fun _ hk => hk.2) (.slice Ao58 y214.length co58)) (fun _ hk => hk.1))⟩
            have n2_ : Aside0 ((w57.setCell ⟨gb206, 5, none⟩ (.slice Ao58 y214.length co58)).heap[gb193]? = some (.cells #[.int .i64 a0_0, .int .i64 a0_1, .int .i64 a0_2, .string a0_3, .slice A0_4 l0_4.length c0_4, .slice A0_5 l0_5.length c0_5] 49 (0, 0))) := ⟨tq_59⟩
            have n3_ : Aside0 ((w57.setCell ⟨gb206, 5, none⟩ (.slice Ao58 y214.length co58)).heap[gb194]? = some (.cells #[.int .i64 a1_0, .string a1_1] 59 (0, 0))) := ⟨tq_58⟩
            have n4_ : Aside0 ((w57.setCell ⟨gb206, 5, none⟩ (.slice Ao58 y214.length co58)).heap[gb195]? = some (.cells #[.int .i64 0, .int .i64 0, .int .i64 0, .string (⟨#[]⟩ : ByteArray), .slice none 0 0, .slice none 0 0] 49 (0, 0))) := ⟨tq_57⟩
            have n5_ : Aside0 ((w57.setCell ⟨gb206, 5, none⟩ (.slice Ao58 y214.length co58)).heap[gb206]? = some (.cells #[.int .i64 t196, .int .i64 t197, .int .i64 t198, .string t199, .slice Ao16 t200.length co16, .slice Ao58 y214.length co58] 49 (0, 0))) := ⟨tq_72⟩
            have n6_ : Aside0 (Below w.heap.size w (w57.setCell ⟨gb206, 5, none⟩ (.slice Ao58 y214.length co58))) := ⟨tq_9⟩
            (try clear HO_207004)
            (try clear HO216)
            (try clear BK193)
            (try clear BK194)
            (try clear BK195)
            (try clear BK206)
            (try clear HB)
            generalize (w57.setCell ⟨gb206, 5, none⟩ (.slice Ao58 y214.length co58)) = w60 at n0_ n1_ n2_ n3_ n4_ n5_ n6_ ⊢
            have HO_207004 := n0_
            have HO216 := n1_
            have BK193 := n2_
            have BK194 := n3_
            have BK195 := n4_
            have BK206 := n5_
            have HB := n6_
            clear n0_ n1_ n2_ n3_ n4_ n5_ n6_
            have z_ := p_ (Kd.R_drew HO_207004.out) <| p_ (Kd.R_drew HO216.out) <| p_ (blk_drew BK193.out) <| p_ (blk_drew BK194.out) <| p_ (blk_drew BK195.out) <| p_ (blk_drew BK206.out) <| a_ (below_drew1 HB.out)
            clear HO_207004 HO216 BK193 BK194 BK195 BK206 HB
            obtain ⟨HO_207004, HO216, BK193, BK194, BK195, BK206, HB⟩ := z_
            have p217 : 0 ≤ (x7_1 : Int) := of_decide_eq_true tq_11
            have q217 : x7_1 < (l0_5.length : Int) := of_decide_eq_true tq_11
            obtain ⟨ad217, e217, hx217_0, hx217_1⟩ := at_T59 HR0_5.out x7_1 p217 q217
            have hw217_1 := hx217_1
            have hw217_0 := hx217_0
            cases e217
            replace hx217_0 := hx_ HB.out hx217_0
            replace hx217_1 := hx_ HB.out hx217_1
            replace p217 := eq_true p217
            replace q217 := eq_true q217
            refine start_ (n := 9) (S := fun w' => w'.cell? ⟨gb193, 0, none⟩ = some (.int .i64 a0_0) ∧ w'.cell? ⟨gb193, 1, none⟩ = some (.int .i64 a0_1) ∧ w'.cell? ⟨gb193, 2, none⟩ = some (.int .i64 a0_2) ∧ w'.cell? ⟨gb193, 3, none⟩ = some (.string a0_3) ∧ w'.cell? ⟨gb193, 4, none⟩ = some (.slice A0_4 l0_4.length c0_4) ∧ w'.cell? ⟨gb193, 5, none⟩ = some (.slice (some ad217) l0_5.length c0_5) ∧ w'.cell? ⟨gb194, 0, none⟩ = some (.int .i64 a1_0) ∧ w'.cell? ⟨gb194, 1, none⟩ = some (.string a1_1) ∧ w'.cell? (ad217.add ((x7_1).toNat * 2)) = some (.int .i64 ((rd_T59 l0_5 x7_1).f0)) ∧ w'.cell? ⟨(ad217.add ((x7_1).toNat * 2)).block, (ad217.add ((x7_1).toNat * 2)).off + 1, none⟩ = some (.string ((rd_T59 l0_5 x7_1).f1))) (ds := []) bq_22 (by kernel_rfl) rfl rfl (bc6_ BK193.out (bc2_ BK194.out ⟨((HB.out.cell (World.block_lt_of_cell? w _ hw217_0)).trans hw217_0), ((HB.out.cell (World.block_lt_of_cell? w _ hw217_1)).trans hw217_1)⟩)) (fun hHeld => ?_); refine with_tabW spec_WithEntry.tab10 spec_WithEntry.bits10 (fun HT_ HW_ => ?_)
            generalize w60.drew = w61 at HO_207004 HO216 BK193 BK194 BK195 BK206 HB hx217_0 hx217_1 hHeld ⊢
            refine yq_ (i := 0) (N := some 38) bq_23 (any_of HT_.out (by kernel_rfl)) ?_
            refine yq_ (i := 2) (N := some 40) bq_24 (any_of HT_.out (by kernel_rfl)) ?_
            refine yq_ (i := 6) (N := some 44) bq_25 (any_of HT_.out (by kernel_rfl)) ?_
            refine tk_ (i := 1) (N := some 39) bq_26 (take_ofW HT_.out HW_.out (by kernel_rfl)) hHeld ?_
            refine yq_ (i := 3) (N := some 41) bq_27 (any_of HT_.out (by kernel_rfl)) ?_
            refine yq_ (i := 4) (N := some 42) bq_28 (any_of HT_.out (by kernel_rfl)) ?_
            refine tk_ (i := 5) (N := some 43) bq_29 (take_ofW HT_.out HW_.out (by kernel_rfl)) hHeld ?_
            refine tk_ (i := 7) (N := some 45) bq_30 (take_ofW HT_.out HW_.out (by kernel_rfl)) hHeld ?_
            refine yq_ (i := 8) (N := some 46) bq_31 (any_of HT_.out (by kernel_rfl)) ?_
            refine done_ (done_of HT_.out (by kernel_rfl)) ?_
            try go_wp2
            have z_ := p_ (Kd.R_drew HO_207004.out) <| p_ (Kd.R_drew HO216.out) <| p_ (blk_drew BK193.out) <| p_ (blk_drew BK194.out) <| p_ (blk_drew BK195.out) <| p_ (blk_drew BK206.out) <| a_ (below_drew1 HB.out)
            clear HO_207004 HO216 BK193 BK194 BK195 BK206 HB
            obtain ⟨HO_207004, HO216, BK193, BK194, BK195, BK206, HB⟩ := z_
            have p218 : 0 ≤ (x7_1 : Int) := of_decide_eq_true tq_11
            have q218 : x7_1 < (l0_5.length : Int) := of_decide_eq_true tq_11
            obtain ⟨ad218, e218, hx218_0, hx218_1⟩ := at_T59 HR0_5.out x7_1 p218 q218
            have hw218_1 := hx218_1
            have hw218_0 := hx218_0
            obtain rfl : ad217 = ad218 := (by injection e218)
            replace hx218_0 := hx_ HB.out hx218_0
            replace hx218_1 := hx_ HB.out hx218_1
            replace p218 := eq_true p218
            replace q218 := eq_true q218
            refine start_ (n := 11) (S := fun w' => w'.cell? ⟨gb206, 0, none⟩ = some (.int .i64 t196) ∧ w'.cell? ⟨gb206, 1, none⟩ = some (.int .i64 t197) ∧ w'.cell? ⟨gb206, 2, none⟩ = some (.int .i64 t198) ∧ w'.cell? ⟨gb206, 3, none⟩ = some (.string t199) ∧ w'.cell? ⟨gb206, 4, none⟩ = some (.slice Ao16 t200.length co16) ∧ w'.cell? ⟨gb206, 5, none⟩ = some (.slice Ao58 y214.length co58) ∧ w'.cell? ⟨gb193, 0, none⟩ = some (.int .i64 a0_0) ∧ w'.cell? ⟨gb193, 1, none⟩ = some (.int .i64 a0_1) ∧ w'.cell? ⟨gb193, 2, none⟩ = some (.int .i64 a0_2) ∧ w'.cell? ⟨gb193, 3, none⟩ = some (.string a0_3) ∧ w'.cell? ⟨gb193, 4, none⟩ = some (.slice A0_4 l0_4.length c0_4) ∧ w'.cell? ⟨gb193, 5, none⟩ = some (.slice (some ad217) l0_5.length c0_5) ∧ w'.cell? (ad217.add ((x7_1).toNat * 2)) = some (.int .i64 ((rd_T59 l0_5 x7_1).f0)) ∧ w'.cell? ⟨(ad217.add ((x7_1).toNat * 2)).block, (ad217.add ((x7_1).toNat * 2)).off + 1, none⟩ = some (.string ((rd_T59 l0_5 x7_1).f1))) (ds := [10]) bq_43 (by kernel_rfl) rfl rfl (bc6_ BK206.out (bc6_ BK193.out ⟨((HB.out.cell (World.block_lt_of_cell? w _ hw218_0)).trans hw218_0), ((HB.out.cell (World.block_lt_of_cell? w _ hw218_1)).trans hw218_1)⟩)) (fun hHeld => ?_); refine with_tabW spec_WithEntry.tab11 spec_WithEntry.bits11 (fun HT_ HW_ => ?_)
            generalize w61.drew = w62 at HO_207004 HO216 BK193 BK194 BK195 BK206 HB hx218_0 hx218_1 hHeld ⊢
            refine yq_ (i := 0) (N := some 47) bq_44 (any_of HT_.out (by kernel_rfl)) ?_
            refine yq_ (i := 2) (N := some 49) bq_45 (any_of HT_.out (by kernel_rfl)) ?_
            refine yq_ (i := 4) (N := some 51) bq_46 (any_of HT_.out (by kernel_rfl)) ?_
            refine tk_ (i := 1) (N := some 48) bq_47 (take_ofW HT_.out HW_.out (by kernel_rfl)) hHeld ?_
            refine tk_ (i := 3) (N := some 50) bq_48 (take_ofW HT_.out HW_.out (by kernel_rfl)) hHeld ?_
            refine yq_ (i := 5) (N := some 52) bq_49 (any_of HT_.out (by kernel_rfl)) ?_
            refine tk_ (i := 6) (N := some 53) bq_50 (take_ofW HT_.out HW_.out (by kernel_rfl)) hHeld ?_
            refine one_ (i := 7) (N := some 54) bq_51 rfl rfl (one_of HT_.out (by kernel_rfl)) (by decide) (fun K hK => ?_)
            refine value_ (w1 := ?_) (v := ?_) (by rfl) rfl ?_ ?_
            rotate_left 2
            ·go_simp
             constructor
             ·rfl
             ·rfl
            refine hK.out _ _ ⟨(blk_cell (blk_alloc BK206.out _) 0).trans rfl, (blk_cell (blk_alloc BK206.out _) 1).trans rfl, (blk_cell (blk_alloc BK206.out _) 2).trans rfl, (blk_cell (blk_alloc BK206.out _) 3).trans rfl, (blk_cell (blk_alloc BK206.out _) 4).trans rfl, (blk_cell (blk_alloc BK206.out _) 5).trans rfl, (blk_cell (blk_alloc BK193.out _) 0).trans rfl, (blk_cell (blk_alloc BK193.out _) 1).trans rfl, (blk_cell (blk_alloc BK193.out _) 2).trans rfl, (blk_cell (blk_alloc BK193.out _) 3).trans rfl, (blk_cell (blk_alloc BK193.out _) 4).trans rfl, (blk_cell (blk_alloc BK193.out _) 5).trans rfl, (World.cell?_alloc_lt _ _ _ (World.block_lt_of_cell? _ _ (((HB.out.cell (World.block_lt_of_cell? w _ hw218_0)).trans hw218_0)))).trans (((HB.out.cell (World.block_lt_of_cell? w _ hw218_0)).trans hw218_0)), (World.cell?_alloc_lt _ _ _ (World.block_lt_of_cell? _ _ (((HB.out.cell (World.block_lt_of_cell? w _ hw218_1)).trans hw218_1)))).trans (((HB.out.cell (World.block_lt_of_cell? w _ hw218_1)).trans hw218_1))⟩ (fun hHeld => ?_)
            clear hK K
            refine nm_ (some 54) ?_
            refine one_ (i := 8) (N := some 55) bq_52 rfl rfl (one_of HT_.out (by kernel_rfl)) (by decide) (fun K hK => ?_)
            refine Kd.R_append_step k59 (w0 := w) w.heap.size (by rfl) (.tmp 48) (.tmp 54) 47 59 (.agg #[(.int .i64 0), (.string ⟨#[]⟩)]) 24 rfl Try.underlying47 info59 rfl (by decide) (by omega) (.slice Ao58 y214.length co58) y214 (⟨(rd_T59 l0_5 x7_1).f0, (rd_T59 l0_5 x7_1).f1⟩ : S59) [.int .i64 ((rd_T59 l0_5 x7_1).f0), .string ((rd_T59 l0_5 x7_1).f1)] (fun k_ => k_ ≠ gb194) (fun _ => False) rfl rfl ?aP (fun _ hk => hk.elim) ?aF ?aO ?aB ?aS ?aL ?_
            (case aP => exact k59_mkM _ _ _ (⟨(rd_T59 l0_5 x7_1).f0, (rd_T59 l0_5 x7_1).f1⟩ : S59))
            (case aB => exact tq_9)
            (case aF => exact tq_120)
            (case aO => exact tq_163)
            (case aS => exact (below_size tq_9))
            (case aL => have := LMc49.out; omega)
            intro v220 w63 ho hb hg hat
            rw [← Ny219.out] at ho
            have z_ := p_ (Kd.R_over' tq_68 (Kd.R_typed tq_163) (by decide) hg) <| p_ (blk_grown (g := gb193) (o := .cells #[.int .i64 a0_0, .int .i64 a0_1, .int .i64 a0_2, .string a0_3, .slice A0_4 l0_4.length c0_4, .slice (some ad217) l0_5.length c0_5] 49 (0, 0)) tq_32 hg (Kd.R_ne HO216.out BK193.out (by decide))) <| p_ (blk_grown (g := gb194) (o := .cells #[.int .i64 a1_0, .string a1_1] 59 (0, 0)) tq_30 hg (Kd.R_away HO216.out (fun _ hk => hk))) <| p_ (blk_grown (g := gb195) (o := .cells #[.int .i64 0, .int .i64 0, .int .i64 0, .string (⟨#[]⟩ : ByteArray), .slice none 0 0, .slice none 0 0] 49 (0, 0)) tq_39 hg (Kd.R_ne HO216.out BK195.out (by decide))) <| p_ (blk_grown (g := gb206) (o := .cells #[.int .i64 t196, .int .i64 t197, .int .i64 t198, .string t199, .slice Ao16 t200.length co16, .slice Ao58 y214.length co58] 49 (0, 0)) tq_66 hg (Kd.R_ne HO216.out BK206.out (by decide))) <| p_ (hb) <| a_ (ho)
            clear HO_207004 BK193 BK194 BK195 BK206 HB HO216
            obtain ⟨HO_207004, BK193, BK194, BK195, BK206, HB, HO221⟩ := z_
            clear ho hb hg hat
            obtain ⟨Ao64, co64, eo64⟩ := Kd.R_slice HO221.out
            (first | subst eo64 | (injection eo64 with f1_ f2_ f3_; have f4_ := f1_.symm; have f5_ := f3_.symm; clear f1_ f2_ f3_; subst f4_; subst f5_))
            refine hK.out _ _ (bc6_ BK206.out (bc6_ BK193.out ⟨((HB.out.cell (World.block_lt_of_cell? w _ hw218_0)).trans hw218_0), ((HB.out.cell (World.block_lt_of_cell? w _ hw218_1)).trans hw218_1)⟩)) (fun hHeld => ?_)
            clear hK K
            refine nm_ (some 55) ?_
            refine yq_ (i := 9) (N := some 56) bq_53 (any_of HT_.out (by kernel_rfl)) ?_
            refine last_ (i := 10) (N := none) bq_54 rfl rfl (one_of HT_.out (by kernel_rfl)) (by decide) (fun K hK => ?_)
            have hs65 : w63.cell? ⟨gb206, 5, none⟩ = some (.slice Ao58 y214.length co58) := (blk_cell BK206.out 5).trans rfl
            have hfs65 := blk_frozen BK206.out 5
            have hns65_0 := NB193_206.out
            have hns65_1 := NB194_206.out
            have hns65_2 := NB195_206.out
            have hms65_0 := NB206_193.out
            have hms65_1 := NB206_194.out
            have hms65_2 := NB206_195.out
            refine skip_ (w1 := ?_) (by rfl) rfl ?_ ?_
            rotate_left
            ·go_simp
             rfl
            refine hK.out _ _ ?_
            clear hK K
            refine done_ (done_of HT_.out (by kernel_rfl)) ?_
            try go_wp2
            go_roundg kj22
            case measure => have := HK1.out; have := HJ22.out; omega
            case rel => exact ⟨(true), (wrap64 (x7_1 + 1)), (y219), (.slice Ao64 y219.length co64), tq_33, tq_33, H', ⟨(by have := HK1.out; have := HJ22.out; omega)⟩, ⟨(by (with_reducible repeat (first | apply Kd.R_alloc | apply Kd.R_drewN | apply Kd.R_drew)); exact Kd.R_mono (Kd.R_far (p := ⟨gb206, 5, none⟩) (Kd.R_types HO_207004.out BK206.out (by decide)) (fun _ hk => hk.2) (.slice Ao64 y219.length co64)) (fun _ hk => trivial))⟩, ⟨(by (with_reducible repeat (first | apply Kd.R_alloc | apply Kd.R_drewN | apply Kd.R_drew)); exact Kd.R_mono (Kd.R_far (p := ⟨gb206, 5, none⟩) (Kd.R_types HO221.out BK206.out (by decide)) (fun _ hk => hk.2) (.slice Ao64 y219.length co64)) (fun _ hk => hk.1))⟩, ⟨tq_59⟩, ⟨tq_58⟩, ⟨tq_57⟩, ⟨(by (with_reducible repeat (first | refine blk_drewN ?_ _ | refine blk_drew ?_ | refine blk_alloc ?_ _)); refine blk_put (cs := #[.int .i64 t196, .int .i64 t197, .int .i64 t198, .string t199, .slice Ao16 t200.length co16, .slice Ao58 y214.length co58]) ?_ 5 _ rfl; (with_reducible repeat (first | refine blk_drewN ?_ _ | refine blk_drew ?_ | refine blk_alloc ?_ _)); exact BK206.out)⟩, ⟨tq_9⟩⟩
           ·rw [if_neg c49] at H
            exact absurd H (by simp)
         ·rw [if_neg c35] at H
          exact absurd H (by simp)
        ·rw [if_neg c34] at H
         exact absurd H (by simp)
       ·rw [if_neg c33] at H
        exact absurd H (by simp)
      ·replace c32 := Bool.eq_false_iff.mpr c32
       subst c32
       have H1 : (if 0 ≤ x7_1 then (if x7_1 < (l0_5.length : Int) then (if ((rd_T59 l0_5 x7_1).f1).toList = a1_1.toList then (spec_WithEntry.l0 kj22 x6_1 (wrap64 (x7_1 + 1)) a0_0 a0_1 a0_2 a0_3 l0_4 l0_5 a1_0 a1_1 t196 t197 t198 t199 t200 x207005_1) else (if x207005_1.length < 5864062014805 then (spec_WithEntry.l0 kj22 x6_1 (wrap64 (x7_1 + 1)) a0_0 a0_1 a0_2 a0_3 l0_4 l0_5 a1_0 a1_1 t196 t197 t198 t199 t200 (x207005_1 ++ [(⟨(rd_T59 l0_5 x7_1).f0, (rd_T59 l0_5 x7_1).f1⟩ : S59)])) else (none))) else (none)) else (none)) = some (r1, r2, r3, r4, r5, r6) := by rw [if_neg (show ¬ (false = true) by decide)] at H; exact H
       clear H
       have H := H1
       clear H1
       by_cases c66 : 0 ≤ x7_1
       ·rw [if_pos c66] at H
        have c66b0 : decide (0 ≤ x7_1) = true := decide_eq_true c66
        clear c66
        by_cases c67 : x7_1 < (l0_5.length : Int)
        ·rw [if_pos c67] at H
         have c67b0 : decide (x7_1 < (l0_5.length : Int)) = true := decide_eq_true c67
         clear c67
         by_cases c68 : ((rd_T59 l0_5 x7_1).f1).toList = a1_1.toList
         ·rw [if_pos c68] at H
          have c68b0 : (((rd_T59 l0_5 x7_1).f1).toList == a1_1.toList) = true := beq_iff_eq.mpr c68
          have c68b1 : (((rd_T59 l0_5 x7_1).f1).toList != a1_1.toList) = false := bne_eq_false_iff_eq.mpr c68
          clear c68
          have H' := Aside0.mk H
          clear H
          try go_wp2
          have z_ := p_ (Kd.R_drew HO_207004.out) <| p_ (Kd.R_drew HO_207005.out) <| p_ (blk_drew BK193.out) <| p_ (blk_drew BK194.out) <| p_ (blk_drew BK195.out) <| p_ (blk_drew BK206.out) <| a_ (below_drew1 HB.out)
          clear HO_207004 HO_207005 BK193 BK194 BK195 BK206 HB
          obtain ⟨HO_207004, HO_207005, BK193, BK194, BK195, BK206, HB⟩ := z_
          have p222 : 0 ≤ (x7_1 : Int) := of_decide_eq_true tq_11
          have q222 : x7_1 < (l0_5.length : Int) := of_decide_eq_true tq_11
          obtain ⟨ad222, e222, hx222_0, hx222_1⟩ := at_T59 HR0_5.out x7_1 p222 q222
          have hw222_1 := hx222_1
          have hw222_0 := hx222_0
          cases e222
          replace hx222_0 := hx_ HB.out hx222_0
          replace hx222_1 := hx_ HB.out hx222_1
          replace p222 := eq_true p222
          replace q222 := eq_true q222
          refine start_ (n := 9) (S := fun w' => w'.cell? ⟨gb193, 0, none⟩ = some (.int .i64 a0_0) ∧ w'.cell? ⟨gb193, 1, none⟩ = some (.int .i64 a0_1) ∧ w'.cell? ⟨gb193, 2, none⟩ = some (.int .i64 a0_2) ∧ w'.cell? ⟨gb193, 3, none⟩ = some (.string a0_3) ∧ w'.cell? ⟨gb193, 4, none⟩ = some (.slice A0_4 l0_4.length c0_4) ∧ w'.cell? ⟨gb193, 5, none⟩ = some (.slice (some ad222) l0_5.length c0_5) ∧ w'.cell? ⟨gb194, 0, none⟩ = some (.int .i64 a1_0) ∧ w'.cell? ⟨gb194, 1, none⟩ = some (.string a1_1) ∧ w'.cell? (ad222.add ((x7_1).toNat * 2)) = some (.int .i64 ((rd_T59 l0_5 x7_1).f0)) ∧ w'.cell? ⟨(ad222.add ((x7_1).toNat * 2)).block, (ad222.add ((x7_1).toNat * 2)).off + 1, none⟩ = some (.string ((rd_T59 l0_5 x7_1).f1))) (ds := []) bq_22 (by kernel_rfl) rfl rfl (bc6_ BK193.out (bc2_ BK194.out ⟨((HB.out.cell (World.block_lt_of_cell? w _ hw222_0)).trans hw222_0), ((HB.out.cell (World.block_lt_of_cell? w _ hw222_1)).trans hw222_1)⟩)) (fun hHeld => ?_); refine with_tabW spec_WithEntry.tab10 spec_WithEntry.bits10 (fun HT_ HW_ => ?_)
          generalize wc.drew = w69 at HO_207004 HO_207005 BK193 BK194 BK195 BK206 HB hx222_0 hx222_1 hHeld ⊢
          refine yq_ (i := 0) (N := some 38) bq_23 (any_of HT_.out (by kernel_rfl)) ?_
          refine yq_ (i := 2) (N := some 40) bq_24 (any_of HT_.out (by kernel_rfl)) ?_
          refine yq_ (i := 6) (N := some 44) bq_25 (any_of HT_.out (by kernel_rfl)) ?_
          refine tk_ (i := 1) (N := some 39) bq_26 (take_ofW HT_.out HW_.out (by kernel_rfl)) hHeld ?_
          refine yq_ (i := 3) (N := some 41) bq_27 (any_of HT_.out (by kernel_rfl)) ?_
          refine yq_ (i := 4) (N := some 42) bq_28 (any_of HT_.out (by kernel_rfl)) ?_
          refine tk_ (i := 5) (N := some 43) bq_29 (take_ofW HT_.out HW_.out (by kernel_rfl)) hHeld ?_
          refine tk_ (i := 7) (N := some 45) bq_30 (take_ofW HT_.out HW_.out (by kernel_rfl)) hHeld ?_
          refine yq_ (i := 8) (N := some 46) bq_31 (any_of HT_.out (by kernel_rfl)) ?_
          refine done_ (done_of HT_.out (by kernel_rfl)) ?_
          try go_wp2
          go_roundg kj22
          case measure => have := HK1.out; have := HJ22.out; omega
          case rel => exact ⟨(x6_1), (wrap64 (x7_1 + 1)), (x207005_1), (u207005), tq_33, tq_33, H', ⟨(by have := HK1.out; have := HJ22.out; omega)⟩, ⟨tq_68⟩, ⟨tq_55⟩, ⟨tq_32⟩, ⟨tq_30⟩, ⟨tq_39⟩, ⟨tq_66⟩, ⟨tq_9⟩⟩
         ·rw [if_neg c68] at H
          have c68b0 : (((rd_T59 l0_5 x7_1).f1).toList == a1_1.toList) = false := beq_eq_false_iff_ne.mpr c68
          have c68b1 : (((rd_T59 l0_5 x7_1).f1).toList != a1_1.toList) = true := bne_iff_ne.mpr c68
          by_cases c70 : x207005_1.length < 5864062014805
          ·rw [if_pos c70] at H
           have LMc70 := Aside0.mk c70
           clear c70
           obtain ⟨y224, hy224⟩ : ∃ y_ : List (S59), y_ = (x207005_1 ++ [(⟨(rd_T59 l0_5 x7_1).f0, (rd_T59 l0_5 x7_1).f1⟩ : S59)]) := ⟨_, rfl⟩
           replace H : (spec_WithEntry.l0 kj22 x6_1 (wrap64 (x7_1 + 1)) a0_0 a0_1 a0_2 a0_3 l0_4 l0_5 a1_0 a1_1 t196 t197 t198 t199 t200 y224) = some (r1, r2, r3, r4, r5, r6) := by first | (rw [hy224]; with_reducible exact H) | (have H2_ := (Option.bind_some _ _).symm.trans H; rw [hy224]; with_reducible exact H2_) | (have H2_ := (Option.bind_some _ _).symm.trans H; with_reducible exact H2_) | with_reducible exact H | (rw [hy224]; exact H) | exact H
           have Ny224 := Aside0.mk hy224
           clear hy224
           have H' := Aside0.mk H
           clear H
           try go_wp2
           have z_ := p_ (Kd.R_drew HO_207004.out) <| p_ (Kd.R_drew HO_207005.out) <| p_ (blk_drew BK193.out) <| p_ (blk_drew BK194.out) <| p_ (blk_drew BK195.out) <| p_ (blk_drew BK206.out) <| a_ (below_drew1 HB.out)
           clear HO_207004 HO_207005 BK193 BK194 BK195 BK206 HB
           obtain ⟨HO_207004, HO_207005, BK193, BK194, BK195, BK206, HB⟩ := z_
           have p222 : 0 ≤ (x7_1 : Int) := of_decide_eq_true tq_11
           have q222 : x7_1 < (l0_5.length : Int) := of_decide_eq_true tq_11
           obtain ⟨ad222, e222, hx222_0, hx222_1⟩ := at_T59 HR0_5.out x7_1 p222 q222
           have hw222_1 := hx222_1
           have hw222_0 := hx222_0
           cases e222
           replace hx222_0 := hx_ HB.out hx222_0
           replace hx222_1 := hx_ HB.out hx222_1
           replace p222 := eq_true p222
           replace q222 := eq_true q222
           refine start_ (n := 9) (S := fun w' => w'.cell? ⟨gb193, 0, none⟩ = some (.int .i64 a0_0) ∧ w'.cell? ⟨gb193, 1, none⟩ = some (.int .i64 a0_1) ∧ w'.cell? ⟨gb193, 2, none⟩ = some (.int .i64 a0_2) ∧ w'.cell? ⟨gb193, 3, none⟩ = some (.string a0_3) ∧ w'.cell? ⟨gb193, 4, none⟩ = some (.slice A0_4 l0_4.length c0_4) ∧ w'.cell? ⟨gb193, 5, none⟩ = some (.slice (some ad222) l0_5.length c0_5) ∧ w'.cell? ⟨gb194, 0, none⟩ = some (.int .i64 a1_0) ∧ w'.cell? ⟨gb194, 1, none⟩ = some (.string a1_1) ∧ w'.cell? (ad222.add ((x7_1).toNat * 2)) = some (.int .i64 ((rd_T59 l0_5 x7_1).f0)) ∧ w'.cell? ⟨(ad222.add ((x7_1).toNat * 2)).block, (ad222.add ((x7_1).toNat * 2)).off + 1, none⟩ = some (.string ((rd_T59 l0_5 x7_1).f1))) (ds := []) bq_22 (by kernel_rfl) rfl rfl (bc6_ BK193.out (bc2_ BK194.out ⟨((HB.out.cell (World.block_lt_of_cell? w _ hw222_0)).trans hw222_0), ((HB.out.cell (World.block_lt_of_cell? w _ hw222_1)).trans hw222_1)⟩)) (fun hHeld => ?_); refine with_tabW spec_WithEntry.tab10 spec_WithEntry.bits10 (fun HT_ HW_ => ?_)
           generalize wc.drew = w71 at HO_207004 HO_207005 BK193 BK194 BK195 BK206 HB hx222_0 hx222_1 hHeld ⊢
           refine yq_ (i := 0) (N := some 38) bq_23 (any_of HT_.out (by kernel_rfl)) ?_
           refine yq_ (i := 2) (N := some 40) bq_24 (any_of HT_.out (by kernel_rfl)) ?_
           refine yq_ (i := 6) (N := some 44) bq_25 (any_of HT_.out (by kernel_rfl)) ?_
           refine tk_ (i := 1) (N := some 39) bq_26 (take_ofW HT_.out HW_.out (by kernel_rfl)) hHeld ?_
           refine yq_ (i := 3) (N := some 41) bq_27 (any_of HT_.out (by kernel_rfl)) ?_
           refine yq_ (i := 4) (N := some 42) bq_28 (any_of HT_.out (by kernel_rfl)) ?_
           refine tk_ (i := 5) (N := some 43) bq_29 (take_ofW HT_.out HW_.out (by kernel_rfl)) hHeld ?_
           refine tk_ (i := 7) (N := some 45) bq_30 (take_ofW HT_.out HW_.out (by kernel_rfl)) hHeld ?_
           refine yq_ (i := 8) (N := some 46) bq_31 (any_of HT_.out (by kernel_rfl)) ?_
           refine done_ (done_of HT_.out (by kernel_rfl)) ?_
           try go_wp2
           have z_ := p_ (Kd.R_drew HO_207004.out) <| p_ (Kd.R_drew HO_207005.out) <| p_ (blk_drew BK193.out) <| p_ (blk_drew BK194.out) <| p_ (blk_drew BK195.out) <| p_ (blk_drew BK206.out) <| a_ (below_drew1 HB.out)
           clear HO_207004 HO_207005 BK193 BK194 BK195 BK206 HB
           obtain ⟨HO_207004, HO_207005, BK193, BK194, BK195, BK206, HB⟩ := z_
           have p223 : 0 ≤ (x7_1 : Int) := of_decide_eq_true tq_11
           have q223 : x7_1 < (l0_5.length : Int) := of_decide_eq_true tq_11
           obtain ⟨ad223, e223, hx223_0, hx223_1⟩ := at_T59 HR0_5.out x7_1 p223 q223
           have hw223_1 := hx223_1
           have hw223_0 := hx223_0
           obtain rfl : ad222 = ad223 := (by injection e223)
           replace hx223_0 := hx_ HB.out hx223_0
           replace hx223_1 := hx_ HB.out hx223_1
           replace p223 := eq_true p223
           replace q223 := eq_true q223
           refine start_ (n := 11) (S := fun w' => w'.cell? ⟨gb206, 0, none⟩ = some (.int .i64 t196) ∧ w'.cell? ⟨gb206, 1, none⟩ = some (.int .i64 t197) ∧ w'.cell? ⟨gb206, 2, none⟩ = some (.int .i64 t198) ∧ w'.cell? ⟨gb206, 3, none⟩ = some (.string t199) ∧ w'.cell? ⟨gb206, 4, none⟩ = some (.slice Ao16 t200.length co16) ∧ w'.cell? ⟨gb206, 5, none⟩ = some (u207005) ∧ w'.cell? ⟨gb193, 0, none⟩ = some (.int .i64 a0_0) ∧ w'.cell? ⟨gb193, 1, none⟩ = some (.int .i64 a0_1) ∧ w'.cell? ⟨gb193, 2, none⟩ = some (.int .i64 a0_2) ∧ w'.cell? ⟨gb193, 3, none⟩ = some (.string a0_3) ∧ w'.cell? ⟨gb193, 4, none⟩ = some (.slice A0_4 l0_4.length c0_4) ∧ w'.cell? ⟨gb193, 5, none⟩ = some (.slice (some ad222) l0_5.length c0_5) ∧ w'.cell? (ad222.add ((x7_1).toNat * 2)) = some (.int .i64 ((rd_T59 l0_5 x7_1).f0)) ∧ w'.cell? ⟨(ad222.add ((x7_1).toNat * 2)).block, (ad222.add ((x7_1).toNat * 2)).off + 1, none⟩ = some (.string ((rd_T59 l0_5 x7_1).f1))) (ds := [10]) bq_43 (by kernel_rfl) rfl rfl (bc6_ BK206.out (bc6_ BK193.out ⟨((HB.out.cell (World.block_lt_of_cell? w _ hw223_0)).trans hw223_0), ((HB.out.cell (World.block_lt_of_cell? w _ hw223_1)).trans hw223_1)⟩)) (fun hHeld => ?_); refine with_tabW spec_WithEntry.tab11 spec_WithEntry.bits11 (fun HT_ HW_ => ?_)
           generalize w71.drew = w72 at HO_207004 HO_207005 BK193 BK194 BK195 BK206 HB hx223_0 hx223_1 hHeld ⊢
           refine yq_ (i := 0) (N := some 47) bq_44 (any_of HT_.out (by kernel_rfl)) ?_
           refine yq_ (i := 2) (N := some 49) bq_45 (any_of HT_.out (by kernel_rfl)) ?_
           refine yq_ (i := 4) (N := some 51) bq_46 (any_of HT_.out (by kernel_rfl)) ?_
           refine tk_ (i := 1) (N := some 48) bq_47 (take_ofW HT_.out HW_.out (by kernel_rfl)) hHeld ?_
           refine tk_ (i := 3) (N := some 50) bq_48 (take_ofW HT_.out HW_.out (by kernel_rfl)) hHeld ?_
           refine yq_ (i := 5) (N := some 52) bq_49 (any_of HT_.out (by kernel_rfl)) ?_
           refine tk_ (i := 6) (N := some 53) bq_50 (take_ofW HT_.out HW_.out (by kernel_rfl)) hHeld ?_
           refine one_ (i := 7) (N := some 54) bq_51 rfl rfl (one_of HT_.out (by kernel_rfl)) (by decide) (fun K hK => ?_)
           refine value_ (w1 := ?_) (v := ?_) (by rfl) rfl ?_ ?_
           rotate_left 2
           ·go_simp
            constructor
            ·rfl
            ·rfl
           refine hK.out _ _ ⟨(blk_cell (blk_alloc BK206.out _) 0).trans rfl, (blk_cell (blk_alloc BK206.out _) 1).trans rfl, (blk_cell (blk_alloc BK206.out _) 2).trans rfl, (blk_cell (blk_alloc BK206.out _) 3).trans rfl, (blk_cell (blk_alloc BK206.out _) 4).trans rfl, (blk_cell (blk_alloc BK206.out _) 5).trans rfl, (blk_cell (blk_alloc BK193.out _) 0).trans rfl, (blk_cell (blk_alloc BK193.out _) 1).trans rfl, (blk_cell (blk_alloc BK193.out _) 2).trans rfl, (blk_cell (blk_alloc BK193.out _) 3).trans rfl, (blk_cell (blk_alloc BK193.out _) 4).trans rfl, (blk_cell (blk_alloc BK193.out _) 5).trans rfl, (World.cell?_alloc_lt _ _ _ (World.block_lt_of_cell? _ _ (((HB.out.cell (World.block_lt_of_cell? w _ hw223_0)).trans hw223_0)))).trans (((HB.out.cell (World.block_lt_of_cell? w _ hw223_0)).trans hw223_0)), (World.cell?_alloc_lt _ _ _ (World.block_lt_of_cell? _ _ (((HB.out.cell (World.block_lt_of_cell? w _ hw223_1)).trans hw223_1)))).trans (((HB.out.cell (World.block_lt_of_cell? w _ hw223_1)).trans hw223_1))⟩ (fun hHeld => ?_)
           clear hK K
           refine nm_ (some 54) ?_
           refine one_ (i := 8) (N := some 55) bq_52 rfl rfl (one_of HT_.out (by kernel_rfl)) (by decide) (fun K hK => ?_)
           refine Kd.R_append_step k59 (w0 := w) w.heap.size (by rfl) (.tmp 48) (.tmp 54) 47 59 (.agg #[(.int .i64 0), (.string ⟨#[]⟩)]) 24 rfl Try.underlying47 info59 rfl (by decide) (by omega) u207005 x207005_1 (⟨(rd_T59 l0_5 x7_1).f0, (rd_T59 l0_5 x7_1).f1⟩ : S59) [.int .i64 ((rd_T59 l0_5 x7_1).f0), .string ((rd_T59 l0_5 x7_1).f1)] (fun k_ => k_ ≠ gb194) (fun _ => False) rfl rfl ?aP (fun _ hk => hk.elim) ?aF ?aO ?aB ?aS ?aL ?_
           (case aP => exact k59_mkM _ _ _ (⟨(rd_T59 l0_5 x7_1).f0, (rd_T59 l0_5 x7_1).f1⟩ : S59))
           (case aB => exact tq_9)
           (case aF => exact tq_120)
           (case aO => exact tq_55)
           (case aS => exact (below_size tq_9))
           (case aL => have := LMc70.out; omega)
           intro v225 w73 ho hb hg hat
           rw [← Ny224.out] at ho
           have z_ := p_ (Kd.R_over' tq_68 (Kd.R_typed tq_55) (by decide) hg) <| p_ (blk_grown (g := gb193) (o := .cells #[.int .i64 a0_0, .int .i64 a0_1, .int .i64 a0_2, .string a0_3, .slice A0_4 l0_4.length c0_4, .slice (some ad222) l0_5.length c0_5] 49 (0, 0)) tq_32 hg (Kd.R_ne HO_207005.out BK193.out (by decide))) <| p_ (blk_grown (g := gb194) (o := .cells #[.int .i64 a1_0, .string a1_1] 59 (0, 0)) tq_30 hg (Kd.R_away HO_207005.out (fun _ hk => hk))) <| p_ (blk_grown (g := gb195) (o := .cells #[.int .i64 0, .int .i64 0, .int .i64 0, .string (⟨#[]⟩ : ByteArray), .slice none 0 0, .slice none 0 0] 49 (0, 0)) tq_39 hg (Kd.R_ne HO_207005.out BK195.out (by decide))) <| p_ (blk_grown (g := gb206) (o := .cells #[.int .i64 t196, .int .i64 t197, .int .i64 t198, .string t199, .slice Ao16 t200.length co16, u207005] 49 (0, 0)) tq_66 hg (Kd.R_ne HO_207005.out BK206.out (by decide))) <| p_ (hb) <| a_ (ho)
           clear HO_207004 BK193 BK194 BK195 BK206 HB HO_207005
           obtain ⟨HO_207004, BK193, BK194, BK195, BK206, HB, HO226⟩ := z_
           clear ho hb hg hat
           obtain ⟨Ao74, co74, eo74⟩ := Kd.R_slice HO226.out
           (first | subst eo74 | (injection eo74 with f1_ f2_ f3_; have f4_ := f1_.symm; have f5_ := f3_.symm; clear f1_ f2_ f3_; subst f4_; subst f5_))
           refine hK.out _ _ (bc6_ BK206.out (bc6_ BK193.out ⟨((HB.out.cell (World.block_lt_of_cell? w _ hw223_0)).trans hw223_0), ((HB.out.cell (World.block_lt_of_cell? w _ hw223_1)).trans hw223_1)⟩)) (fun hHeld => ?_)
           clear hK K
           refine nm_ (some 55) ?_
           refine yq_ (i := 9) (N := some 56) bq_53 (any_of HT_.out (by kernel_rfl)) ?_
           refine last_ (i := 10) (N := none) bq_54 rfl rfl (one_of HT_.out (by kernel_rfl)) (by decide) (fun K hK => ?_)
           have hs75 : w73.cell? ⟨gb206, 5, none⟩ = some (u207005) := (blk_cell BK206.out 5).trans rfl
           have hfs75 := blk_frozen BK206.out 5
           have hns75_0 := NB193_206.out
           have hns75_1 := NB194_206.out
           have hns75_2 := NB195_206.out
           have hms75_0 := NB206_193.out
           have hms75_1 := NB206_194.out
           have hms75_2 := NB206_195.out
           refine skip_ (w1 := ?_) (by rfl) rfl ?_ ?_
           rotate_left
           ·go_simp
            rfl
           refine hK.out _ _ ?_
           clear hK K
           refine done_ (done_of HT_.out (by kernel_rfl)) ?_
           try go_wp2
           go_roundg kj22
           case measure => have := HK1.out; have := HJ22.out; omega
           case rel => exact ⟨(x6_1), (wrap64 (x7_1 + 1)), (y224), (.slice Ao74 y224.length co74), tq_33, tq_33, H', ⟨(by have := HK1.out; have := HJ22.out; omega)⟩, ⟨(by (with_reducible repeat (first | apply Kd.R_alloc | apply Kd.R_drewN | apply Kd.R_drew)); exact Kd.R_mono (Kd.R_far (p := ⟨gb206, 5, none⟩) (Kd.R_types HO_207004.out BK206.out (by decide)) (fun _ hk => hk.2) (.slice Ao74 y224.length co74)) (fun _ hk => trivial))⟩, ⟨(by (with_reducible repeat (first | apply Kd.R_alloc | apply Kd.R_drewN | apply Kd.R_drew)); exact Kd.R_mono (Kd.R_far (p := ⟨gb206, 5, none⟩) (Kd.R_types HO226.out BK206.out (by decide)) (fun _ hk => hk.2) (.slice Ao74 y224.length co74)) (fun _ hk => hk.1))⟩, ⟨tq_59⟩, ⟨tq_58⟩, ⟨tq_57⟩, ⟨tq_72⟩, ⟨tq_9⟩⟩
          ·rw [if_neg c70] at H
           exact absurd H (by simp)
        ·rw [if_neg c67] at H
         exact absurd H (by simp)
       ·rw [if_neg c66] at H
        exact absurd H (by simp)
   ·rw [if_neg c22] at H
    have c22b0 : decide (x7_1 < (l0_5.length : Int)) = false := decide_eq_false c22
    clear c22
    by_cases c76 : x6_1 = true
    ·subst c76
     have H1 : (some (t196, t197, t198, t199, t200, x207005_1)) = some (r1, r2, r3, r4, r5, r6) := by rw [if_pos rfl] at H; exact H
     clear H
     have H := H1
     clear H1
     simp only [Option.some.injEq, Prod.mk.injEq] at H
     obtain ⟨rfl, rfl, rfl, rfl, rfl, rfl⟩ := H
     have hnb77 := NB193_194.out
     have hnc77 := NB194_193.out
     have hnb78 := NB193_195.out
     have hnc78 := NB195_193.out
     have hnb79 := NB193_206.out
     have hnc79 := NB206_193.out
     have hcz80_0 := bc_ BK193.out 0
     have hcz80_1 := bc_ BK193.out 1
     have hcz80_2 := bc_ BK193.out 2
     have hcz80_3 := bc_ BK193.out 3
     have hcz80_4 := bc_ BK193.out 4
     have hcz80_5 := bc_ BK193.out 5
     have hfz80_0 := blk_frozen BK193.out 0
     have hfz80_1 := blk_frozen BK193.out 1
     have hfz80_2 := blk_frozen BK193.out 2
     have hfz80_3 := blk_frozen BK193.out 3
     have hfz80_4 := blk_frozen BK193.out 4
     have hfz80_5 := blk_frozen BK193.out 5
     have hnb81 := NB206_194.out
     have hnc81 := NB194_206.out
     have hnb82 := NB206_195.out
     have hnc82 := NB195_206.out
     have hcz83_0 := bc_ BK206.out 0
     have hcz83_1 := bc_ BK206.out 1
     have hcz83_2 := bc_ BK206.out 2
     have hcz83_3 := bc_ BK206.out 3
     have hcz83_4 := bc_ BK206.out 4
     have hcz83_5 := bc_ BK206.out 5
     have hfz83_0 := blk_frozen BK206.out 0
     have hfz83_1 := blk_frozen BK206.out 1
     have hfz83_2 := blk_frozen BK206.out 2
     have hfz83_3 := blk_frozen BK206.out 3
     have hfz83_4 := blk_frozen BK206.out 4
     have hfz83_5 := blk_frozen BK206.out 5
     have hnb84 := NB195_194.out
     have hnc84 := NB194_195.out
     have hcz85_0 := bc_ BK195.out 0
     have hcz85_1 := bc_ BK195.out 1
     have hcz85_2 := bc_ BK195.out 2
     have hcz85_3 := bc_ BK195.out 3
     have hcz85_4 := bc_ BK195.out 4
     have hcz85_5 := bc_ BK195.out 5
     have hfz85_0 := blk_frozen BK195.out 0
     have hfz85_1 := blk_frozen BK195.out 1
     have hfz85_2 := blk_frozen BK195.out 2
     have hfz85_3 := blk_frozen BK195.out 3
     have hfz85_4 := blk_frozen BK195.out 4
     have hfz85_5 := blk_frozen BK195.out 5
     obtain ⟨Ao86, co86, eo86⟩ := Kd.R_slice HO_207005.out
     subst eo86
     go_wp2
     refine bodyPost_ret (results_cell_row rfl _ _ gb195 49 #[.int .i64 t196, .int .i64 t197, .int .i64 t198, .string t199, .slice Ao16 t200.length co16, .slice Ao86 x207005_1.length co86] (0, 0) _ rfl (by (with_reducible repeat (first | refine blk_drewN ?_ _ | refine blk_drew ?_ | refine blk_alloc ?_ _)); refine blk_put (cs := #[.int .i64 t196, .int .i64 t197, .int .i64 t198, .string t199, .slice Ao16 t200.length co16, .slice none 0 0]) ?_ 5 _ rfl; (with_reducible repeat (first | refine blk_drewN ?_ _ | refine blk_drew ?_ | refine blk_alloc ?_ _)); refine blk_put (cs := #[.int .i64 t196, .int .i64 t197, .int .i64 t198, .string t199, .slice none 0 0, .slice none 0 0]) ?_ 4 _ rfl; (with_reducible repeat (first | refine blk_drewN ?_ _ | refine blk_drew ?_ | refine blk_alloc ?_ _)); refine blk_put (cs := #[.int .i64 t196, .int .i64 t197, .int .i64 t198, .string (⟨#[]⟩ : ByteArray), .slice none 0 0, .slice none 0 0]) ?_ 3 _ rfl; (with_reducible repeat (first | refine blk_drewN ?_ _ | refine blk_drew ?_ | refine blk_alloc ?_ _)); refine blk_put (cs := #[.int .i64 t196, .int .i64 t197, .int .i64 0, .string (⟨#[]⟩ : ByteArray), .slice none 0 0, .slice none 0 0]) ?_ 2 _ rfl; (with_reducible repeat (first | refine blk_drewN ?_ _ | refine blk_drew ?_ | refine blk_alloc ?_ _)); refine blk_put (cs := #[.int .i64 t196, .int .i64 0, .int .i64 0, .string (⟨#[]⟩ : ByteArray), .slice none 0 0, .slice none 0 0]) ?_ 1 _ rfl; (with_reducible repeat (first | refine blk_drewN ?_ _ | refine blk_drew ?_ | refine blk_alloc ?_ _)); refine blk_put (cs := #[.int .i64 0, .int .i64 0, .int .i64 0, .string (⟨#[]⟩ : ByteArray), .slice none 0 0, .slice none 0 0]) ?_ 0 _ rfl; (with_reducible repeat (first | refine blk_drewN ?_ _ | refine blk_drew ?_ | refine blk_alloc ?_ _)); exact BK195.out) Try.underlying49 rfl (by kernel_rfl)) rfl ?_
     exact ⟨_, _, tq_7, (by (with_reducible repeat (first | apply Kd.R_alloc | apply Kd.R_drewN | apply Kd.R_drew)); exact Kd.R_mono (Kd.R_far (p := ⟨gb195, 5, none⟩) (Kd.R_far (p := ⟨gb195, 4, none⟩) (Kd.R_far (p := ⟨gb195, 3, none⟩) (Kd.R_far (p := ⟨gb195, 2, none⟩) (Kd.R_far (p := ⟨gb195, 1, none⟩) (Kd.R_far (p := ⟨gb195, 0, none⟩) (Kd.R_types HO_207004.out BK195.out (by decide)) (fun _ hk => hk.2) (.int .i64 t196)) (fun _ hk => hk.2) (.int .i64 t197)) (fun _ hk => hk.2) (.int .i64 t198)) (fun _ hk => hk.2) (.string t199)) (fun _ hk => hk.2) (.slice Ao16 t200.length co16)) (fun _ hk => hk.2) (.slice Ao86 x207005_1.length co86)) (fun _ hk => trivial)), (by (with_reducible repeat (first | apply Kd.R_alloc | apply Kd.R_drewN | apply Kd.R_drew)); exact Kd.R_mono (Kd.R_far (p := ⟨gb195, 5, none⟩) (Kd.R_far (p := ⟨gb195, 4, none⟩) (Kd.R_far (p := ⟨gb195, 3, none⟩) (Kd.R_far (p := ⟨gb195, 2, none⟩) (Kd.R_far (p := ⟨gb195, 1, none⟩) (Kd.R_far (p := ⟨gb195, 0, none⟩) (Kd.R_types HO_207005.out BK195.out (by decide)) (fun _ hk => hk.2) (.int .i64 t196)) (fun _ hk => hk.2) (.int .i64 t197)) (fun _ hk => hk.2) (.int .i64 t198)) (fun _ hk => hk.2) (.string t199)) (fun _ hk => hk.2) (.slice Ao16 t200.length co16)) (fun _ hk => hk.2) (.slice Ao86 x207005_1.length co86)) (fun _ hk => trivial)), tq_9⟩
    ·replace c76 := Bool.eq_false_iff.mpr c76
     subst c76
     have H1 : (if x207005_1.length < 5864062014805 then (some (t196, t197, t198, t199, t200, (x207005_1 ++ [(⟨a1_0, a1_1⟩ : S59)]))) else (none)) = some (r1, r2, r3, r4, r5, r6) := by rw [if_neg (show ¬ (false = true) by decide)] at H; exact H
     clear H
     have H := H1
     clear H1
     by_cases c87 : x207005_1.length < 5864062014805
     ·rw [if_pos c87] at H
      have LMc87 := Aside0.mk c87
      clear c87
      obtain ⟨y210, hy210⟩ : ∃ y_ : List (S59), y_ = (x207005_1 ++ [(⟨a1_0, a1_1⟩ : S59)]) := ⟨_, rfl⟩
      replace H : (some (t196, t197, t198, t199, t200, y210)) = some (r1, r2, r3, r4, r5, r6) := by first | (rw [hy210]; with_reducible exact H) | (have H2_ := (Option.bind_some _ _).symm.trans H; rw [hy210]; with_reducible exact H2_) | (have H2_ := (Option.bind_some _ _).symm.trans H; with_reducible exact H2_) | with_reducible exact H | (rw [hy210]; exact H) | exact H
      have Ny210 := Aside0.mk hy210
      clear hy210
      simp only [Option.some.injEq, Prod.mk.injEq] at H
      obtain ⟨rfl, rfl, rfl, rfl, rfl, rfl⟩ := H
      have hnb88 := NB193_194.out
      have hnc88 := NB194_193.out
      have hnb89 := NB193_195.out
      have hnc89 := NB195_193.out
      have hnb90 := NB193_206.out
      have hnc90 := NB206_193.out
      have hcz91_0 := bc_ BK193.out 0
      have hcz91_1 := bc_ BK193.out 1
      have hcz91_2 := bc_ BK193.out 2
      have hcz91_3 := bc_ BK193.out 3
      have hcz91_4 := bc_ BK193.out 4
      have hcz91_5 := bc_ BK193.out 5
      have hfz91_0 := blk_frozen BK193.out 0
      have hfz91_1 := blk_frozen BK193.out 1
      have hfz91_2 := blk_frozen BK193.out 2
      have hfz91_3 := blk_frozen BK193.out 3
      have hfz91_4 := blk_frozen BK193.out 4
      have hfz91_5 := blk_frozen BK193.out 5
      have hnb92 := NB206_194.out
      have hnc92 := NB194_206.out
      have hnb93 := NB206_195.out
      have hnc93 := NB195_206.out
      have hcz94_0 := bc_ BK206.out 0
      have hcz94_1 := bc_ BK206.out 1
      have hcz94_2 := bc_ BK206.out 2
      have hcz94_3 := bc_ BK206.out 3
      have hcz94_4 := bc_ BK206.out 4
      have hcz94_5 := bc_ BK206.out 5
      have hfz94_0 := blk_frozen BK206.out 0
      have hfz94_1 := blk_frozen BK206.out 1
      have hfz94_2 := blk_frozen BK206.out 2
      have hfz94_3 := blk_frozen BK206.out 3
      have hfz94_4 := blk_frozen BK206.out 4
      have hfz94_5 := blk_frozen BK206.out 5
      have hnb95 := NB194_195.out
      have hnc95 := NB195_194.out
      have hcz96_0 := bc_ BK194.out 0
      have hcz96_1 := bc_ BK194.out 1
      have hfz96_0 := blk_frozen BK194.out 0
      have hfz96_1 := blk_frozen BK194.out 1
      go_wp2_with (first | ((with_reducible refine gate_builtin (b := .append) (xs := #[.tmp 60, .tmp 62]) rfl ?_); at_builtin; refine Kd.R_append k59 (w0 := w) w.heap.size rfl (.tmp 60) (.tmp 62) 47 59 (.agg #[(.int .i64 0), (.string ⟨#[]⟩)]) 24 rfl Try.underlying47 info59 rfl (by decide) (by omega) u207005 x207005_1 (⟨a1_0, a1_1⟩ : S59) [.int .i64 a1_0, .string a1_1] (fun k_ => k_ ≠ gb194) (fun _ => False) rfl rfl ?aP (fun _ hk => hk.elim) ?aF ?aO ?aB ?aS ?aL ?_; (case aP => exact k59_mkM _ _ _ (⟨a1_0, a1_1⟩ : S59)); (case aB => exact tq_9); (case aF => exact tq_120); (case aO => exact tq_55); (case aS => exact (below_size tq_9)); (case aL => have := LMc87.out; omega); intro v211 w97 ho hb hg hat; rw [← Ny210.out] at ho; have z_ := p_ (Kd.R_over' tq_68 (Kd.R_typed tq_55) (by decide) hg) <| p_ (blk_grown (g := gb193) (o := .cells #[.int .i64 a0_0, .int .i64 a0_1, .int .i64 a0_2, .string a0_3, .slice A0_4 l0_4.length c0_4, .slice A0_5 l0_5.length c0_5] 49 (0, 0)) tq_32 hg (Kd.R_ne HO_207005.out BK193.out (by decide))) <| p_ (blk_grown (g := gb194) (o := .cells #[.int .i64 a1_0, .string a1_1] 59 (0, 0)) tq_30 hg (Kd.R_away HO_207005.out (fun _ hk => hk))) <| p_ (blk_grown (g := gb195) (o := .cells #[.int .i64 0, .int .i64 0, .int .i64 0, .string (⟨#[]⟩ : ByteArray), .slice none 0 0, .slice none 0 0] 49 (0, 0)) tq_39 hg (Kd.R_ne HO_207005.out BK195.out (by decide))) <| p_ (blk_grown (g := gb206) (o := .cells #[.int .i64 t196, .int .i64 t197, .int .i64 t198, .string t199, .slice Ao16 t200.length co16, u207005] 49 (0, 0)) tq_66 hg (Kd.R_ne HO_207005.out BK206.out (by decide))) <| p_ (hb) <| a_ (ho); clear HO_207004 BK193 BK194 BK195 BK206 HB HO_207005; obtain ⟨HO_207004, BK193, BK194, BK195, BK206, HB, HO212⟩ := z_; clear ho hb hg hat; obtain ⟨Ao98, co98, eo98⟩ := Kd.R_slice HO212.out; subst eo98; have hcz99_0 := bc_ BK206.out 0; have hcz99_1 := bc_ BK206.out 1; have hcz99_2 := bc_ BK206.out 2; have hcz99_3 := bc_ BK206.out 3; have hcz99_4 := bc_ BK206.out 4; have hcz99_5 := bc_ BK206.out 5; have hfz99_0 := blk_frozen BK206.out 0; have hfz99_1 := blk_frozen BK206.out 1; have hfz99_2 := blk_frozen BK206.out 2; have hfz99_3 := blk_frozen BK206.out 3; have hfz99_4 := blk_frozen BK206.out 4; have hfz99_5 := blk_frozen BK206.out 5; have hcz100_0 := bc_ BK195.out 0; have hcz100_1 := bc_ BK195.out 1; have hcz100_2 := bc_ BK195.out 2; have hcz100_3 := bc_ BK195.out 3; have hcz100_4 := bc_ BK195.out 4; have hcz100_5 := bc_ BK195.out 5; have hfz100_0 := blk_frozen BK195.out 0; have hfz100_1 := blk_frozen BK195.out 1; have hfz100_2 := blk_frozen BK195.out 2; have hfz100_3 := blk_frozen BK195.out 3; have hfz100_4 := blk_frozen BK195.out 4; have hfz100_5 := blk_frozen BK195.out 5))
      refine bodyPost_ret (results_cell_row rfl _ _ gb195 49 #[.int .i64 t196, .int .i64 t197, .int .i64 t198, .string t199, .slice Ao16 t200.length co16, .slice Ao98 y210.length co98] (0, 0) _ rfl (by (with_reducible repeat (first | refine blk_drewN ?_ _ | refine blk_drew ?_ | refine blk_alloc ?_ _)); refine blk_put (cs := #[.int .i64 t196, .int .i64 t197, .int .i64 t198, .string t199, .slice Ao16 t200.length co16, .slice none 0 0]) ?_ 5 _ rfl; (with_reducible repeat (first | refine blk_drewN ?_ _ | refine blk_drew ?_ | refine blk_alloc ?_ _)); refine blk_put (cs := #[.int .i64 t196, .int .i64 t197, .int .i64 t198, .string t199, .slice none 0 0, .slice none 0 0]) ?_ 4 _ rfl; (with_reducible repeat (first | refine blk_drewN ?_ _ | refine blk_drew ?_ | refine blk_alloc ?_ _)); refine blk_put (cs := #[.int .i64 t196, .int .i64 t197, .int .i64 t198, .string (⟨#[]⟩ : ByteArray), .slice none 0 0, .slice none 0 0]) ?_ 3 _ rfl; (with_reducible repeat (first | refine blk_drewN ?_ _ | refine blk_drew ?_ | refine blk_alloc ?_ _)); refine blk_put (cs := #[.int .i64 t196, .int .i64 t197, .int .i64 0, .string (⟨#[]⟩ : ByteArray), .slice none 0 0, .slice none 0 0]) ?_ 2 _ rfl; (with_reducible repeat (first | refine blk_drewN ?_ _ | refine blk_drew ?_ | refine blk_alloc ?_ _)); refine blk_put (cs := #[.int .i64 t196, .int .i64 0, .int .i64 0, .string (⟨#[]⟩ : ByteArray), .slice none 0 0, .slice none 0 0]) ?_ 1 _ rfl; (with_reducible repeat (first | refine blk_drewN ?_ _ | refine blk_drew ?_ | refine blk_alloc ?_ _)); refine blk_put (cs := #[.int .i64 0, .int .i64 0, .int .i64 0, .string (⟨#[]⟩ : ByteArray), .slice none 0 0, .slice none 0 0]) ?_ 0 _ rfl; (with_reducible repeat (first | refine blk_drewN ?_ _ | refine blk_drew ?_ | refine blk_alloc ?_ _)); refine blk_far ?_ NB195_206.out _; (with_reducible repeat (first | refine blk_drewN ?_ _ | refine blk_drew ?_ | refine blk_alloc ?_ _)); exact BK195.out) Try.underlying49 rfl (by kernel_rfl)) rfl ?_
      exact ⟨_, _, tq_7, (by (with_reducible repeat (first | apply Kd.R_alloc | apply Kd.R_drewN | apply Kd.R_drew)); exact Kd.R_mono (Kd.R_far (p := ⟨gb195, 5, none⟩) (Kd.R_far (p := ⟨gb195, 4, none⟩) (Kd.R_far (p := ⟨gb195, 3, none⟩) (Kd.R_far (p := ⟨gb195, 2, none⟩) (Kd.R_far (p := ⟨gb195, 1, none⟩) (Kd.R_far (p := ⟨gb195, 0, none⟩) (Kd.R_far (p := ⟨gb206, 5, none⟩) (Kd.R_types (Kd.R_types HO_207004.out BK206.out (by decide)) BK195.out (by decide)) (fun _ hk => hk.1.2) (.slice Ao98 y210.length co98)) (fun _ hk => hk.2) (.int .i64 t196)) (fun _ hk => hk.2) (.int .i64 t197)) (fun _ hk => hk.2) (.int .i64 t198)) (fun _ hk => hk.2) (.string t199)) (fun _ hk => hk.2) (.slice Ao16 t200.length co16)) (fun _ hk => hk.2) (.slice Ao98 y210.length co98)) (fun _ hk => trivial)), (by (with_reducible repeat (first | apply Kd.R_alloc | apply Kd.R_drewN | apply Kd.R_drew)); exact Kd.R_mono (Kd.R_far (p := ⟨gb195, 5, none⟩) (Kd.R_far (p := ⟨gb195, 4, none⟩) (Kd.R_far (p := ⟨gb195, 3, none⟩) (Kd.R_far (p := ⟨gb195, 2, none⟩) (Kd.R_far (p := ⟨gb195, 1, none⟩) (Kd.R_far (p := ⟨gb195, 0, none⟩) (Kd.R_far (p := ⟨gb206, 5, none⟩) (Kd.R_types (Kd.R_types HO212.out BK206.out (by decide)) BK195.out (by decide)) (fun _ hk => hk.1.2) (.slice Ao98 y210.length co98)) (fun _ hk => hk.2) (.int .i64 t196)) (fun _ hk => hk.2) (.int .i64 t197)) (fun _ hk => hk.2) (.int .i64 t198)) (fun _ hk => hk.2) (.string t199)) (fun _ hk => hk.2) (.slice Ao16 t200.length co16)) (fun _ hk => hk.2) (.slice Ao98 y210.length co98)) (fun _ hk => trivial)), tq_9⟩
     ·rw [if_neg c87] at H
      exact absurd H (by simp)

end Go.Proofs.Ytcdnfkoahajhhaa.PFnExactWithEntry
