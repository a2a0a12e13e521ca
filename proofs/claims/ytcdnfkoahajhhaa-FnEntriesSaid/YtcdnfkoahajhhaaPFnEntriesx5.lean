/- Contracts of Go functions, written by a program of ours over the print of the kit: each says that the call returns what the Lean function beside it computes. Conditions: as each theorem states them. -/
import Derived.Test.YtcdnfkoahajhhaaPkFnEntries
import Derived.Test.YtcdnfkoahajhhaaPFnEntriesx0
import Derived.Test.YtcdnfkoahajhhaaPFnEntriesx3
namespace Go.Proofs.Ytcdnfkoahajhhaa.PFnEntries
open Go.RowKit Go.Proofs.YtcdnfkoahajhhaaW.PrintWords Go.Proofs.YtcdnfkoahajhhaaW.PrintLast Go.Proofs.YtcdnfkoahajhhaaW.PrintMore
attribute [local go_sem] max2_int min2_int max_two min_two max_three min_three max_four min_four   -- for this text's walks alone
set_option linter.unusedVariables false
set_option linter.unusedSimpArgs false

/-! ### spec_WithEntry: function 34 -/
mutual
def spec_WithEntry.l0 : Nat → Bool → Int → Int → Int → Int → ByteArray → List (S170) → List (S59) → Int → ByteArray → Int → Int → Int → ByteArray → List (S170) → List (S59) → Option (Int × Int × Int × ByteArray × (List (S170)) × (List (S59)))
 | 0, _, _, _, _, _, _, _, _, _, _, _, _, _, _, _, _ => none
 | k + 1, x6, x7, x162000, x162001, x162002, x162003, x162004, x162005, x163000, x163001, x175000, x175001, x175002, x175003, x175004, x175005 => if x7 < (x162005.length : Int) then (if x6 = true then (spec_WithEntry.j1 k x6 x7 false x162000 x162001 x162002 x162003 x162004 x162005 x163000 x163001 x175000 x175001 x175002 x175003 x175004 x175005) else (if 0 ≤ x7 then (spec_WithEntry.j1 k x6 x7 (Op.bytesLess x163001.toList (((rd_T59 x162005 x7).f1).toList)) x162000 x162001 x162002 x162003 x162004 x162005 x163000 x163001 x175000 x175001 x175002 x175003 x175004 x175005) else (none))) else (if x6 = true then (some (x175000, x175001, x175002, x175003, x175004, x175005)) else (if x175005.length < 5864062014805 then (some (x175000, x175001, x175002, x175003, x175004, (x175005 ++ [(⟨x163000, x163001⟩ : S59)]))) else (none)))
def spec_WithEntry.j1 : Nat → Bool → Int → Bool → Int → Int → Int → ByteArray → List (S170) → List (S59) → Int → ByteArray → Int → Int → Int → ByteArray → List (S170) → List (S59) → Option (Int × Int × Int × ByteArray × (List (S170)) × (List (S59)))
 | 0, _, _, _, _, _, _, _, _, _, _, _, _, _, _, _, _, _ => none
 | k + 1, x6, x7, x31, x162000, x162001, x162002, x162003, x162004, x162005, x163000, x163001, x175000, x175001, x175002, x175003, x175004, x175005 => if x31 = true then (if x175005.length < 5864062014805 then ((some (x175005 ++ [(⟨x163000, x163001⟩ : S59)] : List (S59))).bind fun y182 => (if 0 ≤ x7 then (if x7 < (x162005.length : Int) then (if ((rd_T59 x162005 x7).f1).toList = x163001.toList then (spec_WithEntry.l0 k true (wrap64 (x7 + 1)) x162000 x162001 x162002 x162003 x162004 x162005 x163000 x163001 x175000 x175001 x175002 x175003 x175004 y182) else (if y182.length < 5864062014805 then (spec_WithEntry.l0 k true (wrap64 (x7 + 1)) x162000 x162001 x162002 x162003 x162004 x162005 x163000 x163001 x175000 x175001 x175002 x175003 x175004 (y182 ++ [(⟨(rd_T59 x162005 x7).f0, (rd_T59 x162005 x7).f1⟩ : S59)])) else (none))) else (none)) else (none))) else (none)) else (if 0 ≤ x7 then (if x7 < (x162005.length : Int) then (if ((rd_T59 x162005 x7).f1).toList = x163001.toList then (spec_WithEntry.l0 k x6 (wrap64 (x7 + 1)) x162000 x162001 x162002 x162003 x162004 x162005 x163000 x163001 x175000 x175001 x175002 x175003 x175004 x175005) else (if x175005.length < 5864062014805 then (spec_WithEntry.l0 k x6 (wrap64 (x7 + 1)) x162000 x162001 x162002 x162003 x162004 x162005 x163000 x163001 x175000 x175001 x175002 x175003 x175004 (x175005 ++ [(⟨(rd_T59 x162005 x7).f0, (rd_T59 x162005 x7).f1⟩ : S59)])) else (none))) else (none)) else (none))
end
def spec_WithEntry.f (k : Nat) (a0_0 : Int) (a0_1 : Int) (a0_2 : Int) (a0_3 : ByteArray) (l0_4 : List (S170)) (l0_5 : List (S59)) (a1_0 : Int) (a1_1 : ByteArray) : Option (Int × Int × Int × ByteArray × (List (S170)) × (List (S59))) := (spec_l12Copy.f a0_0 a0_1 a0_2 a0_3 l0_4 l0_5).bind fun bt164 => (spec_WithEntry.l0 k false 0 a0_0 a0_1 a0_2 a0_3 l0_4 l0_5 a1_0 a1_1 bt164.1 bt164.2.1 bt164.2.2.1 bt164.2.2.2.1 bt164.2.2.2.2.1 (([] : List (S59))))
theorem spec_WithEntry.mono_l : ∀ k, (∀ y0 y1 y2 y3 y4 y5 y6 y7 y8 y9 y10 y11 y12 y13 y14 y15, LeO (spec_WithEntry.l0 k y0 y1 y2 y3 y4 y5 y6 y7 y8 y9 y10 y11 y12 y13 y14 y15) (spec_WithEntry.l0 (k + 1) y0 y1 y2 y3 y4 y5 y6 y7 y8 y9 y10 y11 y12 y13 y14 y15)) ∧ (∀ y0 y1 y2 y3 y4 y5 y6 y7 y8 y9 y10 y11 y12 y13 y14 y15 y16, LeO (spec_WithEntry.j1 k y0 y1 y2 y3 y4 y5 y6 y7 y8 y9 y10 y11 y12 y13 y14 y15 y16) (spec_WithEntry.j1 (k + 1) y0 y1 y2 y3 y4 y5 y6 y7 y8 y9 y10 y11 y12 y13 y14 y15 y16))
 | 0 => ⟨fun _ _ _ _ _ _ _ _ _ _ _ _ _ _ _ _ r h => by simp [spec_WithEntry.l0] at h, fun _ _ _ _ _ _ _ _ _ _ _ _ _ _ _ _ _ r h => by simp [spec_WithEntry.j1] at h⟩
 | k + 1 => by
  obtain ⟨ih0, ih1⟩ := spec_WithEntry.mono_l k
  refine ⟨?_, ?_⟩
  ·intro y0 y1 y2 y3 y4 y5 y6 y7 y8 y9 y10 y11 y12 y13 y14 y15
   unfold spec_WithEntry.l0
   exact mo_1
  ·intro y0 y1 y2 y3 y4 y5 y6 y7 y8 y9 y10 y11 y12 y13 y14 y15 y16
   unfold spec_WithEntry.j1
   exact mo_1
theorem spec_WithEntry.mono : ∀ a0 a1 a2 a3 a4 a5 a6 a7 k, LeO (spec_WithEntry.f k a0 a1 a2 a3 a4 a5 a6 a7) (spec_WithEntry.f (k + 1) a0 a1 a2 a3 a4 a5 a6 a7) := by
 intro a0 a1 a2 a3 a4 a5 a6 a7 k
 obtain ⟨ih0, ih1⟩ := spec_WithEntry.mono_l k
 unfold spec_WithEntry.f
 repeat' first
   | (with_reducible exact ih0 ..)
   | (with_reducible exact ih1 ..)
   | (with_reducible exact LeO.refl _)
   | (with_reducible exact LeO.none _)
   | (with_reducible refine LeO.ite ?_ ?_)
   | (with_reducible refine LeO.bind ?_ (fun _ => ?_))
   | exact ih0 ..
   | exact ih1 ..
   | exact LeO.none _
   | refine LeO.ite ?_ ?_
   | refine LeO.bind ?_ (fun _ => ?_)
def spec_WithEntry.T7 : Bool × List (List Nat × List Nat) := (true, [([], []), ([0], [0]), ([1], [1]), ([2], [2]), ([3, 2], [2, 3]), ([2], [2]), ([4, 5, 2], [2, 4, 5]), ([6, 2], [2, 6]), ([7, 2], [2, 7]), ([2], [2]), ([9, 2], [2, 9]), ([8, 10, 2], [2, 8, 10]), ([2, 11], [2, 11])])
def spec_WithEntry.B7 : List Nat := [0, 1, 3, 7, 15, 7, 63, 127, 255, 7, 519, 2047, 4095]
theorem spec_WithEntry.tab7 : rtab .any (opsOf Try.f34 7) = spec_WithEntry.T7 := by kernel_rfl
theorem spec_WithEntry.bits7 : waitsOk spec_WithEntry.T7.2 spec_WithEntry.B7 = true := by kernel_rfl
def spec_WithEntry.T10 : Bool × List (List Nat × List Nat) := (true, [([], []), ([0], [0]), ([], []), ([1, 2], [1, 2]), ([3], [3]), ([4], [4]), ([], []), ([6], [6]), ([5, 7], [5, 7])])
def spec_WithEntry.B10 : List Nat := [0, 1, 0, 7, 15, 31, 0, 64, 255]
theorem spec_WithEntry.tab10 : rtab .any (opsOf Try.f34 10) = spec_WithEntry.T10 := by kernel_rfl
theorem spec_WithEntry.bits10 : waitsOk spec_WithEntry.T10.2 spec_WithEntry.B10 = true := by kernel_rfl
def spec_WithEntry.T11 : Bool × List (List Nat × List Nat) := (true, [([], []), ([0], [0]), ([], []), ([2], [2]), ([], []), ([3, 4], [3, 4]), ([5], [5]), ([6], [6]), ([1, 7], [1, 7]), ([0, 1, 2, 3, 4, 5, 6, 7, 8], []), ([9, 8, 8, 0, 1, 2, 3, 4, 5, 6, 7, 8], [8, 9])])
def spec_WithEntry.B11 : List Nat := [0, 1, 0, 4, 0, 28, 60, 124, 255, 511, 1023]
theorem spec_WithEntry.tab11 : rtab .any (opsOf Try.f34 11) = spec_WithEntry.T11 := by kernel_rfl
theorem spec_WithEntry.bits11 : waitsOk spec_WithEntry.T11.2 spec_WithEntry.B11 = true := by kernel_rfl
set_option maxHeartbeats 8000000 in
set_option maxRecDepth 100000 in
theorem spec_WithEntry.calls (k : Nat) (a0_0 : Int) (a0_1 : Int) (a0_2 : Int) (a0_3 : ByteArray) (A0_4 : Option Addr) (c0_4 : Nat) (l0_4 : List (S170)) (A0_5 : Option Addr) (c0_5 : Nat) (l0_5 : List (S59)) (a1_0 : Int) (a1_1 : ByteArray) (r1 : Int) (r2 : Int) (r3 : Int) (r4 : ByteArray) (r5 : List (S170)) (r6 : List (S59)) (w : World) (hr0_4 : Kd.C k170 w A0_4 l0_4.length l0_4) (hc0_4 : l0_4.length ≤ c0_4) (hr0_5 : Kd.C k59 w A0_5 l0_5.length l0_5) (hc0_5 : l0_5.length ≤ c0_5) (h : spec_WithEntry.f k a0_0 a0_1 a0_2 a0_3 l0_4 l0_5 a1_0 a1_1 = some (r1, r2, r3, r4, r5, r6)) :
  Calls Try.prog 34 #[.agg #[.int .i64 a0_0, .int .i64 a0_1, .int .i64 a0_2, .string a0_3, .slice A0_4 l0_4.length c0_4, .slice A0_5 l0_5.length c0_5], .agg #[.int .i64 a1_0, .string a1_1]] w fun e w' => ∃ v4_ v5_ : Value, e = .returned (.agg #[.int .i64 r1, .int .i64 r2, .int .i64 r3, .string r4, v4_, v5_]) ∧ Kd.R k170 170 w' w.heap.size (fun _ => True) v4_ r5 ∧ Kd.R k59 59 w' w.heap.size (fun _ => True) v5_ r6 ∧ Below w.heap.size w w' := by
 have hu49 := Try.underlying49
 have hu59 := Try.underlying59
 have HR0_4 := Aside0.mk hr0_4
 have HC0_4 := Aside0.mk hc0_4
 clear hr0_4 hc0_4
 have HR0_5 := Aside0.mk hr0_5
 have HC0_5 := Aside0.mk hc0_5
 clear hr0_5 hc0_5
 have HB := Aside0.mk (Below.refl w.heap.size w)
 have H : ((spec_l12Copy.f a0_0 a0_1 a0_2 a0_3 l0_4 l0_5).bind fun bt164 => (spec_WithEntry.l0 k false 0 a0_0 a0_1 a0_2 a0_3 l0_4 l0_5 a1_0 a1_1 bt164.1 bt164.2.1 bt164.2.2.1 bt164.2.2.2.1 bt164.2.2.2.2.1 (([] : List (S59))))) = some (r1, r2, r3, r4, r5, r6) := h
 clear h
 replace H := Option.bind_eq_some_iff.mp H
 obtain ⟨⟨t164, t165, t166, t167, t168, t171⟩, A30, H⟩ := H
 replace H : (spec_WithEntry.l0 k false 0 a0_0 a0_1 a0_2 a0_3 l0_4 l0_5 a1_0 a1_1 t164 t165 t166 t167 t168 (([] : List (S59)))) = some (r1, r2, r3, r4, r5, r6) := H
 have A3 := Aside0.mk A30
 clear A30
 obtain ⟨y175, hy175⟩ : ∃ y_ : List (S59), y_ = (([] : List (S59))) := ⟨_, rfl⟩
 replace H : (spec_WithEntry.l0 k false 0 a0_0 a0_1 a0_2 a0_3 l0_4 l0_5 a1_0 a1_1 t164 t165 t166 t167 t168 y175) = some (r1, r2, r3, r4, r5, r6) := by first | (rw [hy175]; with_reducible exact H) | (have H2_ := (Option.bind_some _ _).symm.trans H; rw [hy175]; with_reducible exact H2_) | (have H2_ := (Option.bind_some _ _).symm.trans H; with_reducible exact H2_) | with_reducible exact H | (rw [hy175]; exact H) | exact H
 have Ny175 := Aside0.mk hy175
 clear hy175
 have H' := Aside0.mk H
 clear H
 go_enter Try.func34, Try.ntmps34
 go_wp2_with (first | ((with_reducible refine gate_dst (N := 2) rfl ?_); refine box_event ?hg (N := 2) ?hd (cs := #[.int .i64 a0_0, .int .i64 a0_1, .int .i64 a0_2, .string a0_3, .slice A0_4 l0_4.length c0_4, .slice A0_5 l0_5.length c0_5]) (t := 49) ?hr ?_; (case hd => rfl); (case hg => rfl); (case hr => first | (go_simp; done) | (go_simp; rfl)); intro gb161 hg w4 hbox hb; have z_ := p_ (below_step tq_3 hb) <| p_ (hbox) <| p_ (gb_ hg tq_3) <| a_ (gb_ hg tq_3); clear HB; obtain ⟨HB, BK161, GW161, GE161⟩ := z_; clear hb hbox hg) | ((with_reducible refine gate_dst (N := 3) rfl ?_); refine box_event ?hg (N := 3) ?hd (cs := #[.int .i64 a1_0, .string a1_1]) (t := 59) ?hr ?_; (case hd => rfl); (case hg => rfl); (case hr => first | (go_simp; done) | (go_simp; rfl)); intro gb162 hg w5 hbox hb; have z_ := p_ (blk_below tq_45 hb) <| p_ (below_step tq_180 hb) <| p_ (hbox) <| p_ (gb_ hg tq_180) <| p_ (gb_ hg tq_180) <| p_ (ltne_ hg (blk_lt tq_45)) <| a_ (gtne_ hg (blk_lt tq_45)); clear BK161 HB; obtain ⟨BK161, HB, BK162, GW162, GE162, NB161_162, NB162_161⟩ := z_; clear hb hbox hg) | ((with_reducible refine gate_dst (N := 4) rfl ?_); refine box_event ?hg (N := 4) ?hd (cs := #[.int .i64 0, .int .i64 0, .int .i64 0, .string (⟨#[]⟩ : ByteArray), .slice none 0 0, .slice none 0 0]) (t := 49) ?hr ?_; (case hd => rfl); (case hg => rfl); (case hr => first | (go_simp; done) | (go_simp; rfl)); intro gb163 hg w6 hbox hb; have z_ := p_ (blk_below tq_45 hb) <| p_ (blk_below tq_38 hb) <| p_ (below_step tq_173 hb) <| p_ (hbox) <| p_ (gb_ hg tq_173) <| p_ (gb_ hg tq_173) <| p_ (ltne_ hg (blk_lt tq_45)) <| p_ (gtne_ hg (blk_lt tq_45)) <| p_ (ltne_ hg (blk_lt tq_38)) <| a_ (gtne_ hg (blk_lt tq_38)); clear BK161 BK162 HB; obtain ⟨BK161, BK162, HB, BK163, GW163, GE163, NB161_163, NB163_161, NB162_163, NB163_162⟩ := z_; clear hb hbox hg; have hnb7 := NB161_162.out; have hnc7 := NB162_161.out; have hnb8 := NB161_163.out; have hnc8 := NB163_161.out; obtain ⟨hcz9_0, hcz9_1, hcz9_2, hcz9_3, hcz9_4, hcz9_5⟩ := bk6_ BK161.out; obtain ⟨hfz9_0, hfz9_1, hfz9_2, hfz9_3, hfz9_4, hfz9_5⟩ := bf6_ BK161.out) | ((with_reducible refine gate_callee (f := 93) rfl ?_); refine goesL_ (some 9) rfl rfl Try.func93 (by kernel_rfl) rfl #[.agg #[.int .i64 a0_0, .int .i64 a0_1, .int .i64 a0_2, .string a0_3, .slice A0_4 l0_4.length c0_4, .slice A0_5 l0_5.length c0_5]] rfl tq_0 ?_; (with_reducible refine (spec_l12Copy.calls a0_0 a0_1 a0_2 a0_3 _ _ l0_4 _ _ l0_5 t164 t165 t166 t167 t168 t171 _ ?side1 ?side2 ?side3 ?side4 A3.out).mono ?_); (case side1 => exact tq_68); (case side2 => exact HC0_4.out); (case side3 => exact tq_102); (case side4 => exact HC0_5.out); rintro e w10 ⟨v169, v172, rfl, ho0, ho1, hb⟩; refine ⟨_, rfl, ?_⟩; have z_ := p_ (Kd.R_lower ho0 (below_size tq_91)) <| p_ (Kd.R_lower (Kd.R_newB ho1 (g := gb162) (o := .cells #[.int .i64 a1_0, .string a1_1] 59 (0, 0)) tq_38) (below_size tq_91)) <| p_ (blk_below tq_45 hb) <| p_ (blk_below tq_38 hb) <| p_ (blk_below tq_64 hb) <| a_ (below_step tq_91 hb); clear BK161 BK162 BK163 HB; obtain ⟨HO170, HO173, BK161, BK162, BK163, HB⟩ := z_; (try clear hb); (try clear hb2); (try clear hk); (try clear hi); (try clear ho0); (try clear ho1)) | ((with_reducible refine gate_dst (N := 5) rfl ?_); refine box_event ?hg (N := 5) ?hd (cs := #[.int .i64 0, .int .i64 0, .int .i64 0, .string (⟨#[]⟩ : ByteArray), .slice none 0 0, .slice none 0 0]) (t := 49) ?hr ?_; (case hd => rfl); (case hg => rfl); (case hr => first | (go_simp; done) | (go_simp; rfl)); intro gb174 hg w11 hbox hb; have z_ := p_ (Kd.R_below (by (with_reducible repeat (first | apply Kd.R_alloc | apply Kd.R_drewN | apply Kd.R_drew)); exact HO170.out) hb) <| p_ (Kd.R_below (by (with_reducible repeat (first | apply Kd.R_alloc | apply Kd.R_drewN | apply Kd.R_drew)); exact HO173.out) hb) <| p_ (blk_below tq_45 hb) <| p_ (blk_below tq_38 hb) <| p_ (blk_below tq_64 hb) <| p_ (below_step tq_91 hb) <| p_ (hbox) <| p_ (gb_ hg tq_91) <| p_ (gb_ hg tq_91) <| p_ (ltne_ hg (blk_lt tq_45)) <| p_ (gtne_ hg (blk_lt tq_45)) <| p_ (ltne_ hg (blk_lt tq_38)) <| p_ (gtne_ hg (blk_lt tq_38)) <| p_ (ltne_ hg (blk_lt tq_64)) <| a_ (gtne_ hg (blk_lt tq_64)); clear HO170 HO173 BK161 BK162 BK163 HB; obtain ⟨HO170, HO173, BK161, BK162, BK163, HB, BK174, GW174, GE174, NB161_174, NB174_161, NB162_174, NB174_162, NB163_174, NB174_163⟩ := z_; clear hb hbox hg; have hnb12 := NB174_161.out; have hnc12 := NB161_174.out; have hnb13 := NB174_162.out; have hnc13 := NB162_174.out; have hnb14 := NB174_163.out; have hnc14 := NB163_174.out; obtain ⟨hcz15_0, hcz15_1, hcz15_2, hcz15_3, hcz15_4, hcz15_5⟩ := bk6_ BK174.out; obtain ⟨hfz15_0, hfz15_1, hfz15_2, hfz15_3, hfz15_4, hfz15_5⟩ := bf6_ BK174.out; obtain ⟨Ao16, co16, eo16⟩ := Kd.R_slice HO170.out; subst eo16; obtain ⟨Ao17, co17, eo17⟩ := Kd.R_slice HO173.out; subst eo17) | ((with_reducible refine gate_dst (N := 10) rfl ?_); refine Kd.R_lit k59 _ 59 ?hg (N := 10) ?hd (xs := ([] : List (S59))) (inner := []) (ok := fun _ => True) (okp := fun _ => True) ?hr ?hp (fun _ hk => hk) trivial (Below.refl _ _) (Nat.le_refl _) (by simp) ?_; (case hd => rfl); (case hg => rfl); (case hr => first | (go_simp; done) | (go_simp; rfl)); (case hp => exact (Reps.none _ _)); intro v176 w18 ho19 hb hg_ hnew_; clear hg_ hnew_; (first | rw [← Ny175.out] at ho19 | (simp only [Int.reduceToNat] at ho19; rw [← Ny175.out] at ho19)); have z_ := p_ (Kd.R_below (by (with_reducible repeat (first | apply Kd.R_alloc | apply Kd.R_drewN | apply Kd.R_drew)); exact (Kd.R_mono (Kd.R_far (p := ⟨gb174, 5, none⟩) (Kd.R_far (p := ⟨gb174, 4, none⟩) (Kd.R_far (p := ⟨gb174, 3, none⟩) (Kd.R_far (p := ⟨gb174, 2, none⟩) (Kd.R_far (p := ⟨gb174, 1, none⟩) (Kd.R_far (p := ⟨gb174, 0, none⟩) (Kd.R_types HO170.out BK174.out (by decide)) (fun _ hk => hk.2) (.int .i64 t164)) (fun _ hk => hk.2) (.int .i64 t165)) (fun _ hk => hk.2) (.int .i64 t166)) (fun _ hk => hk.2) (.string t167)) (fun _ hk => hk.2) (.slice Ao16 t168.length co16)) (fun _ hk => hk.2) (.slice Ao17 t171.length co17)) (fun _ h_ => h_.1))) hb) <| p_ (Kd.R_elder' tq_147 (Kd.R_base ho19) hb) <| p_ (Kd.R_lower (Kd.R_newB (Kd.R_new' ho19 (Kd.R_lt tq_147)) (g := gb162) (o := .cells #[.int .i64 a1_0, .string a1_1] 59 (0, 0)) tq_115) (below_size tq_9)) <| p_ (blk_below (g := gb161) (o := .cells #[.int .i64 a0_0, .int .i64 a0_1, .int .i64 a0_2, .string a0_3, .slice A0_4 l0_4.length c0_4, .slice A0_5 l0_5.length c0_5] 49 (0, 0)) (by (with_reducible repeat (first | refine blk_drewN ?_ _ | refine blk_drew ?_ | refine blk_alloc ?_ _)); refine blk_far ?_ NB161_174.out _; (with_reducible repeat (first | refine blk_drewN ?_ _ | refine blk_drew ?_ | refine blk_alloc ?_ _)); refine blk_far ?_ NB161_174.out _; (with_reducible repeat (first | refine blk_drewN ?_ _ | refine blk_drew ?_ | refine blk_alloc ?_ _)); refine blk_far ?_ NB161_174.out _; (with_reducible repeat (first | refine blk_drewN ?_ _ | refine blk_drew ?_ | refine blk_alloc ?_ _)); refine blk_far ?_ NB161_174.out _; (with_reducible repeat (first | refine blk_drewN ?_ _ | refine blk_drew ?_ | refine blk_alloc ?_ _)); refine blk_far ?_ NB161_174.out _; (with_reducible repeat (first | refine blk_drewN ?_ _ | refine blk_drew ?_ | refine blk_alloc ?_ _)); refine blk_far ?_ NB161_174.out _; (with_reducible repeat (first | refine blk_drewN ?_ _ | refine blk_drew ?_ | refine blk_alloc ?_ _)); exact BK161.out) hb) <| p_ (blk_below (g := gb162) (o := .cells #[.int .i64 a1_0, .string a1_1] 59 (0, 0)) tq_115 hb) <| p_ (blk_below (g := gb163) (o := .cells #[.int .i64 0, .int .i64 0, .int .i64 0, .string (⟨#[]⟩ : ByteArray), .slice none 0 0, .slice none 0 0] 49 (0, 0)) (by (with_reducible repeat (first | refine blk_drewN ?_ _ | refine blk_drew ?_ | refine blk_alloc ?_ _)); refine blk_far ?_ NB163_174.out _; (with_reducible repeat (first | refine blk_drewN ?_ _ | refine blk_drew ?_ | refine blk_alloc ?_ _)); refine blk_far ?_ NB163_174.out _; (with_reducible repeat (first | refine blk_drewN ?_ _ | refine blk_drew ?_ | refine blk_alloc ?_ _)); refine blk_far ?_ NB163_174.out _; (with_reducible repeat (first | refine blk_drewN ?_ _ | refine blk_drew ?_ | refine blk_alloc ?_ _)); refine blk_far ?_ NB163_174.out _; (with_reducible repeat (first | refine blk_drewN ?_ _ | refine blk_drew ?_ | refine blk_alloc ?_ _)); refine blk_far ?_ NB163_174.out _; (with_reducible repeat (first | refine blk_drewN ?_ _ | refine blk_drew ?_ | refine blk_alloc ?_ _)); refine blk_far ?_ NB163_174.out _; (with_reducible repeat (first | refine blk_drewN ?_ _ | refine blk_drew ?_ | refine blk_alloc ?_ _)); exact BK163.out) hb) <| p_ (blk_below (g := gb174) (o := .cells #[.int .i64 t164, .int .i64 t165, .int .i64 t166, .string t167, .slice Ao16 t168.length co16, .slice Ao17 t171.length co17] 49 (0, 0)) (by (with_reducible repeat (first | refine blk_drewN ?_ _ | refine blk_drew ?_ | refine blk_alloc ?_ _)); refine blk_put (cs := #[.int .i64 t164, .int .i64 t165, .int .i64 t166, .string t167, .slice Ao16 t168.length co16, .slice none 0 0]) ?_ 5 _ rfl; (with_reducible repeat (first | refine blk_drewN ?_ _ | refine blk_drew ?_ | refine blk_alloc ?_ _)); refine blk_put (cs := #[.int .i64 t164, .int .i64 t165, .int .i64 t166, .string t167, .slice none 0 0, .slice none 0 0]) ?_ 4 _ rfl; (with_reducible repeat (first | refine blk_drewN ?_ _ | refine blk_drew ?_ | refine blk_alloc ?_ _)); refine blk_put (cs := #[.int .i64 t164, .int .i64 t165, .int .i64 t166, .string (⟨#[]⟩ : ByteArray), .slice none 0 0, .slice none 0 0]) ?_ 3 _ rfl; (with_reducible repeat (first | refine blk_drewN ?_ _ | refine blk_drew ?_ | refine blk_alloc ?_ _)); refine blk_put (cs := #[.int .i64 t164, .int .i64 t165, .int .i64 0, .string (⟨#[]⟩ : ByteArray), .slice none 0 0, .slice none 0 0]) ?_ 2 _ rfl; (with_reducible repeat (first | refine blk_drewN ?_ _ | refine blk_drew ?_ | refine blk_alloc ?_ _)); refine blk_put (cs := #[.int .i64 t164, .int .i64 0, .int .i64 0, .string (⟨#[]⟩ : ByteArray), .slice none 0 0, .slice none 0 0]) ?_ 1 _ rfl; (with_reducible repeat (first | refine blk_drewN ?_ _ | refine blk_drew ?_ | refine blk_alloc ?_ _)); refine blk_put (cs := #[.int .i64 0, .int .i64 0, .int .i64 0, .string (⟨#[]⟩ : ByteArray), .slice none 0 0, .slice none 0 0]) ?_ 0 _ rfl; (with_reducible repeat (first | refine blk_drewN ?_ _ | refine blk_drew ?_ | refine blk_alloc ?_ _)); exact BK174.out) hb) <| a_ (below_step tq_9 hb); clear HO170 HO173 BK161 BK162 BK163 BK174 HB; obtain ⟨HO170, HO173, HO177, BK161, BK162, BK163, BK174, HB⟩ := z_; clear hb ho19; obtain ⟨Ao20, co20, eo20⟩ := Kd.R_slice HO177.out; subst eo20; obtain ⟨hcz21_0, hcz21_1, hcz21_2, hcz21_3, hcz21_4, hcz21_5⟩ := bk6_ BK174.out; obtain ⟨hfz21_0, hfz21_1, hfz21_2, hfz21_3, hfz21_4, hfz21_5⟩ := bf6_ BK174.out))
 go_loopg [6, 7] k (fun kq v6 v7 w' => ∃ (x6_1 : Bool) (x7_1 : Int) (x175005_1 : List (S59)) (u175005 : Value), v6 = .bool x6_1 ∧ v7 = .int .i64 x7_1 ∧ Aside0 (spec_WithEntry.l0 kq x6_1 x7_1 a0_0 a0_1 a0_2 a0_3 l0_4 l0_5 a1_0 a1_1 t164 t165 t166 t167 t168 x175005_1 = some (r1, r2, r3, r4, r5, r6)) ∧ Aside0 (kq ≤ k) ∧ Aside0 (Kd.R k170 170 w' w.heap.size (fun _ => True) (.slice Ao16 t168.length co16) t168) ∧ Aside0 (Kd.R k59 59 w' w.heap.size (fun k_ => k_ ≠ gb162) u175005 x175005_1) ∧ Aside0 (w'.heap[gb161]? = some (.cells #[.int .i64 a0_0, .int .i64 a0_1, .int .i64 a0_2, .string a0_3, (.slice A0_4 l0_4.length c0_4), (.slice A0_5 l0_5.length c0_5)] 49 (0, 0))) ∧ Aside0 (w'.heap[gb162]? = some (.cells #[.int .i64 a1_0, .string a1_1] 59 (0, 0))) ∧ Aside0 (w'.heap[gb163]? = some (.cells #[.int .i64 0, .int .i64 0, .int .i64 0, .string (⟨#[]⟩ : ByteArray), (.slice none 0 0), (.slice none 0 0)] 49 (0, 0))) ∧ Aside0 (w'.heap[gb174]? = some (.cells #[.int .i64 t164, .int .i64 t165, .int .i64 t166, .string t167, (.slice Ao16 t168.length co16), u175005] 49 (0, 0))) ∧ Aside0 (Below w.heap.size w w'))
 case atStart => exact ⟨(false), (0), (y175), (.slice Ao20 y175.length co20), tq_36, tq_36, H', ⟨Nat.le_refl _⟩, ⟨(by (with_reducible repeat (first | apply Kd.R_alloc | apply Kd.R_drewN | apply Kd.R_drew)); exact Kd.R_mono (Kd.R_far (p := ⟨gb174, 5, none⟩) (Kd.R_types HO170.out BK174.out (by decide)) (fun _ hk => hk.2) (.slice Ao20 y175.length co20)) (fun _ hk => trivial))⟩, ⟨(by (with_reducible repeat (first | apply Kd.R_alloc | apply Kd.R_drewN | apply Kd.R_drew)); exact Kd.R_mono (Kd.R_far (p := ⟨gb174, 5, none⟩) (Kd.R_types HO177.out BK174.out (by decide)) (fun _ hk => hk.2) (.slice Ao20 y175.length co20)) (fun _ hk => hk.1.2))⟩, ⟨tq_100⟩, ⟨tq_99⟩, ⟨tq_98⟩, ⟨(by (with_reducible repeat (first | refine blk_drewN ?_ _ | refine blk_drew ?_ | refine blk_alloc ?_ _)); refine blk_put (cs := #[.int .i64 t164, .int .i64 t165, .int .i64 t166, .string t167, .slice Ao16 t168.length co16, .slice Ao17 t171.length co17]) ?_ 5 _ rfl; (with_reducible repeat (first | refine blk_drewN ?_ _ | refine blk_drew ?_ | refine blk_alloc ?_ _)); exact BK174.out)⟩, ⟨tq_9⟩⟩
 case round =>
  clear H'
  try clear c1; try clear p2; try clear c3; try clear c7; try clear c8; try clear c9; try clear c12; try clear c13; try clear c14; try clear hcz15_0 hcz15_1 hcz15_2 hcz15_3 hcz15_4 hcz15_5; try clear hcz21_0 hcz21_1 hcz21_2 hcz21_3 hcz21_4 hcz21_5; try clear hcz9_0 hcz9_1 hcz9_2 hcz9_3 hcz9_4 hcz9_5; try clear hfz15_0 hfz15_1 hfz15_2 hfz15_3 hfz15_4 hfz15_5; try clear hfz21_0 hfz21_1 hfz21_2 hfz21_3 hfz21_4 hfz21_5; try clear hfz9_0 hfz9_1 hfz9_2 hfz9_3 hfz9_4 hfz9_5
  obtain ⟨x6_1, x7_1, x175005_1, u175005, rfl, rfl, HA, HK1, HO_175004, HO_175005, BK161, BK162, BK163, BK174, HB⟩ := hrel
  cases gk with
  | zero => exact absurd HA.out (by simp [spec_WithEntry.l0])
  | succ k1 =>
   have H := HA.out
   clear HA
   simp only [spec_WithEntry.l0] at H
   by_cases c22 : x7_1 < (l0_5.length : Int)
   rotate_left
   ·rw [if_neg c22] at H
    have c22b0 := decide_eq_false c22
    clear c22
    by_cases c76 : x6_1 = true
    ·subst c76
     have H1 : (some (t164, t165, t166, t167, t168, x175005_1)) = some (r1, r2, r3, r4, r5, r6) := by rw [if_pos rfl] at H; exact H
     clear H
     have H := H1
     clear H1
     simp only [Option.some.injEq, Prod.mk.injEq] at H
     obtain ⟨rfl, rfl, rfl, rfl, rfl, rfl⟩ := H
     have hnb77 := NB161_162.out
     have hnc77 := NB162_161.out
     have hnb78 := NB161_163.out
     have hnc78 := NB163_161.out
     have hnb79 := NB161_174.out
     have hnc79 := NB174_161.out
     obtain ⟨hcz80_0, hcz80_1, hcz80_2, hcz80_3, hcz80_4, hcz80_5⟩ := bk6_ BK161.out
     obtain ⟨hfz80_0, hfz80_1, hfz80_2, hfz80_3, hfz80_4, hfz80_5⟩ := bf6_ BK161.out
     have hnb81 := NB174_162.out
     have hnc81 := NB162_174.out
     have hnb82 := NB174_163.out
     have hnc82 := NB163_174.out
     obtain ⟨hcz83_0, hcz83_1, hcz83_2, hcz83_3, hcz83_4, hcz83_5⟩ := bk6_ BK174.out
     obtain ⟨hfz83_0, hfz83_1, hfz83_2, hfz83_3, hfz83_4, hfz83_5⟩ := bf6_ BK174.out
     have hnb84 := NB163_162.out
     have hnc84 := NB162_163.out
     obtain ⟨hcz85_0, hcz85_1, hcz85_2, hcz85_3, hcz85_4, hcz85_5⟩ := bk6_ BK163.out
     obtain ⟨hfz85_0, hfz85_1, hfz85_2, hfz85_3, hfz85_4, hfz85_5⟩ := bf6_ BK163.out
     obtain ⟨Ao86, co86, eo86⟩ := Kd.R_slice HO_175005.out
     subst eo86
     go_wp2
     refine bodyPost_ret (results_cell_row rfl _ _ gb163 49 #[.int .i64 t164, .int .i64 t165, .int .i64 t166, .string t167, .slice Ao16 t168.length co16, .slice Ao86 x175005_1.length co86] (0, 0) _ rfl (by (with_reducible repeat (first | refine blk_drewN ?_ _ | refine blk_drew ?_ | refine blk_alloc ?_ _)); refine blk_put (cs := #[.int .i64 t164, .int .i64 t165, .int .i64 t166, .string t167, .slice Ao16 t168.length co16, .slice none 0 0]) ?_ 5 _ rfl; (with_reducible repeat (first | refine blk_drewN ?_ _ | refine blk_drew ?_ | refine blk_alloc ?_ _)); refine blk_put (cs := #[.int .i64 t164, .int .i64 t165, .int .i64 t166, .string t167, .slice none 0 0, .slice none 0 0]) ?_ 4 _ rfl; (with_reducible repeat (first | refine blk_drewN ?_ _ | refine blk_drew ?_ | refine blk_alloc ?_ _)); refine blk_put (cs := #[.int .i64 t164, .int .i64 t165, .int .i64 t166, .string (⟨#[]⟩ : ByteArray), .slice none 0 0, .slice none 0 0]) ?_ 3 _ rfl; (with_reducible repeat (first | refine blk_drewN ?_ _ | refine blk_drew ?_ | refine blk_alloc ?_ _)); refine blk_put (cs := #[.int .i64 t164, .int .i64 t165, .int .i64 0, .string (⟨#[]⟩ : ByteArray), .slice none 0 0, .slice none 0 0]) ?_ 2 _ rfl; (with_reducible repeat (first | refine blk_drewN ?_ _ | refine blk_drew ?_ | refine blk_alloc ?_ _)); refine blk_put (cs := #[.int .i64 t164, .int .i64 0, .int .i64 0, .string (⟨#[]⟩ : ByteArray), .slice none 0 0, .slice none 0 0]) ?_ 1 _ rfl; (with_reducible repeat (first | refine blk_drewN ?_ _ | refine blk_drew ?_ | refine blk_alloc ?_ _)); refine blk_put (cs := #[.int .i64 0, .int .i64 0, .int .i64 0, .string (⟨#[]⟩ : ByteArray), .slice none 0 0, .slice none 0 0]) ?_ 0 _ rfl; (with_reducible repeat (first | refine blk_drewN ?_ _ | refine blk_drew ?_ | refine blk_alloc ?_ _)); exact BK163.out) Try.underlying49 rfl (by kernel_rfl)) rfl ?_
     exact ⟨_, _, tq_11, (by (with_reducible repeat (first | apply Kd.R_alloc | apply Kd.R_drewN | apply Kd.R_drew)); exact Kd.R_mono (Kd.R_far (p := ⟨gb163, 5, none⟩) (Kd.R_far (p := ⟨gb163, 4, none⟩) (Kd.R_far (p := ⟨gb163, 3, none⟩) (Kd.R_far (p := ⟨gb163, 2, none⟩) (Kd.R_far (p := ⟨gb163, 1, none⟩) (Kd.R_far (p := ⟨gb163, 0, none⟩) (Kd.R_types HO_175004.out BK163.out (by decide)) (fun _ hk => hk.2) (.int .i64 t164)) (fun _ hk => hk.2) (.int .i64 t165)) (fun _ hk => hk.2) (.int .i64 t166)) (fun _ hk => hk.2) (.string t167)) (fun _ hk => hk.2) (.slice Ao16 t168.length co16)) (fun _ hk => hk.2) (.slice Ao86 x175005_1.length co86)) (fun _ hk => trivial)), (by (with_reducible repeat (first | apply Kd.R_alloc | apply Kd.R_drewN | apply Kd.R_drew)); exact Kd.R_mono (Kd.R_far (p := ⟨gb163, 5, none⟩) (Kd.R_far (p := ⟨gb163, 4, none⟩) (Kd.R_far (p := ⟨gb163, 3, none⟩) (Kd.R_far (p := ⟨gb163, 2, none⟩) (Kd.R_far (p := ⟨gb163, 1, none⟩) (Kd.R_far (p := ⟨gb163, 0, none⟩) (Kd.R_types HO_175005.out BK163.out (by decide)) (fun _ hk => hk.2) (.int .i64 t164)) (fun _ hk => hk.2) (.int .i64 t165)) (fun _ hk => hk.2) (.int .i64 t166)) (fun _ hk => hk.2) (.string t167)) (fun _ hk => hk.2) (.slice Ao16 t168.length co16)) (fun _ hk => hk.2) (.slice Ao86 x175005_1.length co86)) (fun _ hk => trivial)), tq_9⟩
    replace c76 := Bool.eq_false_iff.mpr c76
    subst c76
    have H1 : (if x175005_1.length < 5864062014805 then (some (t164, t165, t166, t167, t168, (x175005_1 ++ [(⟨a1_0, a1_1⟩ : S59)]))) else (none)) = some (r1, r2, r3, r4, r5, r6) := by rw [if_neg (show ¬ (false = true) by decide)] at H; exact H
    clear H
    have H := H1
    clear H1
    by_cases c87 : x175005_1.length < 5864062014805
    rotate_left
    ·rw [if_neg c87] at H
     exact absurd H (by simp)
    rw [if_pos c87] at H
    have LMc87 := Aside0.mk c87
    clear c87
    obtain ⟨y178, hy178⟩ : ∃ y_ : List (S59), y_ = (x175005_1 ++ [(⟨a1_0, a1_1⟩ : S59)]) := ⟨_, rfl⟩
    replace H : (some (t164, t165, t166, t167, t168, y178)) = some (r1, r2, r3, r4, r5, r6) := by first | (rw [hy178]; with_reducible exact H) | (have H2_ := (Option.bind_some _ _).symm.trans H; rw [hy178]; with_reducible exact H2_) | (have H2_ := (Option.bind_some _ _).symm.trans H; with_reducible exact H2_) | with_reducible exact H | (rw [hy178]; exact H) | exact H
    have Ny178 := Aside0.mk hy178
    clear hy178
    simp only [Option.some.injEq, Prod.mk.injEq] at H
    obtain ⟨rfl, rfl, rfl, rfl, rfl, rfl⟩ := H
    have hnb88 := NB161_162.out
    have hnc88 := NB162_161.out
    have hnb89 := NB161_163.out
    have hnc89 := NB163_161.out
    have hnb90 := NB161_174.out
    have hnc90 := NB174_161.out
    obtain ⟨hcz91_0, hcz91_1, hcz91_2, hcz91_3, hcz91_4, hcz91_5⟩ := bk6_ BK161.out
    obtain ⟨hfz91_0, hfz91_1, hfz91_2, hfz91_3, hfz91_4, hfz91_5⟩ := bf6_ BK161.out
    have hnb92 := NB174_162.out
    have hnc92 := NB162_174.out
    have hnb93 := NB174_163.out
    have hnc93 := NB163_174.out
    obtain ⟨hcz94_0, hcz94_1, hcz94_2, hcz94_3, hcz94_4, hcz94_5⟩ := bk6_ BK174.out
    obtain ⟨hfz94_0, hfz94_1, hfz94_2, hfz94_3, hfz94_4, hfz94_5⟩ := bf6_ BK174.out
    have hnb95 := NB162_163.out
    have hnc95 := NB163_162.out
    obtain ⟨hcz96_0, hcz96_1⟩ := bk2_ BK162.out
    obtain ⟨hfz96_0, hfz96_1⟩ := bf2_ BK162.out
    go_wp2_with (first | ((with_reducible refine gate_builtin (b := .append) (xs := #[.tmp 60, .tmp 62]) rfl ?_); at_builtin; refine Kd.R_append k59 (w0 := w) w.heap.size rfl (.tmp 60) (.tmp 62) 47 59 (.agg #[(.int .i64 0), (.string ⟨#[]⟩)]) 24 rfl Try.underlying47 info59 rfl (by decide) (by omega) u175005 x175005_1 (⟨a1_0, a1_1⟩ : S59) [.int .i64 a1_0, .string a1_1] (fun k_ => k_ ≠ gb162) (fun _ => False) rfl rfl ?aP (fun _ hk => hk.elim) ?aF ?aO ?aB ?aS ?aL ?_; (case aP => exact k59_mkM _ _ _ (⟨a1_0, a1_1⟩ : S59)); (case aB => exact tq_9); (case aF => exact tq_172); (case aO => exact tq_94); (case aS => exact (below_size tq_9)); (case aL => have := LMc87.out; omega); intro v179 w97 ho hb hg hat; rw [← Ny178.out] at ho; have z_ := p_ (Kd.R_over' tq_121 (Kd.R_typed tq_94) (by decide) hg) <| p_ (blk_grown (g := gb161) (o := .cells #[.int .i64 a0_0, .int .i64 a0_1, .int .i64 a0_2, .string a0_3, .slice A0_4 l0_4.length c0_4, .slice A0_5 l0_5.length c0_5] 49 (0, 0)) tq_45 hg (Kd.R_ne HO_175005.out BK161.out (by decide))) <| p_ (blk_grown (g := gb162) (o := .cells #[.int .i64 a1_0, .string a1_1] 59 (0, 0)) tq_38 hg (Kd.R_away HO_175005.out (fun _ hk => hk))) <| p_ (blk_grown (g := gb163) (o := .cells #[.int .i64 0, .int .i64 0, .int .i64 0, .string (⟨#[]⟩ : ByteArray), .slice none 0 0, .slice none 0 0] 49 (0, 0)) tq_64 hg (Kd.R_ne HO_175005.out BK163.out (by decide))) <| p_ (blk_grown (g := gb174) (o := .cells #[.int .i64 t164, .int .i64 t165, .int .i64 t166, .string t167, .slice Ao16 t168.length co16, u175005] 49 (0, 0)) tq_116 hg (Kd.R_ne HO_175005.out BK174.out (by decide))) <| p_ (hb) <| a_ (ho); clear HO_175004 BK161 BK162 BK163 BK174 HB HO_175005; obtain ⟨HO_175004, BK161, BK162, BK163, BK174, HB, HO180⟩ := z_; clear ho hb hg hat; obtain ⟨Ao98, co98, eo98⟩ := Kd.R_slice HO180.out; subst eo98; obtain ⟨hcz99_0, hcz99_1, hcz99_2, hcz99_3, hcz99_4, hcz99_5⟩ := bk6_ BK174.out; obtain ⟨hfz99_0, hfz99_1, hfz99_2, hfz99_3, hfz99_4, hfz99_5⟩ := bf6_ BK174.out; obtain ⟨hcz100_0, hcz100_1, hcz100_2, hcz100_3, hcz100_4, hcz100_5⟩ := bk6_ BK163.out; obtain ⟨hfz100_0, hfz100_1, hfz100_2, hfz100_3, hfz100_4, hfz100_5⟩ := bf6_ BK163.out))
    refine bodyPost_ret (results_cell_row rfl _ _ gb163 49 #[.int .i64 t164, .int .i64 t165, .int .i64 t166, .string t167, .slice Ao16 t168.length co16, .slice Ao98 y178.length co98] (0, 0) _ rfl (by (with_reducible repeat (first | refine blk_drewN ?_ _ | refine blk_drew ?_ | refine blk_alloc ?_ _)); refine blk_put (cs := #[.int .i64 t164, .int .i64 t165, .int .i64 t166, .string t167, .slice Ao16 t168.length co16, .slice none 0 0]) ?_ 5 _ rfl; (with_reducible repeat (first | refine blk_drewN ?_ _ | refine blk_drew ?_ | refine blk_alloc ?_ _)); refine blk_put (cs := #[.int .i64 t164, .int .i64 t165, .int .i64 t166, .string t167, .slice none 0 0, .slice none 0 0]) ?_ 4 _ rfl; (with_reducible repeat (first | refine blk_drewN ?_ _ | refine blk_drew ?_ | refine blk_alloc ?_ _)); refine blk_put (cs := #[.int .i64 t164, .int .i64 t165, .int .i64 t166, .string (⟨#[]⟩ : ByteArray), .slice none 0 0, .slice none 0 0]) ?_ 3 _ rfl; (with_reducible repeat (first | refine blk_drewN ?_ _ | refine blk_drew ?_ | refine blk_alloc ?_ _)); refine blk_put (cs := #[.int .i64 t164, .int .i64 t165, .int .i64 0, .string (⟨#[]⟩ : ByteArray), .slice none 0 0, .slice none 0 0]) ?_ 2 _ rfl; (with_reducible repeat (first | refine blk_drewN ?_ _ | refine blk_drew ?_ | refine blk_alloc ?_ _)); refine blk_put (cs := #[.int .i64 t164, .int .i64 0, .int .i64 0, .string (⟨#[]⟩ : ByteArray), .slice none 0 0, .slice none 0 0]) ?_ 1 _ rfl; (with_reducible repeat (first | refine blk_drewN ?_ _ | refine blk_drew ?_ | refine blk_alloc ?_ _)); refine blk_put (cs := #[.int .i64 0, .int .i64 0, .int .i64 0, .string (⟨#[]⟩ : ByteArray), .slice none 0 0, .slice none 0 0]) ?_ 0 _ rfl; (with_reducible repeat (first | refine blk_drewN ?_ _ | refine blk_drew ?_ | refine blk_alloc ?_ _)); refine blk_far ?_ NB163_174.out _; (with_reducible repeat (first | refine blk_drewN ?_ _ | refine blk_drew ?_ | refine blk_alloc ?_ _)); exact BK163.out) Try.underlying49 rfl (by kernel_rfl)) rfl ?_
    exact ⟨_, _, tq_11, (by (with_reducible repeat (first | apply Kd.R_alloc | apply Kd.R_drewN | apply Kd.R_drew)); exact Kd.R_mono (Kd.R_far (p := ⟨gb163, 5, none⟩) (Kd.R_far (p := ⟨gb163, 4, none⟩) (Kd.R_far (p := ⟨gb163, 3, none⟩) (Kd.R_far (p := ⟨gb163, 2, none⟩) (Kd.R_far (p := ⟨gb163, 1, none⟩) (Kd.R_far (p := ⟨gb163, 0, none⟩) (Kd.R_far (p := ⟨gb174, 5, none⟩) (Kd.R_types (Kd.R_types HO_175004.out BK174.out (by decide)) BK163.out (by decide)) (fun _ hk => hk.1.2) (.slice Ao98 y178.length co98)) (fun _ hk => hk.2) (.int .i64 t164)) (fun _ hk => hk.2) (.int .i64 t165)) (fun _ hk => hk.2) (.int .i64 t166)) (fun _ hk => hk.2) (.string t167)) (fun _ hk => hk.2) (.slice Ao16 t168.length co16)) (fun _ hk => hk.2) (.slice Ao98 y178.length co98)) (fun _ hk => trivial)), (by (with_reducible repeat (first | apply Kd.R_alloc | apply Kd.R_drewN | apply Kd.R_drew)); exact Kd.R_mono (Kd.R_far (p := ⟨gb163, 5, none⟩) (Kd.R_far (p := ⟨gb163, 4, none⟩) (Kd.R_far (p := ⟨gb163, 3, none⟩) (Kd.R_far (p := ⟨gb163, 2, none⟩) (Kd.R_far (p := ⟨gb163, 1, none⟩) (Kd.R_far (p := ⟨gb163, 0, none⟩) (Kd.R_far (p := ⟨gb174, 5, none⟩) (Kd.R_types (Kd.R_types HO180.out BK174.out (by decide)) BK163.out (by decide)) (fun _ hk => hk.1.2) (.slice Ao98 y178.length co98)) (fun _ hk => hk.2) (.int .i64 t164)) (fun _ hk => hk.2) (.int .i64 t165)) (fun _ hk => hk.2) (.int .i64 t166)) (fun _ hk => hk.2) (.string t167)) (fun _ hk => hk.2) (.slice Ao16 t168.length co16)) (fun _ hk => hk.2) (.slice Ao98 y178.length co98)) (fun _ hk => trivial)), tq_9⟩
   rw [if_pos c22] at H
   have c22b0 := decide_eq_true c22
   clear c22
   have HC23 := Aside0.mk H
   clear H
   have hnb24 := NB161_162.out
   have hnc24 := NB162_161.out
   have hnb25 := NB161_163.out
   have hnc25 := NB163_161.out
   have hnb26 := NB161_174.out
   have hnc26 := NB174_161.out
   obtain ⟨hcz27_0, hcz27_1, hcz27_2, hcz27_3, hcz27_4, hcz27_5⟩ := bk6_ BK161.out
   obtain ⟨hfz27_0, hfz27_1, hfz27_2, hfz27_3, hfz27_4, hfz27_5⟩ := bf6_ BK161.out
   go_upto_region 7 with (fail)
   go_cut [31] (fun v31 wc => ∃ (kq : Nat) (x31_22 : Bool), v31 = .bool x31_22 ∧ Aside0 (spec_WithEntry.j1 kq x6_1 x7_1 x31_22 a0_0 a0_1 a0_2 a0_3 l0_4 l0_5 a1_0 a1_1 t164 t165 t166 t167 t168 x175005_1 = some (r1, r2, r3, r4, r5, r6)) ∧ Aside0 (kq ≤ k1) ∧ Aside0 (Kd.R k170 170 wc w.heap.size (fun _ => True) (.slice Ao16 t168.length co16) t168) ∧ Aside0 (Kd.R k59 59 wc w.heap.size (fun k_ => k_ ≠ gb162) u175005 x175005_1) ∧ Aside0 (wc.heap[gb161]? = some (.cells #[.int .i64 a0_0, .int .i64 a0_1, .int .i64 a0_2, .string a0_3, (.slice A0_4 l0_4.length c0_4), (.slice A0_5 l0_5.length c0_5)] 49 (0, 0))) ∧ Aside0 (wc.heap[gb162]? = some (.cells #[.int .i64 a1_0, .string a1_1] 59 (0, 0))) ∧ Aside0 (wc.heap[gb163]? = some (.cells #[.int .i64 0, .int .i64 0, .int .i64 0, .string (⟨#[]⟩ : ByteArray), (.slice none 0 0), (.slice none 0 0)] 49 (0, 0))) ∧ Aside0 (wc.heap[gb174]? = some (.cells #[.int .i64 t164, .int .i64 t165, .int .i64 t166, .string t167, (.slice Ao16 t168.length co16), u175005] 49 (0, 0))) ∧ Aside0 (Below w.heap.size w wc))
   case first =>
    have H := HC23.out
    clear HC23
    by_cases c28 : x6_1 = true
    ·subst c28
     have H1 : (spec_WithEntry.j1 k1 true x7_1 false a0_0 a0_1 a0_2 a0_3 l0_4 l0_5 a1_0 a1_1 t164 t165 t166 t167 t168 x175005_1) = some (r1, r2, r3, r4, r5, r6) := by rw [if_pos rfl] at H; exact H
     clear H
     have H := H1
     clear H1
     have H' := Aside0.mk H
     clear H
     try go_wp2
     have z_ := p_ (Kd.R_drew HO_175004.out) <| p_ (Kd.R_drew HO_175005.out) <| p_ (blk_drew BK161.out) <| p_ (blk_drew BK162.out) <| p_ (blk_drew BK163.out) <| p_ (blk_drew BK174.out) <| a_ (below_drew1 HB.out)
     clear HO_175004 HO_175005 BK161 BK162 BK163 BK174 HB
     obtain ⟨HO_175004, HO_175005, BK161, BK162, BK163, BK174, HB⟩ := z_
     refine start_ (n := 13) (S := fun w' => True) (ds := []) bq_24 (by kernel_rfl) rfl rfl trivial (fun hHeld => ?_); refine with_tabW spec_WithEntry.tab7 spec_WithEntry.bits7 (fun HT_ HW_ => ?_)
     generalize wr.drew = w29 at HO_175004 HO_175005 BK161 BK162 BK163 BK174 HB hHeld ⊢
     refine yq_ (i := 0) (N := some 19) bq_25 (any_of HT_.out (by kernel_rfl)) ?_
     refine yq_ (i := 1) (N := some 20) bq_26 (any_of HT_.out (by kernel_rfl)) ?_
     refine yq_ (i := 2) (N := some 21) bq_27 (any_of HT_.out (by kernel_rfl)) ?_
     refine uq_ (i := 3) (N := some 22) bq_28 (any_of HT_.out (by kernel_rfl)) ?_
     refine uq_ (i := 4) (N := some 23) #[true, true, true, true, true, false, false, false, false, false, false, false, false] (any_of HT_.out (by kernel_rfl)) ?_
     refine uq_ (i := 5) (N := some 24) #[true, true, true, true, true, true, false, false, false, false, false, false, false] (any_of HT_.out (by kernel_rfl)) ?_
     refine uq_ (i := 6) (N := some 25) #[true, true, true, true, true, true, true, false, false, false, false, false, false] (any_of HT_.out (by kernel_rfl)) ?_
     refine uq_ (i := 7) (N := some 26) #[true, true, true, true, true, true, true, true, false, false, false, false, false] (any_of HT_.out (by kernel_rfl)) ?_
     refine uq_ (i := 8) (N := some 27) #[true, true, true, true, true, true, true, true, true, false, false, false, false] (any_of HT_.out (by kernel_rfl)) ?_
     refine uq_ (i := 9) (N := some 28) bq_29 (any_of HT_.out (by kernel_rfl)) ?_
     refine uq_ (i := 10) (N := some 29) bq_30 (any_of HT_.out (by kernel_rfl)) ?_
     refine uq_ (i := 11) (N := some 30) bq_31 (any_of HT_.out (by kernel_rfl)) ?_
     refine yq_ (i := 12) (N := some 31) bq_32 (any_of HT_.out (by kernel_rfl)) ?_
     refine done_ (done_of HT_.out (by kernel_rfl)) ?_
     try go_wp2
     go_meet
     case rel => exact ⟨_, (false), tq_36, H', ⟨(by have := HK1.out; first | omega | exact Nat.le_refl _)⟩, ⟨tq_121⟩, ⟨tq_94⟩, ⟨tq_45⟩, ⟨tq_38⟩, ⟨tq_64⟩, ⟨tq_116⟩, ⟨tq_9⟩⟩
    replace c28 := Bool.eq_false_iff.mpr c28
    subst c28
    have H1 : (if 0 ≤ x7_1 then (spec_WithEntry.j1 k1 false x7_1 (Op.bytesLess a1_1.toList (((rd_T59 l0_5 x7_1).f1).toList)) a0_0 a0_1 a0_2 a0_3 l0_4 l0_5 a1_0 a1_1 t164 t165 t166 t167 t168 x175005_1) else (none)) = some (r1, r2, r3, r4, r5, r6) := by rw [if_neg (show ¬ (false = true) by decide)] at H; exact H
    clear H
    have H := H1
    clear H1
    by_cases c30 : 0 ≤ x7_1
    rotate_left
    ·rw [if_neg c30] at H
     exact absurd H (by simp)
    rw [if_pos c30] at H
    have c30b0 := decide_eq_true c30
    clear c30
    (first | rw [c30b0] | (simp only [i64_w, i32_w]; rw [c30b0]) | skip)
    have H' := Aside0.mk H
    clear H
    try go_wp2
    have z_ := p_ (Kd.R_drew HO_175004.out) <| p_ (Kd.R_drew HO_175005.out) <| p_ (blk_drew BK161.out) <| p_ (blk_drew BK162.out) <| p_ (blk_drew BK163.out) <| p_ (blk_drew BK174.out) <| a_ (below_drew1 HB.out)
    clear HO_175004 HO_175005 BK161 BK162 BK163 BK174 HB
    obtain ⟨HO_175004, HO_175005, BK161, BK162, BK163, BK174, HB⟩ := z_
    have p181 : 0 ≤ (x7_1 : Int) := of_decide_eq_true tq_20
    have q181 : x7_1 < (l0_5.length : Int) := of_decide_eq_true tq_20
    obtain ⟨ad181, e181, hx181_0, hx181_1⟩ := at_T59 HR0_5.out x7_1 p181 q181
    have hw181_1 := hx181_1
    have hw181_0 := hx181_0
    cases e181
    replace hx181_0 := hx_ HB.out hx181_0
    replace hx181_1 := hx_ HB.out hx181_1
    replace p181 := eq_true p181
    replace q181 := eq_true q181
    refine start_ (n := 13) (S := fun w' => w'.cell? ⟨gb161, 0, none⟩ = some (.int .i64 a0_0) ∧ w'.cell? ⟨gb161, 1, none⟩ = some (.int .i64 a0_1) ∧ w'.cell? ⟨gb161, 2, none⟩ = some (.int .i64 a0_2) ∧ w'.cell? ⟨gb161, 3, none⟩ = some (.string a0_3) ∧ w'.cell? ⟨gb161, 4, none⟩ = some (.slice A0_4 l0_4.length c0_4) ∧ w'.cell? ⟨gb161, 5, none⟩ = some (.slice (some ad181) l0_5.length c0_5) ∧ w'.cell? ⟨gb162, 0, none⟩ = some (.int .i64 a1_0) ∧ w'.cell? ⟨gb162, 1, none⟩ = some (.string a1_1) ∧ w'.cell? (ad181.add ((x7_1).toNat * 2)) = some (.int .i64 ((rd_T59 l0_5 x7_1).f0)) ∧ w'.cell? ⟨(ad181.add ((x7_1).toNat * 2)).block, (ad181.add ((x7_1).toNat * 2)).off + 1, none⟩ = some (.string ((rd_T59 l0_5 x7_1).f1))) (ds := []) bq_24 (by kernel_rfl) rfl rfl (bc6_ BK161.out (bc2_ BK162.out ⟨((HB.out.cell (World.block_lt_of_cell? w _ hw181_0)).trans hw181_0), ((HB.out.cell (World.block_lt_of_cell? w _ hw181_1)).trans hw181_1)⟩)) (fun hHeld => ?_); refine with_tabW spec_WithEntry.tab7 spec_WithEntry.bits7 (fun HT_ HW_ => ?_)
    generalize wr.drew = w31 at HO_175004 HO_175005 BK161 BK162 BK163 BK174 HB hx181_0 hx181_1 hHeld ⊢
    refine yq_ (i := 0) (N := some 19) bq_25 (any_of HT_.out (by kernel_rfl)) ?_
    refine yq_ (i := 1) (N := some 20) bq_26 (any_of HT_.out (by kernel_rfl)) ?_
    refine yq_ (i := 2) (N := some 21) bq_27 (any_of HT_.out (by kernel_rfl)) ?_
    refine yq_ (i := 3) (N := some 22) bq_28 (any_of HT_.out (by kernel_rfl)) ?_
    refine yq_ (i := 5) (N := some 24) #[true, true, true, true, false, true, false, false, false, false, false, false, false] (any_of HT_.out (by kernel_rfl)) ?_
    refine yq_ (i := 9) (N := some 28) #[true, true, true, true, false, true, false, false, false, true, false, false, false] (any_of HT_.out (by kernel_rfl)) ?_
    refine tk_ (i := 4) (N := some 23) #[true, true, true, true, true, true, false, false, false, true, false, false, false] (take_ofW HT_.out HW_.out (by kernel_rfl)) hHeld ?_
    refine yq_ (i := 6) (N := some 25) #[true, true, true, true, true, true, true, false, false, true, false, false, false] (any_of HT_.out (by kernel_rfl)) ?_
    refine yq_ (i := 7) (N := some 26) #[true, true, true, true, true, true, true, true, false, true, false, false, false] (any_of HT_.out (by kernel_rfl)) ?_
    refine tk_ (i := 8) (N := some 27) bq_29 (take_ofW HT_.out HW_.out (by kernel_rfl)) hHeld ?_
    refine tk_ (i := 10) (N := some 29) bq_30 (take_ofW HT_.out HW_.out (by kernel_rfl)) hHeld ?_
    refine yq_ (i := 11) (N := some 30) bq_31 (any_of HT_.out (by kernel_rfl)) ?_
    refine yq_ (i := 12) (N := some 31) bq_32 (any_of HT_.out (by kernel_rfl)) ?_
    refine done_ (done_of HT_.out (by kernel_rfl)) ?_
    try go_wp2
    go_meet
    case rel => exact ⟨_, ((Op.bytesLess a1_1.toList (((rd_T59 l0_5 x7_1).f1).toList))), (by first | rfl | (simp; done) | exact congrArg Value.bool (bl_leq _ _) | exact congrArg Value.bool (bl_gtr _ _) | (simp only [Value.bool.injEq]; first | exact bl_leq _ _ | exact bl_gtr ..) | (simp [*]; done)), H', ⟨(by have := HK1.out; first | omega | exact Nat.le_refl _)⟩, ⟨tq_121⟩, ⟨tq_94⟩, ⟨tq_45⟩, ⟨tq_38⟩, ⟨tq_64⟩, ⟨tq_116⟩, ⟨tq_9⟩⟩
   case rest =>
    clear HC23
    try clear c1; try clear p1; try clear q1; try clear hx1; try clear c2; try clear p2; try clear c3; try clear c7; try clear c8; try clear c9; try clear c12; try clear c13; try clear c14; try clear p18; try clear q18; try clear hx18; try clear c22; try clear c22b0; try clear c24; try clear c25; try clear c26; try clear c28; try clear c30; try clear c30b0; try clear hcz15_0 hcz15_1 hcz15_2 hcz15_3 hcz15_4 hcz15_5; try clear hcz21_0 hcz21_1 hcz21_2 hcz21_3 hcz21_4 hcz21_5; try clear hcz27_0 hcz27_1 hcz27_2 hcz27_3 hcz27_4 hcz27_5; try clear hcz9_0 hcz9_1 hcz9_2 hcz9_3 hcz9_4 hcz9_5; try clear hfz15_0 hfz15_1 hfz15_2 hfz15_3 hfz15_4 hfz15_5; try clear hfz21_0 hfz21_1 hfz21_2 hfz21_3 hfz21_4 hfz21_5; try clear hfz27_0 hfz27_1 hfz27_2 hfz27_3 hfz27_4 hfz27_5; try clear hfz9_0 hfz9_1 hfz9_2 hfz9_3 hfz9_4 hfz9_5; try clear hx181_0; try clear hx181_1; try clear p181; try clear p2; try clear q181
    obtain ⟨kq, x31_22, rfl, HA, HJ22, HO_175004, HO_175005, BK161, BK162, BK163, BK174, HB⟩ := hcut
    cases kq with
    | zero => exact absurd HA.out (by simp [spec_WithEntry.j1])
    | succ kj22 =>
     have H := HA.out
     clear HA
     simp only [spec_WithEntry.j1] at H
     by_cases c32 : x31_22 = true
     rotate_left
     ·replace c32 := Bool.eq_false_iff.mpr c32
      subst c32
      have H1 : (if 0 ≤ x7_1 then (if x7_1 < (l0_5.length : Int) then (if ((rd_T59 l0_5 x7_1).f1).toList = a1_1.toList then (spec_WithEntry.l0 kj22 x6_1 (wrap64 (x7_1 + 1)) a0_0 a0_1 a0_2 a0_3 l0_4 l0_5 a1_0 a1_1 t164 t165 t166 t167 t168 x175005_1) else (if x175005_1.length < 5864062014805 then (spec_WithEntry.l0 kj22 x6_1 (wrap64 (x7_1 + 1)) a0_0 a0_1 a0_2 a0_3 l0_4 l0_5 a1_0 a1_1 t164 t165 t166 t167 t168 (x175005_1 ++ [(⟨(rd_T59 l0_5 x7_1).f0, (rd_T59 l0_5 x7_1).f1⟩ : S59)])) else (none))) else (none)) else (none)) = some (r1, r2, r3, r4, r5, r6) := by rw [if_neg (show ¬ (false = true) by decide)] at H; exact H
      clear H
      have H := H1
      clear H1
      by_cases c66 : 0 ≤ x7_1
      rotate_left
      ·rw [if_neg c66] at H
       exact absurd H (by simp)
      rw [if_pos c66] at H
      have c66b0 := decide_eq_true c66
      clear c66
      by_cases c67 : x7_1 < (l0_5.length : Int)
      rotate_left
      ·rw [if_neg c67] at H
       exact absurd H (by simp)
      rw [if_pos c67] at H
      have c67b0 := decide_eq_true c67
      clear c67
      by_cases c68 : ((rd_T59 l0_5 x7_1).f1).toList = a1_1.toList
      ·rw [if_pos c68] at H
       have c68b0 : (((rd_T59 l0_5 x7_1).f1).toList == a1_1.toList) = true := beq_iff_eq.mpr c68
       have c68b1 : (((rd_T59 l0_5 x7_1).f1).toList != a1_1.toList) = false := bne_eq_false_iff_eq.mpr c68
       clear c68
       have H' := Aside0.mk H
       clear H
       try go_wp2
       have z_ := p_ (Kd.R_drew HO_175004.out) <| p_ (Kd.R_drew HO_175005.out) <| p_ (blk_drew BK161.out) <| p_ (blk_drew BK162.out) <| p_ (blk_drew BK163.out) <| p_ (blk_drew BK174.out) <| a_ (below_drew1 HB.out)
       clear HO_175004 HO_175005 BK161 BK162 BK163 BK174 HB
       obtain ⟨HO_175004, HO_175005, BK161, BK162, BK163, BK174, HB⟩ := z_
       have p190 : 0 ≤ (x7_1 : Int) := of_decide_eq_true tq_20
       have q190 : x7_1 < (l0_5.length : Int) := of_decide_eq_true tq_20
       obtain ⟨ad190, e190, hx190_0, hx190_1⟩ := at_T59 HR0_5.out x7_1 p190 q190
       have hw190_1 := hx190_1
       have hw190_0 := hx190_0
       cases e190
       replace hx190_0 := hx_ HB.out hx190_0
       replace hx190_1 := hx_ HB.out hx190_1
       replace p190 := eq_true p190
       replace q190 := eq_true q190
       refine start_ (n := 9) (S := fun w' => w'.cell? ⟨gb161, 0, none⟩ = some (.int .i64 a0_0) ∧ w'.cell? ⟨gb161, 1, none⟩ = some (.int .i64 a0_1) ∧ w'.cell? ⟨gb161, 2, none⟩ = some (.int .i64 a0_2) ∧ w'.cell? ⟨gb161, 3, none⟩ = some (.string a0_3) ∧ w'.cell? ⟨gb161, 4, none⟩ = some (.slice A0_4 l0_4.length c0_4) ∧ w'.cell? ⟨gb161, 5, none⟩ = some (.slice (some ad190) l0_5.length c0_5) ∧ w'.cell? ⟨gb162, 0, none⟩ = some (.int .i64 a1_0) ∧ w'.cell? ⟨gb162, 1, none⟩ = some (.string a1_1) ∧ w'.cell? (ad190.add ((x7_1).toNat * 2)) = some (.int .i64 ((rd_T59 l0_5 x7_1).f0)) ∧ w'.cell? ⟨(ad190.add ((x7_1).toNat * 2)).block, (ad190.add ((x7_1).toNat * 2)).off + 1, none⟩ = some (.string ((rd_T59 l0_5 x7_1).f1))) (ds := []) bq_2 (by kernel_rfl) rfl rfl (bc6_ BK161.out (bc2_ BK162.out ⟨((HB.out.cell (World.block_lt_of_cell? w _ hw190_0)).trans hw190_0), ((HB.out.cell (World.block_lt_of_cell? w _ hw190_1)).trans hw190_1)⟩)) (fun hHeld => ?_); refine with_tabW spec_WithEntry.tab10 spec_WithEntry.bits10 (fun HT_ HW_ => ?_)
       generalize wc.drew = w69 at HO_175004 HO_175005 BK161 BK162 BK163 BK174 HB hx190_0 hx190_1 hHeld ⊢
       refine yq_ (i := 0) (N := some 38) bq_3 (any_of HT_.out (by kernel_rfl)) ?_
       refine yq_ (i := 2) (N := some 40) bq_5 (any_of HT_.out (by kernel_rfl)) ?_
       refine yq_ (i := 6) (N := some 44) bq_6 (any_of HT_.out (by kernel_rfl)) ?_
       refine tk_ (i := 1) (N := some 39) bq_7 (take_ofW HT_.out HW_.out (by kernel_rfl)) hHeld ?_
       refine yq_ (i := 3) (N := some 41) bq_8 (any_of HT_.out (by kernel_rfl)) ?_
       refine yq_ (i := 4) (N := some 42) bq_9 (any_of HT_.out (by kernel_rfl)) ?_
       refine tk_ (i := 5) (N := some 43) bq_1 (take_ofW HT_.out HW_.out (by kernel_rfl)) hHeld ?_
       refine tk_ (i := 7) (N := some 45) bq_0 (take_ofW HT_.out HW_.out (by kernel_rfl)) hHeld ?_
       refine yq_ (i := 8) (N := some 46) bq_4 (any_of HT_.out (by kernel_rfl)) ?_
       refine done_ (done_of HT_.out (by kernel_rfl)) ?_
       try go_wp2
       go_roundg kj22
       case measure => have := HK1.out; have := HJ22.out; omega
       case rel => exact ⟨(x6_1), (wrap64 (x7_1 + 1)), (x175005_1), (u175005), tq_36, tq_36, H', ⟨(by have := HK1.out; have := HJ22.out; omega)⟩, ⟨tq_121⟩, ⟨tq_94⟩, ⟨tq_45⟩, ⟨tq_38⟩, ⟨tq_64⟩, ⟨tq_116⟩, ⟨tq_9⟩⟩
      rw [if_neg c68] at H
      have c68b0 : (((rd_T59 l0_5 x7_1).f1).toList == a1_1.toList) = false := beq_eq_false_iff_ne.mpr c68
      have c68b1 : (((rd_T59 l0_5 x7_1).f1).toList != a1_1.toList) = true := bne_iff_ne.mpr c68
      by_cases c70 : x175005_1.length < 5864062014805
      rotate_left
      ·rw [if_neg c70] at H
       exact absurd H (by simp)
      rw [if_pos c70] at H
      have LMc70 := Aside0.mk c70
      clear c70
      obtain ⟨y192, hy192⟩ : ∃ y_ : List (S59), y_ = (x175005_1 ++ [(⟨(rd_T59 l0_5 x7_1).f0, (rd_T59 l0_5 x7_1).f1⟩ : S59)]) := ⟨_, rfl⟩
      replace H : (spec_WithEntry.l0 kj22 x6_1 (wrap64 (x7_1 + 1)) a0_0 a0_1 a0_2 a0_3 l0_4 l0_5 a1_0 a1_1 t164 t165 t166 t167 t168 y192) = some (r1, r2, r3, r4, r5, r6) := by first | (rw [hy192]; with_reducible exact H) | (have H2_ := (Option.bind_some _ _).symm.trans H; rw [hy192]; with_reducible exact H2_) | (have H2_ := (Option.bind_some _ _).symm.trans H; with_reducible exact H2_) | with_reducible exact H | (rw [hy192]; exact H) | exact H
      have Ny192 := Aside0.mk hy192
      clear hy192
      have H' := Aside0.mk H
      clear H
      try go_wp2
      have z_ := p_ (Kd.R_drew HO_175004.out) <| p_ (Kd.R_drew HO_175005.out) <| p_ (blk_drew BK161.out) <| p_ (blk_drew BK162.out) <| p_ (blk_drew BK163.out) <| p_ (blk_drew BK174.out) <| a_ (below_drew1 HB.out)
      clear HO_175004 HO_175005 BK161 BK162 BK163 BK174 HB
      obtain ⟨HO_175004, HO_175005, BK161, BK162, BK163, BK174, HB⟩ := z_
      have p190 : 0 ≤ (x7_1 : Int) := of_decide_eq_true tq_20
      have q190 : x7_1 < (l0_5.length : Int) := of_decide_eq_true tq_20
      obtain ⟨ad190, e190, hx190_0, hx190_1⟩ := at_T59 HR0_5.out x7_1 p190 q190
      have hw190_1 := hx190_1
      have hw190_0 := hx190_0
      cases e190
      replace hx190_0 := hx_ HB.out hx190_0
      replace hx190_1 := hx_ HB.out hx190_1
      replace p190 := eq_true p190
      replace q190 := eq_true q190
      refine start_ (n := 9) (S := fun w' => w'.cell? ⟨gb161, 0, none⟩ = some (.int .i64 a0_0) ∧ w'.cell? ⟨gb161, 1, none⟩ = some (.int .i64 a0_1) ∧ w'.cell? ⟨gb161, 2, none⟩ = some (.int .i64 a0_2) ∧ w'.cell? ⟨gb161, 3, none⟩ = some (.string a0_3) ∧ w'.cell? ⟨gb161, 4, none⟩ = some (.slice A0_4 l0_4.length c0_4) ∧ w'.cell? ⟨gb161, 5, none⟩ = some (.slice (some ad190) l0_5.length c0_5) ∧ w'.cell? ⟨gb162, 0, none⟩ = some (.int .i64 a1_0) ∧ w'.cell? ⟨gb162, 1, none⟩ = some (.string a1_1) ∧ w'.cell? (ad190.add ((x7_1).toNat * 2)) = some (.int .i64 ((rd_T59 l0_5 x7_1).f0)) ∧ w'.cell? ⟨(ad190.add ((x7_1).toNat * 2)).block, (ad190.add ((x7_1).toNat * 2)).off + 1, none⟩ = some (.string ((rd_T59 l0_5 x7_1).f1))) (ds := []) bq_2 (by kernel_rfl) rfl rfl (bc6_ BK161.out (bc2_ BK162.out ⟨((HB.out.cell (World.block_lt_of_cell? w _ hw190_0)).trans hw190_0), ((HB.out.cell (World.block_lt_of_cell? w _ hw190_1)).trans hw190_1)⟩)) (fun hHeld => ?_); refine with_tabW spec_WithEntry.tab10 spec_WithEntry.bits10 (fun HT_ HW_ => ?_)
      generalize wc.drew = w71 at HO_175004 HO_175005 BK161 BK162 BK163 BK174 HB hx190_0 hx190_1 hHeld ⊢
      refine yq_ (i := 0) (N := some 38) bq_3 (any_of HT_.out (by kernel_rfl)) ?_
      refine yq_ (i := 2) (N := some 40) bq_5 (any_of HT_.out (by kernel_rfl)) ?_
      refine yq_ (i := 6) (N := some 44) bq_6 (any_of HT_.out (by kernel_rfl)) ?_
      refine tk_ (i := 1) (N := some 39) bq_7 (take_ofW HT_.out HW_.out (by kernel_rfl)) hHeld ?_
      refine yq_ (i := 3) (N := some 41) bq_8 (any_of HT_.out (by kernel_rfl)) ?_
      refine yq_ (i := 4) (N := some 42) bq_9 (any_of HT_.out (by kernel_rfl)) ?_
      refine tk_ (i := 5) (N := some 43) bq_1 (take_ofW HT_.out HW_.out (by kernel_rfl)) hHeld ?_
      refine tk_ (i := 7) (N := some 45) bq_0 (take_ofW HT_.out HW_.out (by kernel_rfl)) hHeld ?_
      refine yq_ (i := 8) (N := some 46) bq_4 (any_of HT_.out (by kernel_rfl)) ?_
      refine done_ (done_of HT_.out (by kernel_rfl)) ?_
      try go_wp2
      have z_ := p_ (Kd.R_drew HO_175004.out) <| p_ (Kd.R_drew HO_175005.out) <| p_ (blk_drew BK161.out) <| p_ (blk_drew BK162.out) <| p_ (blk_drew BK163.out) <| p_ (blk_drew BK174.out) <| a_ (below_drew1 HB.out)
      clear HO_175004 HO_175005 BK161 BK162 BK163 BK174 HB
      obtain ⟨HO_175004, HO_175005, BK161, BK162, BK163, BK174, HB⟩ := z_
      have p191 : 0 ≤ (x7_1 : Int) := of_decide_eq_true tq_20
      have q191 : x7_1 < (l0_5.length : Int) := of_decide_eq_true tq_20
      obtain ⟨ad191, e191, hx191_0, hx191_1⟩ := at_T59 HR0_5.out x7_1 p191 q191
      have hw191_1 := hx191_1
      have hw191_0 := hx191_0
      obtain rfl : ad190 = ad191 := (by injection e191)
      replace hx191_0 := hx_ HB.out hx191_0
      replace hx191_1 := hx_ HB.out hx191_1
      replace p191 := eq_true p191
      replace q191 := eq_true q191
      refine start_ (n := 11) (S := fun w' => w'.cell? ⟨gb174, 0, none⟩ = some (.int .i64 t164) ∧ w'.cell? ⟨gb174, 1, none⟩ = some (.int .i64 t165) ∧ w'.cell? ⟨gb174, 2, none⟩ = some (.int .i64 t166) ∧ w'.cell? ⟨gb174, 3, none⟩ = some (.string t167) ∧ w'.cell? ⟨gb174, 4, none⟩ = some (.slice Ao16 t168.length co16) ∧ w'.cell? ⟨gb174, 5, none⟩ = some (u175005) ∧ w'.cell? ⟨gb161, 0, none⟩ = some (.int .i64 a0_0) ∧ w'.cell? ⟨gb161, 1, none⟩ = some (.int .i64 a0_1) ∧ w'.cell? ⟨gb161, 2, none⟩ = some (.int .i64 a0_2) ∧ w'.cell? ⟨gb161, 3, none⟩ = some (.string a0_3) ∧ w'.cell? ⟨gb161, 4, none⟩ = some (.slice A0_4 l0_4.length c0_4) ∧ w'.cell? ⟨gb161, 5, none⟩ = some (.slice (some ad190) l0_5.length c0_5) ∧ w'.cell? (ad190.add ((x7_1).toNat * 2)) = some (.int .i64 ((rd_T59 l0_5 x7_1).f0)) ∧ w'.cell? ⟨(ad190.add ((x7_1).toNat * 2)).block, (ad190.add ((x7_1).toNat * 2)).off + 1, none⟩ = some (.string ((rd_T59 l0_5 x7_1).f1))) (ds := [10]) bq_10 (by kernel_rfl) rfl rfl (bc6_ BK174.out (bc6_ BK161.out ⟨((HB.out.cell (World.block_lt_of_cell? w _ hw191_0)).trans hw191_0), ((HB.out.cell (World.block_lt_of_cell? w _ hw191_1)).trans hw191_1)⟩)) (fun hHeld => ?_); refine with_tabW spec_WithEntry.tab11 spec_WithEntry.bits11 (fun HT_ HW_ => ?_)
      generalize w71.drew = w72 at HO_175004 HO_175005 BK161 BK162 BK163 BK174 HB hx191_0 hx191_1 hHeld ⊢
      refine yq_ (i := 0) (N := some 47) bq_11 (any_of HT_.out (by kernel_rfl)) ?_
      refine yq_ (i := 2) (N := some 49) bq_12 (any_of HT_.out (by kernel_rfl)) ?_
      refine yq_ (i := 4) (N := some 51) bq_13 (any_of HT_.out (by kernel_rfl)) ?_
      refine tk_ (i := 1) (N := some 48) bq_14 (take_ofW HT_.out HW_.out (by kernel_rfl)) hHeld ?_
      refine tk_ (i := 3) (N := some 50) bq_15 (take_ofW HT_.out HW_.out (by kernel_rfl)) hHeld ?_
      refine yq_ (i := 5) (N := some 52) bq_16 (any_of HT_.out (by kernel_rfl)) ?_
      refine tk_ (i := 6) (N := some 53) bq_17 (take_ofW HT_.out HW_.out (by kernel_rfl)) hHeld ?_
      refine one_ (i := 7) (N := some 54) bq_18 rfl rfl (one_of HT_.out (by kernel_rfl)) (by decide) (fun K hK => ?_)
      refine value_ (w1 := ?_) (v := ?_) (by rfl) rfl ?_ ?_
      rotate_left 2
      ·go_simp
       constructor
       ·rfl
       ·rfl
      refine hK.out _ _ ⟨(blk_cell (blk_alloc BK174.out _) 0).trans rfl, (blk_cell (blk_alloc BK174.out _) 1).trans rfl, (blk_cell (blk_alloc BK174.out _) 2).trans rfl, (blk_cell (blk_alloc BK174.out _) 3).trans rfl, (blk_cell (blk_alloc BK174.out _) 4).trans rfl, (blk_cell (blk_alloc BK174.out _) 5).trans rfl, (blk_cell (blk_alloc BK161.out _) 0).trans rfl, (blk_cell (blk_alloc BK161.out _) 1).trans rfl, (blk_cell (blk_alloc BK161.out _) 2).trans rfl, (blk_cell (blk_alloc BK161.out _) 3).trans rfl, (blk_cell (blk_alloc BK161.out _) 4).trans rfl, (blk_cell (blk_alloc BK161.out _) 5).trans rfl, (World.cell?_alloc_lt _ _ _ (World.block_lt_of_cell? _ _ (((HB.out.cell (World.block_lt_of_cell? w _ hw191_0)).trans hw191_0)))).trans (((HB.out.cell (World.block_lt_of_cell? w _ hw191_0)).trans hw191_0)), (World.cell?_alloc_lt _ _ _ (World.block_lt_of_cell? _ _ (((HB.out.cell (World.block_lt_of_cell? w _ hw191_1)).trans hw191_1)))).trans (((HB.out.cell (World.block_lt_of_cell? w _ hw191_1)).trans hw191_1))⟩ (fun hHeld => ?_)
      clear hK K
      refine nm_ (some 54) ?_
      refine one_ (i := 8) (N := some 55) bq_19 rfl rfl (one_of HT_.out (by kernel_rfl)) (by decide) (fun K hK => ?_)
      refine Kd.R_append_step k59 (w0 := w) w.heap.size (by rfl) (.tmp 48) (.tmp 54) 47 59 (.agg #[(.int .i64 0), (.string ⟨#[]⟩)]) 24 rfl Try.underlying47 info59 rfl (by decide) (by omega) u175005 x175005_1 (⟨(rd_T59 l0_5 x7_1).f0, (rd_T59 l0_5 x7_1).f1⟩ : S59) [.int .i64 ((rd_T59 l0_5 x7_1).f0), .string ((rd_T59 l0_5 x7_1).f1)] (fun k_ => k_ ≠ gb162) (fun _ => False) rfl rfl ?aP (fun _ hk => hk.elim) ?aF ?aO ?aB ?aS ?aL ?_
      (case aP => exact k59_mkM _ _ _ (⟨(rd_T59 l0_5 x7_1).f0, (rd_T59 l0_5 x7_1).f1⟩ : S59))
      (case aB => exact tq_9)
      (case aF => exact tq_172)
      (case aO => exact tq_94)
      (case aS => exact (below_size tq_9))
      (case aL => have := LMc70.out; omega)
      intro v193 w73 ho hb hg hat
      rw [← Ny192.out] at ho
      have z_ := p_ (Kd.R_over' tq_121 (Kd.R_typed tq_94) (by decide) hg) <| p_ (blk_grown (g := gb161) (o := .cells #[.int .i64 a0_0, .int .i64 a0_1, .int .i64 a0_2, .string a0_3, .slice A0_4 l0_4.length c0_4, .slice (some ad190) l0_5.length c0_5] 49 (0, 0)) tq_45 hg (Kd.R_ne HO_175005.out BK161.out (by decide))) <| p_ (blk_grown (g := gb162) (o := .cells #[.int .i64 a1_0, .string a1_1] 59 (0, 0)) tq_38 hg (Kd.R_away HO_175005.out (fun _ hk => hk))) <| p_ (blk_grown (g := gb163) (o := .cells #[.int .i64 0, .int .i64 0, .int .i64 0, .string (⟨#[]⟩ : ByteArray), .slice none 0 0, .slice none 0 0] 49 (0, 0)) tq_64 hg (Kd.R_ne HO_175005.out BK163.out (by decide))) <| p_ (blk_grown (g := gb174) (o := .cells #[.int .i64 t164, .int .i64 t165, .int .i64 t166, .string t167, .slice Ao16 t168.length co16, u175005] 49 (0, 0)) tq_116 hg (Kd.R_ne HO_175005.out BK174.out (by decide))) <| p_ (hb) <| a_ (ho)
      clear HO_175004 BK161 BK162 BK163 BK174 HB HO_175005
      obtain ⟨HO_175004, BK161, BK162, BK163, BK174, HB, HO194⟩ := z_
      clear ho hb hg hat
      obtain ⟨Ao74, co74, eo74⟩ := Kd.R_slice HO194.out
      (first | subst eo74 | (injection eo74 with f1_ f2_ f3_; have f4_ := f1_.symm; have f5_ := f3_.symm; clear f1_ f2_ f3_; subst f4_; subst f5_))
      refine hK.out _ _ (bc6_ BK174.out (bc6_ BK161.out ⟨((HB.out.cell (World.block_lt_of_cell? w _ hw191_0)).trans hw191_0), ((HB.out.cell (World.block_lt_of_cell? w _ hw191_1)).trans hw191_1)⟩)) (fun hHeld => ?_)
      clear hK K
      refine nm_ (some 55) ?_
      refine yq_ (i := 9) (N := some 56) bq_20 (any_of HT_.out (by kernel_rfl)) ?_
      refine last_ (i := 10) (N := none) bq_21 rfl rfl (one_of HT_.out (by kernel_rfl)) (by decide) (fun K hK => ?_)
      have hs75 : w73.cell? ⟨gb174, 5, none⟩ = some (u175005) := (blk_cell BK174.out 5).trans rfl
      have hfs75 := blk_frozen BK174.out 5
      have hns75_0 := NB161_174.out
      have hns75_1 := NB162_174.out
      have hns75_2 := NB163_174.out
      have hms75_0 := NB174_161.out
      have hms75_1 := NB174_162.out
      have hms75_2 := NB174_163.out
      refine skip_ (w1 := ?_) (by rfl) rfl ?_ ?_
      rotate_left
      ·go_simp
       rfl
      refine hK.out _ _ ?_
      clear hK K
      refine done_ (done_of HT_.out (by kernel_rfl)) ?_
      try go_wp2
      go_roundg kj22
      case measure => have := HK1.out; have := HJ22.out; omega
      case rel => exact ⟨(x6_1), (wrap64 (x7_1 + 1)), (y192), (.slice Ao74 y192.length co74), tq_36, tq_36, H', ⟨(by have := HK1.out; have := HJ22.out; omega)⟩, ⟨(by (with_reducible repeat (first | apply Kd.R_alloc | apply Kd.R_drewN | apply Kd.R_drew)); exact Kd.R_mono (Kd.R_far (p := ⟨gb174, 5, none⟩) (Kd.R_types HO_175004.out BK174.out (by decide)) (fun _ hk => hk.2) (.slice Ao74 y192.length co74)) (fun _ hk => trivial))⟩, ⟨(by (with_reducible repeat (first | apply Kd.R_alloc | apply Kd.R_drewN | apply Kd.R_drew)); exact Kd.R_mono (Kd.R_far (p := ⟨gb174, 5, none⟩) (Kd.R_types HO194.out BK174.out (by decide)) (fun _ hk => hk.2) (.slice Ao74 y192.length co74)) (fun _ hk => hk.1))⟩, ⟨tq_100⟩, ⟨tq_99⟩, ⟨tq_98⟩, ⟨tq_130⟩, ⟨tq_9⟩⟩
     subst c32
     have H1 : (if x175005_1.length < 5864062014805 then ((some (x175005_1 ++ [(⟨a1_0, a1_1⟩ : S59)] : List (S59))).bind fun y182 => (if 0 ≤ x7_1 then (if x7_1 < (l0_5.length : Int) then (if ((rd_T59 l0_5 x7_1).f1).toList = a1_1.toList then (spec_WithEntry.l0 kj22 true (wrap64 (x7_1 + 1)) a0_0 a0_1 a0_2 a0_3 l0_4 l0_5 a1_0 a1_1 t164 t165 t166 t167 t168 y182) else (if y182.length < 5864062014805 then (spec_WithEntry.l0 kj22 true (wrap64 (x7_1 + 1)) a0_0 a0_1 a0_2 a0_3 l0_4 l0_5 a1_0 a1_1 t164 t165 t166 t167 t168 (y182 ++ [(⟨(rd_T59 l0_5 x7_1).f0, (rd_T59 l0_5 x7_1).f1⟩ : S59)])) else (none))) else (none)) else (none))) else (none)) = some (r1, r2, r3, r4, r5, r6) := by rw [if_pos rfl] at H; exact H
     clear H
     have H := H1
     clear H1
     by_cases c33 : x175005_1.length < 5864062014805
     rotate_left
     ·rw [if_neg c33] at H
      exact absurd H (by simp)
     rw [if_pos c33] at H
     have LMc33 := Aside0.mk c33
     clear c33
     obtain ⟨y182, hy182⟩ : ∃ y_ : List (S59), y_ = (x175005_1 ++ [(⟨a1_0, a1_1⟩ : S59)]) := ⟨_, rfl⟩
     replace H : (if 0 ≤ x7_1 then (if x7_1 < (l0_5.length : Int) then (if ((rd_T59 l0_5 x7_1).f1).toList = a1_1.toList then (spec_WithEntry.l0 kj22 true (wrap64 (x7_1 + 1)) a0_0 a0_1 a0_2 a0_3 l0_4 l0_5 a1_0 a1_1 t164 t165 t166 t167 t168 y182) else (if y182.length < 5864062014805 then (spec_WithEntry.l0 kj22 true (wrap64 (x7_1 + 1)) a0_0 a0_1 a0_2 a0_3 l0_4 l0_5 a1_0 a1_1 t164 t165 t166 t167 t168 (y182 ++ [(⟨(rd_T59 l0_5 x7_1).f0, (rd_T59 l0_5 x7_1).f1⟩ : S59)])) else (none))) else (none)) else (none)) = some (r1, r2, r3, r4, r5, r6) := by first | (rw [hy182]; with_reducible exact H) | (have H2_ := (Option.bind_some _ _).symm.trans H; rw [hy182]; with_reducible exact H2_) | (have H2_ := (Option.bind_some _ _).symm.trans H; with_reducible exact H2_) | with_reducible exact H | (rw [hy182]; exact H) | exact H
     have Ny182 := Aside0.mk hy182
     clear hy182
     by_cases c34 : 0 ≤ x7_1
     rotate_left
     ·rw [if_neg c34] at H
      exact absurd H (by simp)
     rw [if_pos c34] at H
     have c34b0 := decide_eq_true c34
     clear c34
     by_cases c35 : x7_1 < (l0_5.length : Int)
     rotate_left
     ·rw [if_neg c35] at H
      exact absurd H (by simp)
     rw [if_pos c35] at H
     have c35b0 := decide_eq_true c35
     clear c35
     by_cases c36 : ((rd_T59 l0_5 x7_1).f1).toList = a1_1.toList
     ·rw [if_pos c36] at H
      have c36b0 : (((rd_T59 l0_5 x7_1).f1).toList == a1_1.toList) = true := beq_iff_eq.mpr c36
      have c36b1 : (((rd_T59 l0_5 x7_1).f1).toList != a1_1.toList) = false := bne_eq_false_iff_eq.mpr c36
      clear c36
      have H' := Aside0.mk H
      clear H
      have hnb37 := NB174_161.out
      have hnc37 := NB161_174.out
      have hnb38 := NB174_162.out
      have hnc38 := NB162_174.out
      have hnb39 := NB174_163.out
      have hnc39 := NB163_174.out
      obtain ⟨hcz40_0, hcz40_1, hcz40_2, hcz40_3, hcz40_4, hcz40_5⟩ := bk6_ BK174.out
      obtain ⟨hfz40_0, hfz40_1, hfz40_2, hfz40_3, hfz40_4, hfz40_5⟩ := bf6_ BK174.out
      have hnb41 := NB162_161.out
      have hnc41 := NB161_162.out
      have hnb42 := NB162_163.out
      have hnc42 := NB163_162.out
      obtain ⟨hcz43_0, hcz43_1⟩ := bk2_ BK162.out
      obtain ⟨hfz43_0, hfz43_1⟩ := bf2_ BK162.out
      try go_wp2_with (first | ((with_reducible refine gate_builtin (b := .append) (xs := #[.tmp 33, .tmp 35]) rfl ?_); at_builtin; refine Kd.R_append k59 (w0 := w) w.heap.size rfl (.tmp 33) (.tmp 35) 47 59 (.agg #[(.int .i64 0), (.string ⟨#[]⟩)]) 24 rfl Try.underlying47 info59 rfl (by decide) (by omega) u175005 x175005_1 (⟨a1_0, a1_1⟩ : S59) [.int .i64 a1_0, .string a1_1] (fun k_ => k_ ≠ gb162) (fun _ => False) rfl rfl ?aP (fun _ hk => hk.elim) ?aF ?aO ?aB ?aS ?aL ?_; (case aP => exact k59_mkM _ _ _ (⟨a1_0, a1_1⟩ : S59)); (case aB => exact tq_9); (case aF => exact tq_172); (case aO => exact tq_94); (case aS => exact (below_size tq_9)); (case aL => have := LMc33.out; omega); intro v183 w44 ho hb hg hat; rw [← Ny182.out] at ho; have z_ := p_ (Kd.R_over' tq_121 (Kd.R_typed tq_94) (by decide) hg) <| p_ (blk_grown (g := gb161) (o := .cells #[.int .i64 a0_0, .int .i64 a0_1, .int .i64 a0_2, .string a0_3, .slice A0_4 l0_4.length c0_4, .slice A0_5 l0_5.length c0_5] 49 (0, 0)) tq_45 hg (Kd.R_ne HO_175005.out BK161.out (by decide))) <| p_ (blk_grown (g := gb162) (o := .cells #[.int .i64 a1_0, .string a1_1] 59 (0, 0)) tq_38 hg (Kd.R_away HO_175005.out (fun _ hk => hk))) <| p_ (blk_grown (g := gb163) (o := .cells #[.int .i64 0, .int .i64 0, .int .i64 0, .string (⟨#[]⟩ : ByteArray), .slice none 0 0, .slice none 0 0] 49 (0, 0)) tq_64 hg (Kd.R_ne HO_175005.out BK163.out (by decide))) <| p_ (blk_grown (g := gb174) (o := .cells #[.int .i64 t164, .int .i64 t165, .int .i64 t166, .string t167, .slice Ao16 t168.length co16, u175005] 49 (0, 0)) tq_116 hg (Kd.R_ne HO_175005.out BK174.out (by decide))) <| p_ (hb) <| a_ (ho); clear HO_175004 BK161 BK162 BK163 BK174 HB HO_175005; obtain ⟨HO_175004, BK161, BK162, BK163, BK174, HB, HO184⟩ := z_; clear ho hb hg hat; obtain ⟨Ao45, co45, eo45⟩ := Kd.R_slice HO184.out; subst eo45; obtain ⟨hcz46_0, hcz46_1, hcz46_2, hcz46_3, hcz46_4, hcz46_5⟩ := bk6_ BK174.out; obtain ⟨hfz46_0, hfz46_1, hfz46_2, hfz46_3, hfz46_4, hfz46_5⟩ := bf6_ BK174.out))
      have n0_ : Aside0 (Kd.R k170 170 (w44.setCell ⟨gb174, 5, none⟩ (.slice Ao45 y182.length co45)) w.heap.size (fun _ => True) (.slice Ao16 t168.length co16) t168) := ⟨(by (with_reducible repeat (first | apply Kd.R_alloc | apply Kd.R_drewN | apply Kd.R_drew)); exact Kd.R_mono (Kd.R_far (p := ⟨gb174, 5, none⟩) (Kd.R_types HO_175004.out BK174.out (by decide)) (fun _ hk => hk.2) (.slice Ao45 y182.length co45)) (fun _ hk => trivial))⟩
      have n1_ : Aside0 (Kd.R k59 59 (w44.setCell ⟨gb174, 5, none⟩ (.slice Ao45 y182.length co45)) w.heap.size (fun k_ => k_ ≠ gb162) (.slice Ao45 y182.length co45) y182) := ⟨(by (with_reducible repeat (first | apply Kd.R_alloc | apply Kd.R_drewN | apply Kd.R_drew)); exact Kd.R_mono (Kd.R_far (p := ⟨gb174, 5, none⟩) (Kd.R_types HO184.out BK174.out (by decide)) (fun _ hk => hk.2) (.slice Ao45 y182.length co45)) (fun _ hk => hk.1))⟩
      have n2_ : Aside0 ((w44.setCell ⟨gb174, 5, none⟩ (.slice Ao45 y182.length co45)).heap[gb161]? = some (.cells #[.int .i64 a0_0, .int .i64 a0_1, .int .i64 a0_2, .string a0_3, .slice A0_4 l0_4.length c0_4, .slice A0_5 l0_5.length c0_5] 49 (0, 0))) := ⟨tq_100⟩
      have n3_ : Aside0 ((w44.setCell ⟨gb174, 5, none⟩ (.slice Ao45 y182.length co45)).heap[gb162]? = some (.cells #[.int .i64 a1_0, .string a1_1] 59 (0, 0))) := ⟨tq_99⟩
      have n4_ : Aside0 ((w44.setCell ⟨gb174, 5, none⟩ (.slice Ao45 y182.length co45)).heap[gb163]? = some (.cells #[.int .i64 0, .int .i64 0, .int .i64 0, .string (⟨#[]⟩ : ByteArray), .slice none 0 0, .slice none 0 0] 49 (0, 0))) := ⟨tq_98⟩
      have n5_ : Aside0 ((w44.setCell ⟨gb174, 5, none⟩ (.slice Ao45 y182.length co45)).heap[gb174]? = some (.cells #[.int .i64 t164, .int .i64 t165, .int .i64 t166, .string t167, .slice Ao16 t168.length co16, .slice Ao45 y182.length co45] 49 (0, 0))) := ⟨tq_130⟩
      have n6_ : Aside0 (Below w.heap.size w (w44.setCell ⟨gb174, 5, none⟩ (.slice Ao45 y182.length co45))) := ⟨tq_9⟩
      (try clear HO_175004)
      (try clear HO184)
      (try clear BK161)
      (try clear BK162)
      (try clear BK163)
      (try clear BK174)
      (try clear HB)
      generalize (w44.setCell ⟨gb174, 5, none⟩ (.slice Ao45 y182.length co45)) = w47 at n0_ n1_ n2_ n3_ n4_ n5_ n6_ ⊢
      have HO_175004 := n0_
      have HO184 := n1_
      have BK161 := n2_
      have BK162 := n3_
      have BK163 := n4_
      have BK174 := n5_
      have HB := n6_
      clear n0_ n1_ n2_ n3_ n4_ n5_ n6_
      have z_ := p_ (Kd.R_drew HO_175004.out) <| p_ (Kd.R_drew HO184.out) <| p_ (blk_drew BK161.out) <| p_ (blk_drew BK162.out) <| p_ (blk_drew BK163.out) <| p_ (blk_drew BK174.out) <| a_ (below_drew1 HB.out)
      clear HO_175004 HO184 BK161 BK162 BK163 BK174 HB
      obtain ⟨HO_175004, HO184, BK161, BK162, BK163, BK174, HB⟩ := z_
      have p185 : 0 ≤ (x7_1 : Int) := of_decide_eq_true tq_20
      have q185 : x7_1 < (l0_5.length : Int) := of_decide_eq_true tq_20
      obtain ⟨ad185, e185, hx185_0, hx185_1⟩ := at_T59 HR0_5.out x7_1 p185 q185
      have hw185_1 := hx185_1
      have hw185_0 := hx185_0
      cases e185
      replace hx185_0 := hx_ HB.out hx185_0
      replace hx185_1 := hx_ HB.out hx185_1
      replace p185 := eq_true p185
      replace q185 := eq_true q185
      refine start_ (n := 9) (S := fun w' => w'.cell? ⟨gb161, 0, none⟩ = some (.int .i64 a0_0) ∧ w'.cell? ⟨gb161, 1, none⟩ = some (.int .i64 a0_1) ∧ w'.cell? ⟨gb161, 2, none⟩ = some (.int .i64 a0_2) ∧ w'.cell? ⟨gb161, 3, none⟩ = some (.string a0_3) ∧ w'.cell? ⟨gb161, 4, none⟩ = some (.slice A0_4 l0_4.length c0_4) ∧ w'.cell? ⟨gb161, 5, none⟩ = some (.slice (some ad185) l0_5.length c0_5) ∧ w'.cell? ⟨gb162, 0, none⟩ = some (.int .i64 a1_0) ∧ w'.cell? ⟨gb162, 1, none⟩ = some (.string a1_1) ∧ w'.cell? (ad185.add ((x7_1).toNat * 2)) = some (.int .i64 ((rd_T59 l0_5 x7_1).f0)) ∧ w'.cell? ⟨(ad185.add ((x7_1).toNat * 2)).block, (ad185.add ((x7_1).toNat * 2)).off + 1, none⟩ = some (.string ((rd_T59 l0_5 x7_1).f1))) (ds := []) bq_2 (by kernel_rfl) rfl rfl (bc6_ BK161.out (bc2_ BK162.out ⟨((HB.out.cell (World.block_lt_of_cell? w _ hw185_0)).trans hw185_0), ((HB.out.cell (World.block_lt_of_cell? w _ hw185_1)).trans hw185_1)⟩)) (fun hHeld => ?_); refine with_tabW spec_WithEntry.tab10 spec_WithEntry.bits10 (fun HT_ HW_ => ?_)
      generalize w47.drew = w48 at HO_175004 HO184 BK161 BK162 BK163 BK174 HB hx185_0 hx185_1 hHeld ⊢
      refine yq_ (i := 0) (N := some 38) bq_3 (any_of HT_.out (by kernel_rfl)) ?_
      refine yq_ (i := 2) (N := some 40) bq_5 (any_of HT_.out (by kernel_rfl)) ?_
      refine yq_ (i := 6) (N := some 44) bq_6 (any_of HT_.out (by kernel_rfl)) ?_
      refine tk_ (i := 1) (N := some 39) bq_7 (take_ofW HT_.out HW_.out (by kernel_rfl)) hHeld ?_
      refine yq_ (i := 3) (N := some 41) bq_8 (any_of HT_.out (by kernel_rfl)) ?_
      refine yq_ (i := 4) (N := some 42) bq_9 (any_of HT_.out (by kernel_rfl)) ?_
      refine tk_ (i := 5) (N := some 43) bq_1 (take_ofW HT_.out HW_.out (by kernel_rfl)) hHeld ?_
      refine tk_ (i := 7) (N := some 45) bq_0 (take_ofW HT_.out HW_.out (by kernel_rfl)) hHeld ?_
      refine yq_ (i := 8) (N := some 46) bq_4 (any_of HT_.out (by kernel_rfl)) ?_
      refine done_ (done_of HT_.out (by kernel_rfl)) ?_
      try go_wp2
      go_roundg kj22
      case measure => have := HK1.out; have := HJ22.out; omega
      case rel => exact ⟨(true), (wrap64 (x7_1 + 1)), (y182), (.slice Ao45 y182.length co45), tq_36, tq_36, H', ⟨(by have := HK1.out; have := HJ22.out; omega)⟩, ⟨tq_121⟩, ⟨tq_204⟩, ⟨tq_45⟩, ⟨tq_38⟩, ⟨tq_64⟩, ⟨tq_116⟩, ⟨tq_9⟩⟩
     rw [if_neg c36] at H
     have c36b0 : (((rd_T59 l0_5 x7_1).f1).toList == a1_1.toList) = false := beq_eq_false_iff_ne.mpr c36
     have c36b1 : (((rd_T59 l0_5 x7_1).f1).toList != a1_1.toList) = true := bne_iff_ne.mpr c36
     by_cases c49 : y182.length < 5864062014805
     rotate_left
     ·rw [if_neg c49] at H
      exact absurd H (by simp)
     rw [if_pos c49] at H
     have LMc49 := Aside0.mk c49
     clear c49
     obtain ⟨y187, hy187⟩ : ∃ y_ : List (S59), y_ = (y182 ++ [(⟨(rd_T59 l0_5 x7_1).f0, (rd_T59 l0_5 x7_1).f1⟩ : S59)]) := ⟨_, rfl⟩
     replace H : (spec_WithEntry.l0 kj22 true (wrap64 (x7_1 + 1)) a0_0 a0_1 a0_2 a0_3 l0_4 l0_5 a1_0 a1_1 t164 t165 t166 t167 t168 y187) = some (r1, r2, r3, r4, r5, r6) := by first | (rw [hy187]; with_reducible exact H) | (have H2_ := (Option.bind_some _ _).symm.trans H; rw [hy187]; with_reducible exact H2_) | (have H2_ := (Option.bind_some _ _).symm.trans H; with_reducible exact H2_) | with_reducible exact H | (rw [hy187]; exact H) | exact H
     have Ny187 := Aside0.mk hy187
     clear hy187
     have H' := Aside0.mk H
     clear H
     have hnb50 := NB174_161.out
     have hnc50 := NB161_174.out
     have hnb51 := NB174_162.out
     have hnc51 := NB162_174.out
     have hnb52 := NB174_163.out
     have hnc52 := NB163_174.out
     obtain ⟨hcz53_0, hcz53_1, hcz53_2, hcz53_3, hcz53_4, hcz53_5⟩ := bk6_ BK174.out
     obtain ⟨hfz53_0, hfz53_1, hfz53_2, hfz53_3, hfz53_4, hfz53_5⟩ := bf6_ BK174.out
     have hnb54 := NB162_161.out
     have hnc54 := NB161_162.out
     have hnb55 := NB162_163.out
     have hnc55 := NB163_162.out
     obtain ⟨hcz56_0, hcz56_1⟩ := bk2_ BK162.out
     obtain ⟨hfz56_0, hfz56_1⟩ := bf2_ BK162.out
     try go_wp2_with (first | ((with_reducible refine gate_builtin (b := .append) (xs := #[.tmp 33, .tmp 35]) rfl ?_); at_builtin; refine Kd.R_append k59 (w0 := w) w.heap.size rfl (.tmp 33) (.tmp 35) 47 59 (.agg #[(.int .i64 0), (.string ⟨#[]⟩)]) 24 rfl Try.underlying47 info59 rfl (by decide) (by omega) u175005 x175005_1 (⟨a1_0, a1_1⟩ : S59) [.int .i64 a1_0, .string a1_1] (fun k_ => k_ ≠ gb162) (fun _ => False) rfl rfl ?aP (fun _ hk => hk.elim) ?aF ?aO ?aB ?aS ?aL ?_; (case aP => exact k59_mkM _ _ _ (⟨a1_0, a1_1⟩ : S59)); (case aB => exact tq_9); (case aF => exact tq_172); (case aO => exact tq_94); (case aS => exact (below_size tq_9)); (case aL => have := LMc33.out; omega); intro v183 w57 ho hb hg hat; rw [← Ny182.out] at ho; have z_ := p_ (Kd.R_over' tq_121 (Kd.R_typed tq_94) (by decide) hg) <| p_ (blk_grown (g := gb161) (o := .cells #[.int .i64 a0_0, .int .i64 a0_1, .int .i64 a0_2, .string a0_3, .slice A0_4 l0_4.length c0_4, .slice A0_5 l0_5.length c0_5] 49 (0, 0)) tq_45 hg (Kd.R_ne HO_175005.out BK161.out (by decide))) <| p_ (blk_grown (g := gb162) (o := .cells #[.int .i64 a1_0, .string a1_1] 59 (0, 0)) tq_38 hg (Kd.R_away HO_175005.out (fun _ hk => hk))) <| p_ (blk_grown (g := gb163) (o := .cells #[.int .i64 0, .int .i64 0, .int .i64 0, .string (⟨#[]⟩ : ByteArray), .slice none 0 0, .slice none 0 0] 49 (0, 0)) tq_64 hg (Kd.R_ne HO_175005.out BK163.out (by decide))) <| p_ (blk_grown (g := gb174) (o := .cells #[.int .i64 t164, .int .i64 t165, .int .i64 t166, .string t167, .slice Ao16 t168.length co16, u175005] 49 (0, 0)) tq_116 hg (Kd.R_ne HO_175005.out BK174.out (by decide))) <| p_ (hb) <| a_ (ho); clear HO_175004 BK161 BK162 BK163 BK174 HB HO_175005; obtain ⟨HO_175004, BK161, BK162, BK163, BK174, HB, HO184⟩ := z_; clear ho hb hg hat; obtain ⟨Ao58, co58, eo58⟩ := Kd.R_slice HO184.out; subst eo58; obtain ⟨hcz59_0, hcz59_1, hcz59_2, hcz59_3, hcz59_4, hcz59_5⟩ := bk6_ BK174.out; obtain ⟨hfz59_0, hfz59_1, hfz59_2, hfz59_3, hfz59_4, hfz59_5⟩ := bf6_ BK174.out))
     have n0_ : Aside0 (Kd.R k170 170 (w57.setCell ⟨gb174, 5, none⟩ (.slice Ao58 y182.length co58)) w.heap.size (fun _ => True) (.slice Ao16 t168.length co16) t168) := ⟨(by (with_reducible repeat (first | apply Kd.R_alloc | apply Kd.R_drewN | apply Kd.R_drew)); exact Kd.R_mono (Kd.R_far (p := ⟨gb174, 5, none⟩) (Kd.R_types HO_175004.out BK174.out (by decide)) (fun _ hk => hk.2) (.slice Ao58 y182.length co58)) (fun _ hk => trivial))⟩
     have n1_ : Aside0 (Kd.R k59 59 (w57.setCell ⟨gb174, 5, none⟩ (.slice Ao58 y182.length co58)) w.heap.size (fun k_ => k_ ≠ gb162) (.slice Ao58 y182.length co58) y182) := ⟨(by (with_reducible repeat (first | apply Kd.R_alloc | apply Kd.R_drewN | apply Kd.R_drew)); exact Kd.R_mono (Kd.R_far (p := ⟨gb174, 5, none⟩) (Kd.R_types HO184.out BK174.out (by decide)) (fun _ hk => hk.2) (.slice Ao58 y182.length co58)) (fun _ hk => hk.1))⟩
     have n2_ : Aside0 ((w57.setCell ⟨gb174, 5, none⟩ (.slice Ao58 y182.length co58)).heap[gb161]? = some (.cells #[.int .i64 a0_0, .int .i64 a0_1, .int .i64 a0_2, .string a0_3, .slice A0_4 l0_4.length c0_4, .slice A0_5 l0_5.length c0_5] 49 (0, 0))) := ⟨tq_100⟩
     have n3_ : Aside0 ((w57.setCell ⟨gb174, 5, none⟩ (.slice Ao58 y182.length co58)).heap[gb162]? = some (.cells #[.int .i64 a1_0, .string a1_1] 59 (0, 0))) := ⟨tq_99⟩
     have n4_ : Aside0 ((w57.setCell ⟨gb174, 5, none⟩ (.slice Ao58 y182.length co58)).heap[gb163]? = some (.cells #[.int .i64 0, .int .i64 0, .int .i64 0, .string (⟨#[]⟩ : ByteArray), .slice none 0 0, .slice none 0 0] 49 (0, 0))) := ⟨tq_98⟩
     have n5_ : Aside0 ((w57.setCell ⟨gb174, 5, none⟩ (.slice Ao58 y182.length co58)).heap[gb174]? = some (.cells #[.int .i64 t164, .int .i64 t165, .int .i64 t166, .string t167, .slice Ao16 t168.length co16, .slice Ao58 y182.length co58] 49 (0, 0))) := ⟨tq_130⟩
     have n6_ : Aside0 (Below w.heap.size w (w57.setCell ⟨gb174, 5, none⟩ (.slice Ao58 y182.length co58))) := ⟨tq_9⟩
     (try clear HO_175004)
     (try clear HO184)
     (try clear BK161)
     (try clear BK162)
     (try clear BK163)
     (try clear BK174)
     (try clear HB)
     generalize (w57.setCell ⟨gb174, 5, none⟩ (.slice Ao58 y182.length co58)) = w60 at n0_ n1_ n2_ n3_ n4_ n5_ n6_ ⊢
     have HO_175004 := n0_
     have HO184 := n1_
     have BK161 := n2_
     have BK162 := n3_
     have BK163 := n4_
     have BK174 := n5_
     have HB := n6_
     clear n0_ n1_ n2_ n3_ n4_ n5_ n6_
     have z_ := p_ (Kd.R_drew HO_175004.out) <| p_ (Kd.R_drew HO184.out) <| p_ (blk_drew BK161.out) <| p_ (blk_drew BK162.out) <| p_ (blk_drew BK163.out) <| p_ (blk_drew BK174.out) <| a_ (below_drew1 HB.out)
     clear HO_175004 HO184 BK161 BK162 BK163 BK174 HB
     obtain ⟨HO_175004, HO184, BK161, BK162, BK163, BK174, HB⟩ := z_
     have p185 : 0 ≤ (x7_1 : Int) := of_decide_eq_true tq_20
     have q185 : x7_1 < (l0_5.length : Int) := of_decide_eq_true tq_20
     obtain ⟨ad185, e185, hx185_0, hx185_1⟩ := at_T59 HR0_5.out x7_1 p185 q185
     have hw185_1 := hx185_1
     have hw185_0 := hx185_0
     cases e185
     replace hx185_0 := hx_ HB.out hx185_0
     replace hx185_1 := hx_ HB.out hx185_1
     replace p185 := eq_true p185
     replace q185 := eq_true q185
     refine start_ (n := 9) (S := fun w' => w'.cell? ⟨gb161, 0, none⟩ = some (.int .i64 a0_0) ∧ w'.cell? ⟨gb161, 1, none⟩ = some (.int .i64 a0_1) ∧ w'.cell? ⟨gb161, 2, none⟩ = some (.int .i64 a0_2) ∧ w'.cell? ⟨gb161, 3, none⟩ = some (.string a0_3) ∧ w'.cell? ⟨gb161, 4, none⟩ = some (.slice A0_4 l0_4.length c0_4) ∧ w'.cell? ⟨gb161, 5, none⟩ = some (.slice (some ad185) l0_5.length c0_5) ∧ w'.cell? ⟨gb162, 0, none⟩ = some (.int .i64 a1_0) ∧ w'.cell? ⟨gb162, 1, none⟩ = some (.string a1_1) ∧ w'.cell? (ad185.add ((x7_1).toNat * 2)) = some (.int .i64 ((rd_T59 l0_5 x7_1).f0)) ∧ w'.cell? ⟨(ad185.add ((x7_1).toNat * 2)).block, (ad185.add ((x7_1).toNat * 2)).off + 1, none⟩ = some (.string ((rd_T59 l0_5 x7_1).f1))) (ds := []) bq_2 (by kernel_rfl) rfl rfl (bc6_ BK161.out (bc2_ BK162.out ⟨((HB.out.cell (World.block_lt_of_cell? w _ hw185_0)).trans hw185_0), ((HB.out.cell (World.block_lt_of_cell? w _ hw185_1)).trans hw185_1)⟩)) (fun hHeld => ?_); refine with_tabW spec_WithEntry.tab10 spec_WithEntry.bits10 (fun HT_ HW_ => ?_)
     generalize w60.drew = w61 at HO_175004 HO184 BK161 BK162 BK163 BK174 HB hx185_0 hx185_1 hHeld ⊢
     refine yq_ (i := 0) (N := some 38) bq_3 (any_of HT_.out (by kernel_rfl)) ?_
     refine yq_ (i := 2) (N := some 40) bq_5 (any_of HT_.out (by kernel_rfl)) ?_
     refine yq_ (i := 6) (N := some 44) bq_6 (any_of HT_.out (by kernel_rfl)) ?_
     refine tk_ (i := 1) (N := some 39) bq_7 (take_ofW HT_.out HW_.out (by kernel_rfl)) hHeld ?_
     refine yq_ (i := 3) (N := some 41) bq_8 (any_of HT_.out (by kernel_rfl)) ?_
     refine yq_ (i := 4) (N := some 42) bq_9 (any_of HT_.out (by kernel_rfl)) ?_
     refine tk_ (i := 5) (N := some 43) bq_1 (take_ofW HT_.out HW_.out (by kernel_rfl)) hHeld ?_
     refine tk_ (i := 7) (N := some 45) bq_0 (take_ofW HT_.out HW_.out (by kernel_rfl)) hHeld ?_
     refine yq_ (i := 8) (N := some 46) bq_4 (any_of HT_.out (by kernel_rfl)) ?_
     refine done_ (done_of HT_.out (by kernel_rfl)) ?_
     try go_wp2
     have z_ := p_ (Kd.R_drew HO_175004.out) <| p_ (Kd.R_drew HO184.out) <| p_ (blk_drew BK161.out) <| p_ (blk_drew BK162.out) <| p_ (blk_drew BK163.out) <| p_ (blk_drew BK174.out) <| a_ (below_drew1 HB.out)
     clear HO_175004 HO184 BK161 BK162 BK163 BK174 HB
     obtain ⟨HO_175004, HO184, BK161, BK162, BK163, BK174, HB⟩ := z_
     have p186 : 0 ≤ (x7_1 : Int) := of_decide_eq_true tq_20
     have q186 : x7_1 < (l0_5.length : Int) := of_decide_eq_true tq_20
     obtain ⟨ad186, e186, hx186_0, hx186_1⟩ := at_T59 HR0_5.out x7_1 p186 q186
     have hw186_1 := hx186_1
     have hw186_0 := hx186_0
     obtain rfl : ad185 = ad186 := (by injection e186)
     replace hx186_0 := hx_ HB.out hx186_0
     replace hx186_1 := hx_ HB.out hx186_1
     replace p186 := eq_true p186
     replace q186 := eq_true q186
     refine start_ (n := 11) (S := fun w' => w'.cell? ⟨gb174, 0, none⟩ = some (.int .i64 t164) ∧ w'.cell? ⟨gb174, 1, none⟩ = some (.int .i64 t165) ∧ w'.cell? ⟨gb174, 2, none⟩ = some (.int .i64 t166) ∧ w'.cell? ⟨gb174, 3, none⟩ = some (.string t167) ∧ w'.cell? ⟨gb174, 4, none⟩ = some (.slice Ao16 t168.length co16) ∧ w'.cell? ⟨gb174, 5, none⟩ = some (.slice Ao58 y182.length co58) ∧ w'.cell? ⟨gb161, 0, none⟩ = some (.int .i64 a0_0) ∧ w'.cell? ⟨gb161, 1, none⟩ = some (.int .i64 a0_1) ∧ w'.cell? ⟨gb161, 2, none⟩ = some (.int .i64 a0_2) ∧ w'.cell? ⟨gb161, 3, none⟩ = some (.string a0_3) ∧ w'.cell? ⟨gb161, 4, none⟩ = some (.slice A0_4 l0_4.length c0_4) ∧ w'.cell? ⟨gb161, 5, none⟩ = some (.slice (some ad185) l0_5.length c0_5) ∧ w'.cell? (ad185.add ((x7_1).toNat * 2)) = some (.int .i64 ((rd_T59 l0_5 x7_1).f0)) ∧ w'.cell? ⟨(ad185.add ((x7_1).toNat * 2)).block, (ad185.add ((x7_1).toNat * 2)).off + 1, none⟩ = some (.string ((rd_T59 l0_5 x7_1).f1))) (ds := [10]) bq_10 (by kernel_rfl) rfl rfl (bc6_ BK174.out (bc6_ BK161.out ⟨((HB.out.cell (World.block_lt_of_cell? w _ hw186_0)).trans hw186_0), ((HB.out.cell (World.block_lt_of_cell? w _ hw186_1)).trans hw186_1)⟩)) (fun hHeld => ?_); refine with_tabW spec_WithEntry.tab11 spec_WithEntry.bits11 (fun HT_ HW_ => ?_)
     generalize w61.drew = w62 at HO_175004 HO184 BK161 BK162 BK163 BK174 HB hx186_0 hx186_1 hHeld ⊢
     refine yq_ (i := 0) (N := some 47) bq_11 (any_of HT_.out (by kernel_rfl)) ?_
     refine yq_ (i := 2) (N := some 49) bq_12 (any_of HT_.out (by kernel_rfl)) ?_
     refine yq_ (i := 4) (N := some 51) bq_13 (any_of HT_.out (by kernel_rfl)) ?_
     refine tk_ (i := 1) (N := some 48) bq_14 (take_ofW HT_.out HW_.out (by kernel_rfl)) hHeld ?_
     refine tk_ (i := 3) (N := some 50) bq_15 (take_ofW HT_.out HW_.out (by kernel_rfl)) hHeld ?_
     refine yq_ (i := 5) (N := some 52) bq_16 (any_of HT_.out (by kernel_rfl)) ?_
     refine tk_ (i := 6) (N := some 53) bq_17 (take_ofW HT_.out HW_.out (by kernel_rfl)) hHeld ?_
     refine one_ (i := 7) (N := some 54) bq_18 rfl rfl (one_of HT_.out (by kernel_rfl)) (by decide) (fun K hK => ?_)
     refine value_ (w1 := ?_) (v := ?_) (by rfl) rfl ?_ ?_
     rotate_left 2
     ·go_simp
      constructor
      ·rfl
      ·rfl
     refine hK.out _ _ ⟨(blk_cell (blk_alloc BK174.out _) 0).trans rfl, (blk_cell (blk_alloc BK174.out _) 1).trans rfl, (blk_cell (blk_alloc BK174.out _) 2).trans rfl, (blk_cell (blk_alloc BK174.out _) 3).trans rfl, (blk_cell (blk_alloc BK174.out _) 4).trans rfl, (blk_cell (blk_alloc BK174.out _) 5).trans rfl, (blk_cell (blk_alloc BK161.out _) 0).trans rfl, (blk_cell (blk_alloc BK161.out _) 1).trans rfl, (blk_cell (blk_alloc BK161.out _) 2).trans rfl, (blk_cell (blk_alloc BK161.out _) 3).trans rfl, (blk_cell (blk_alloc BK161.out _) 4).trans rfl, (blk_cell (blk_alloc BK161.out _) 5).trans rfl, (World.cell?_alloc_lt _ _ _ (World.block_lt_of_cell? _ _ (((HB.out.cell (World.block_lt_of_cell? w _ hw186_0)).trans hw186_0)))).trans (((HB.out.cell (World.block_lt_of_cell? w _ hw186_0)).trans hw186_0)), (World.cell?_alloc_lt _ _ _ (World.block_lt_of_cell? _ _ (((HB.out.cell (World.block_lt_of_cell? w _ hw186_1)).trans hw186_1)))).trans (((HB.out.cell (World.block_lt_of_cell? w _ hw186_1)).trans hw186_1))⟩ (fun hHeld => ?_)
     clear hK K
     refine nm_ (some 54) ?_
     refine one_ (i := 8) (N := some 55) bq_19 rfl rfl (one_of HT_.out (by kernel_rfl)) (by decide) (fun K hK => ?_)
     refine Kd.R_append_step k59 (w0 := w) w.heap.size (by rfl) (.tmp 48) (.tmp 54) 47 59 (.agg #[(.int .i64 0), (.string ⟨#[]⟩)]) 24 rfl Try.underlying47 info59 rfl (by decide) (by omega) (.slice Ao58 y182.length co58) y182 (⟨(rd_T59 l0_5 x7_1).f0, (rd_T59 l0_5 x7_1).f1⟩ : S59) [.int .i64 ((rd_T59 l0_5 x7_1).f0), .string ((rd_T59 l0_5 x7_1).f1)] (fun k_ => k_ ≠ gb162) (fun _ => False) rfl rfl ?aP (fun _ hk => hk.elim) ?aF ?aO ?aB ?aS ?aL ?_
     (case aP => exact k59_mkM _ _ _ (⟨(rd_T59 l0_5 x7_1).f0, (rd_T59 l0_5 x7_1).f1⟩ : S59))
     (case aB => exact tq_9)
     (case aF => exact tq_172)
     (case aO => exact tq_204)
     (case aS => exact (below_size tq_9))
     (case aL => have := LMc49.out; omega)
     intro v188 w63 ho hb hg hat
     rw [← Ny187.out] at ho
     have z_ := p_ (Kd.R_over' tq_121 (Kd.R_typed tq_204) (by decide) hg) <| p_ (blk_grown (g := gb161) (o := .cells #[.int .i64 a0_0, .int .i64 a0_1, .int .i64 a0_2, .string a0_3, .slice A0_4 l0_4.length c0_4, .slice (some ad185) l0_5.length c0_5] 49 (0, 0)) tq_45 hg (Kd.R_ne HO184.out BK161.out (by decide))) <| p_ (blk_grown (g := gb162) (o := .cells #[.int .i64 a1_0, .string a1_1] 59 (0, 0)) tq_38 hg (Kd.R_away HO184.out (fun _ hk => hk))) <| p_ (blk_grown (g := gb163) (o := .cells #[.int .i64 0, .int .i64 0, .int .i64 0, .string (⟨#[]⟩ : ByteArray), .slice none 0 0, .slice none 0 0] 49 (0, 0)) tq_64 hg (Kd.R_ne HO184.out BK163.out (by decide))) <| p_ (blk_grown (g := gb174) (o := .cells #[.int .i64 t164, .int .i64 t165, .int .i64 t166, .string t167, .slice Ao16 t168.length co16, .slice Ao58 y182.length co58] 49 (0, 0)) tq_116 hg (Kd.R_ne HO184.out BK174.out (by decide))) <| p_ (hb) <| a_ (ho)
     clear HO_175004 BK161 BK162 BK163 BK174 HB HO184
     obtain ⟨HO_175004, BK161, BK162, BK163, BK174, HB, HO189⟩ := z_
     clear ho hb hg hat
     obtain ⟨Ao64, co64, eo64⟩ := Kd.R_slice HO189.out
     (first | subst eo64 | (injection eo64 with f1_ f2_ f3_; have f4_ := f1_.symm; have f5_ := f3_.symm; clear f1_ f2_ f3_; subst f4_; subst f5_))
     refine hK.out _ _ (bc6_ BK174.out (bc6_ BK161.out ⟨((HB.out.cell (World.block_lt_of_cell? w _ hw186_0)).trans hw186_0), ((HB.out.cell (World.block_lt_of_cell? w _ hw186_1)).trans hw186_1)⟩)) (fun hHeld => ?_)
     clear hK K
     refine nm_ (some 55) ?_
     refine yq_ (i := 9) (N := some 56) bq_20 (any_of HT_.out (by kernel_rfl)) ?_
     refine last_ (i := 10) (N := none) bq_21 rfl rfl (one_of HT_.out (by kernel_rfl)) (by decide) (fun K hK => ?_)
     have hs65 : w63.cell? ⟨gb174, 5, none⟩ = some (.slice Ao58 y182.length co58) := (blk_cell BK174.out 5).trans rfl
     have hfs65 := blk_frozen BK174.out 5
     have hns65_0 := NB161_174.out
     have hns65_1 := NB162_174.out
     have hns65_2 := NB163_174.out
     have hms65_0 := NB174_161.out
     have hms65_1 := NB174_162.out
     have hms65_2 := NB174_163.out
     refine skip_ (w1 := ?_) (by rfl) rfl ?_ ?_
     rotate_left
     ·go_simp
      rfl
     refine hK.out _ _ ?_
     clear hK K
     refine done_ (done_of HT_.out (by kernel_rfl)) ?_
     try go_wp2
     go_roundg kj22
     case measure => have := HK1.out; have := HJ22.out; omega
     case rel => exact ⟨(true), (wrap64 (x7_1 + 1)), (y187), (.slice Ao64 y187.length co64), tq_36, tq_36, H', ⟨(by have := HK1.out; have := HJ22.out; omega)⟩, ⟨(by (with_reducible repeat (first | apply Kd.R_alloc | apply Kd.R_drewN | apply Kd.R_drew)); exact Kd.R_mono (Kd.R_far (p := ⟨gb174, 5, none⟩) (Kd.R_types HO_175004.out BK174.out (by decide)) (fun _ hk => hk.2) (.slice Ao64 y187.length co64)) (fun _ hk => trivial))⟩, ⟨(by (with_reducible repeat (first | apply Kd.R_alloc | apply Kd.R_drewN | apply Kd.R_drew)); exact Kd.R_mono (Kd.R_far (p := ⟨gb174, 5, none⟩) (Kd.R_types HO189.out BK174.out (by decide)) (fun _ hk => hk.2) (.slice Ao64 y187.length co64)) (fun _ hk => hk.1))⟩, ⟨tq_100⟩, ⟨tq_99⟩, ⟨tq_98⟩, ⟨(by (with_reducible repeat (first | refine blk_drewN ?_ _ | refine blk_drew ?_ | refine blk_alloc ?_ _)); refine blk_put (cs := #[.int .i64 t164, .int .i64 t165, .int .i64 t166, .string t167, .slice Ao16 t168.length co16, .slice Ao58 y182.length co58]) ?_ 5 _ rfl; (with_reducible repeat (first | refine blk_drewN ?_ _ | refine blk_drew ?_ | refine blk_alloc ?_ _)); exact BK174.out)⟩, ⟨tq_9⟩⟩

end Go.Proofs.Ytcdnfkoahajhhaa.PFnEntries
