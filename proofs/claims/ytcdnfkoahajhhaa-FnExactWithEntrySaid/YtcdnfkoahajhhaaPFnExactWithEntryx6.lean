/- Contracts of Go functions, written by a program of ours over the print of the kit: each says that the call returns what the Lean function beside it computes. Conditions: as each theorem states them. -/
import Derived.Test.YtcdnfkoahajhhaaPkFnExactWithEntry
import Derived.Test.YtcdnfkoahajhhaaPFnExactWithEntryx0
namespace Go.Proofs.Ytcdnfkoahajhhaa.PFnExactWithEntry
open Go.RowKit Go.Proofs.YtcdnfkoahajhhaaW.PrintWords Go.Proofs.YtcdnfkoahajhhaaW.PrintLast Go.Proofs.YtcdnfkoahajhhaaW.PrintMore
attribute [local go_sem] max2_int min2_int max_two min_two max_three min_three max_four min_four   -- for this text's walks alone
set_option linter.unusedVariables false
set_option linter.unusedSimpArgs false

/-! ### slices_Clone_Rec: function 172 -/
def slices_Clone_Rec.f (l0 : List (S170)) : Option (List (S170)) := if l0.length < 4398046511104 then some l0 else none
set_option maxHeartbeats 8000000 in
set_option maxRecDepth 100000 in
theorem slices_Clone_Rec.calls (A0 : Option Addr) (c0 : Nat) (l0 : List (S170)) (r : List (S170)) (w : World) (hr0 : Kd.C k170 w A0 l0.length l0) (hc0 : l0.length ≤ c0) (h : slices_Clone_Rec.f l0 = some r) :
  Calls Try.prog 172 #[.slice A0 l0.length c0] w fun e w' => ∃ v0_ : Value, e = .returned (v0_) ∧ Kd.R k170 170 w' w.heap.size (fun _ => True) v0_ r ∧ Below w.heap.size w w' := by
 have hl : l0.length < 4398046511104 ∧ l0 = r := by
  unfold slices_Clone_Rec.f at h
  split at h
  ·exact ⟨(by assumption), Option.some.inj h⟩
  ·cases h
 obtain ⟨hl, rfl⟩ := hl
 clear h
 have HR0 := Aside0.mk hr0
 clear hr0 hc0
 have q_ : ∀ (w : World) (a : Option Addr) (n c n' c' : Nat), (binOp .eql 46 (.slice a n c) (.slice none n' c')).run Try.prog w = .ok (.bool a.isNone) w := fun w a n c n' c' => Lib.run_eql_slice_nil w _ _ a n c n' c' Try.underlying46
 rcases A0 with _ | ad
 ·have hn : l0 = [] := by
   rcases Nat.eq_zero_or_pos l0.length with h0 | h0
   ·exact List.eq_nil_of_length_eq_zero h0
   ·obtain ⟨ad, h, _⟩ := HR0.out.2.2 h0
    cases h
  subst hn
  clear HR0
  go_enter Try.func172, Try.ntmps172
  go_wp2
  go_ret
  exact ⟨_, rfl, Kd.R_nil _ _ _ _ _, Below.refl _ _⟩
 ·have HL := Aside0.mk hl
  clear hl
  go_enter Try.func172, Try.ntmps172
  go_wp2_with ((with_reducible refine gate_builtin (b := .append) (xs := #[.tmp 5, .tmp 6]) rfl ?_); at_builtin; refine Kd.R_append_rows k170 (w0 := w) w.heap.size rfl (.tmp 5) (.tmp 6) 46 170 (.agg #[(.int .i64 0), (.int .i64 0), (.string ⟨#[]⟩)]) 32 rfl Try.underlying46 info170 rfl (by decide) (by omega) _ [] l0 _ _ _ (fun _ => True) (fun _ => False) rfl rfl ?aO ?aR (fun _ _ h => h) (fun _ h => h.elim) (fun _ _ => trivial) ?aB ?aS ?aL ?_; (case aO => exact ⟨fun _ _ => trivial, [], World.ownsRow_made w #[] 0 (Nat.le_refl _) (Nat.zero_le _) (by simp), Reps.none _ _⟩); (case aR => exact Kd.C_alloc HR0.out _); (case aB => exact (Below.refl _ _).alloc (Nat.le_refl _) _); (case aS => simp); (case aL => have := HL.out; simp only [List.length_nil]; omega); intro v1 w1 hR hB hg hat)
  go_ret
  exact ⟨_, rfl, (by simpa using hR), hB⟩

/-! ### slices_Clone_Entry: function 173 -/
def slices_Clone_Entry.f (l0 : List (S59)) : Option (List (S59)) := if l0.length < 5864062014805 then some l0 else none
set_option maxHeartbeats 8000000 in
set_option maxRecDepth 100000 in
theorem slices_Clone_Entry.calls (A0 : Option Addr) (c0 : Nat) (l0 : List (S59)) (r : List (S59)) (w : World) (hr0 : Kd.C k59 w A0 l0.length l0) (hc0 : l0.length ≤ c0) (h : slices_Clone_Entry.f l0 = some r) :
  Calls Try.prog 173 #[.slice A0 l0.length c0] w fun e w' => ∃ v0_ : Value, e = .returned (v0_) ∧ Kd.R k59 59 w' w.heap.size (fun _ => True) v0_ r ∧ Below w.heap.size w w' := by
 have hl : l0.length < 5864062014805 ∧ l0 = r := by
  unfold slices_Clone_Entry.f at h
  split at h
  ·exact ⟨(by assumption), Option.some.inj h⟩
  ·cases h
 obtain ⟨hl, rfl⟩ := hl
 clear h
 have HR0 := Aside0.mk hr0
 clear hr0 hc0
 have q_ : ∀ (w : World) (a : Option Addr) (n c n' c' : Nat), (binOp .eql 47 (.slice a n c) (.slice none n' c')).run Try.prog w = .ok (.bool a.isNone) w := fun w a n c n' c' => Lib.run_eql_slice_nil w _ _ a n c n' c' Try.underlying47
 rcases A0 with _ | ad
 ·have hn : l0 = [] := by
   rcases Nat.eq_zero_or_pos l0.length with h0 | h0
   ·exact List.eq_nil_of_length_eq_zero h0
   ·obtain ⟨ad, h, _⟩ := HR0.out.2.2 h0
    cases h
  subst hn
  clear HR0
  go_enter Try.func173, Try.ntmps173
  go_wp2
  go_ret
  exact ⟨_, rfl, Kd.R_nil _ _ _ _ _, Below.refl _ _⟩
 ·have HL := Aside0.mk hl
  clear hl
  go_enter Try.func173, Try.ntmps173
  go_wp2_with ((with_reducible refine gate_builtin (b := .append) (xs := #[.tmp 5, .tmp 6]) rfl ?_); at_builtin; refine Kd.R_append_rows k59 (w0 := w) w.heap.size rfl (.tmp 5) (.tmp 6) 47 59 (.agg #[(.int .i64 0), (.string ⟨#[]⟩)]) 24 rfl Try.underlying47 info59 rfl (by decide) (by omega) _ [] l0 _ _ _ (fun _ => True) (fun _ => False) rfl rfl ?aO ?aR (fun _ _ h => h) (fun _ h => h.elim) (fun _ _ => trivial) ?aB ?aS ?aL ?_; (case aO => exact ⟨fun _ _ => trivial, [], World.ownsRow_made w #[] 0 (Nat.le_refl _) (Nat.zero_le _) (by simp), Reps.none _ _⟩); (case aR => exact Kd.C_alloc HR0.out _); (case aB => exact (Below.refl _ _).alloc (Nat.le_refl _) _); (case aS => simp); (case aL => have := HL.out; simp only [List.length_nil]; omega); intro v1 w1 hR hB hg hat)
  go_ret
  exact ⟨_, rfl, (by simpa using hR), hB⟩

/-! ### impl_copyInode: function 96 -/
def impl_copyInode.f (a0_0 : Int) (a0_1 : Int) (a0_2 : Int) (a0_3 : ByteArray) (l0_4 : List (S170)) (l0_5 : List (S59)) : Option (Int × Int × Int × ByteArray × (List (S170)) × (List (S59))) := (slices_Clone_Rec.f l0_4).bind fun t229 => ((slices_Clone_Entry.f l0_5).bind fun t232 => (some (a0_0, a0_1, a0_2, a0_3, t229, t232)))
def impl_copyInode.T1 : Bool × List (List Nat × List Nat) := (true, [([], []), ([0], [0]), ([1], [1]), ([], []), ([3], [3]), ([4, 2], [4]), ([0, 1, 2, 3, 4], []), ([6, 2, 5, 0, 1, 2, 3, 4], [2, 6]), ([0, 1, 2, 3, 4, 5, 6, 7], []), ([8, 5, 7, 0, 1, 2, 3, 4, 5, 6, 7], [5, 8])])
def impl_copyInode.B1 : List Nat := [0, 1, 3, 0, 8, 31, 31, 127, 255, 511]
theorem impl_copyInode.tab1 : rtab .any (opsOf Try.f96 1) = impl_copyInode.T1 := by kernel_rfl
theorem impl_copyInode.bits1 : waitsOk impl_copyInode.T1.2 impl_copyInode.B1 = true := by kernel_rfl
set_option maxHeartbeats 8000000 in
set_option maxRecDepth 100000 in
theorem impl_copyInode.calls (a0_0 : Int) (a0_1 : Int) (a0_2 : Int) (a0_3 : ByteArray) (A0_4 : Option Addr) (c0_4 : Nat) (l0_4 : List (S170)) (A0_5 : Option Addr) (c0_5 : Nat) (l0_5 : List (S59)) (r1 : Int) (r2 : Int) (r3 : Int) (r4 : ByteArray) (r5 : List (S170)) (r6 : List (S59)) (w : World) (hr0_4 : Kd.C k170 w A0_4 l0_4.length l0_4) (hc0_4 : l0_4.length ≤ c0_4) (hr0_5 : Kd.C k59 w A0_5 l0_5.length l0_5) (hc0_5 : l0_5.length ≤ c0_5) (h : impl_copyInode.f a0_0 a0_1 a0_2 a0_3 l0_4 l0_5 = some (r1, r2, r3, r4, r5, r6)) :
  Calls Try.prog 96 #[.agg #[.int .i64 a0_0, .int .i64 a0_1, .int .i64 a0_2, .string a0_3, .slice A0_4 l0_4.length c0_4, .slice A0_5 l0_5.length c0_5]] w fun e w' => ∃ v4_ v5_ : Value, e = .returned (.agg #[.int .i64 r1, .int .i64 r2, .int .i64 r3, .string r4, v4_, v5_]) ∧ Kd.R k170 170 w' w.heap.size (fun _ => True) v4_ r5 ∧ Kd.R k59 59 w' w.heap.size (fun _ => True) v5_ r6 ∧ Below w.heap.size w w' := by
 have hu49 := Try.underlying49
 have HR0_4 := Aside0.mk hr0_4
 have HC0_4 := Aside0.mk hc0_4
 clear hr0_4 hc0_4
 have HR0_5 := Aside0.mk hr0_5
 have HC0_5 := Aside0.mk hc0_5
 clear hr0_5 hc0_5
 have HB := Aside0.mk (Below.refl w.heap.size w)
 have H : ((slices_Clone_Rec.f l0_4).bind fun t229 => ((slices_Clone_Entry.f l0_5).bind fun t232 => (some (a0_0, a0_1, a0_2, a0_3, t229, t232)))) = some (r1, r2, r3, r4, r5, r6) := h
 clear h
 replace H := Option.bind_eq_some_iff.mp H
 obtain ⟨t229, A20, H⟩ := H
 replace H : ((slices_Clone_Entry.f l0_5).bind fun t232 => (some (a0_0, a0_1, a0_2, a0_3, t229, t232))) = some (r1, r2, r3, r4, r5, r6) := H
 have A2 := Aside0.mk A20
 clear A20
 replace H := Option.bind_eq_some_iff.mp H
 obtain ⟨t232, A30, H⟩ := H
 replace H : (some (a0_0, a0_1, a0_2, a0_3, t229, t232)) = some (r1, r2, r3, r4, r5, r6) := H
 have A3 := Aside0.mk A30
 clear A30
 simp only [Option.some.injEq, Prod.mk.injEq] at H
 obtain ⟨rfl, rfl, rfl, rfl, rfl, rfl⟩ := H
 go_enter Try.func96, Try.ntmps96
 try go_wp2_with (first | ((with_reducible refine gate_dst (N := 1) rfl ?_); refine box_event ?hg (N := 1) ?hd (cs := #[.int .i64 a0_0, .int .i64 a0_1, .int .i64 a0_2, .string a0_3, .slice A0_4 l0_4.length c0_4, .slice A0_5 l0_5.length c0_5]) (t := 49) ?hr ?_; (case hd => rfl); (case hg => rfl); (case hr => first | (go_simp; done) | (go_simp; rfl)); intro gb227 hg w4 hbox hb; have z_ := p_ (below_step tq_0 hb) <| p_ (hbox) <| p_ (gb_ hg tq_0) <| a_ (gb_ hg tq_0); clear HB; obtain ⟨HB, BK227, GW227, GE227⟩ := z_; clear hb hbox hg) | ((with_reducible refine gate_dst (N := 2) rfl ?_); refine box_event ?hg (N := 2) ?hd (cs := #[.int .i64 0, .int .i64 0, .int .i64 0, .string (⟨#[]⟩ : ByteArray), .slice none 0 0, .slice none 0 0]) (t := 49) ?hr ?_; (case hd => rfl); (case hg => rfl); (case hr => first | (go_simp; done) | (go_simp; rfl)); intro gb228 hg w5 hbox hb; have z_ := p_ (blk_below tq_112 hb) <| p_ (below_step tq_131 hb) <| p_ (hbox) <| p_ (gb_ hg tq_131) <| p_ (gb_ hg tq_131) <| p_ (ltne_ hg (blk_lt tq_112)) <| a_ (gtne_ hg (blk_lt tq_112)); clear BK227 HB; obtain ⟨BK227, HB, BK228, GW228, GE228, NB227_228, NB228_227⟩ := z_; clear hb hbox hg))
 have z_ := p_ (blk_drew BK227.out) <| p_ (blk_drew BK228.out) <| a_ (below_drew1 HB.out)
 clear BK227 BK228 HB
 obtain ⟨BK227, BK228, HB⟩ := z_
 refine start_ (n := 10) (S := fun w' => w'.cell? ⟨gb227, 0, none⟩ = some (.int .i64 a0_0) ∧ w'.cell? ⟨gb227, 1, none⟩ = some (.int .i64 a0_1) ∧ w'.cell? ⟨gb227, 2, none⟩ = some (.int .i64 a0_2) ∧ w'.cell? ⟨gb227, 3, none⟩ = some (.string a0_3) ∧ w'.cell? ⟨gb227, 4, none⟩ = some (.slice A0_4 l0_4.length c0_4) ∧ w'.cell? ⟨gb227, 5, none⟩ = some (.slice A0_5 l0_5.length c0_5)) (ds := [7, 9]) bq_2 (by kernel_rfl) rfl rfl (bk6_ BK227.out) (fun hHeld => ?_); refine with_tabW impl_copyInode.tab1 impl_copyInode.bits1 (fun HT_ HW_ => ?_)
 generalize w5.drew = w6 at BK227 BK228 HB hHeld ⊢
 refine yq_ (i := 0) (N := some 3) bq_3 (any_of HT_.out (by kernel_rfl)) ?_
 refine yq_ (i := 3) (N := some 6) #[true, false, false, true, false, false, false, false, false, false] (any_of HT_.out (by kernel_rfl)) ?_
 refine tk_ (i := 1) (N := some 4) #[true, true, false, true, false, false, false, false, false, false] (take_ofW HT_.out HW_.out (by kernel_rfl)) hHeld ?_
 refine tk_ (i := 4) (N := some 7) #[true, true, false, true, true, false, false, false, false, false] (take_ofW HT_.out HW_.out (by kernel_rfl)) hHeld ?_
 refine one_ (i := 2) (N := some 5) #[true, true, true, true, true, false, false, false, false, false] rfl rfl (one_of HT_.out (by kernel_rfl)) (by decide) (fun K hK => ?_)
 refine goes_ Try.func172 (by kernel_rfl) rfl #[.slice A0_4 l0_4.length c0_4] (by rfl) rfl rfl tq_2 ?_
 with_reducible refine (slices_Clone_Rec.calls _ _ l0_4 t229 _ ?side1 ?side2 A2.out).mono ?_
 (case side1 => exact tq_15)
 (case side2 => exact HC0_4.out)
 rintro e w7 ⟨v230, rfl, ho0, hb⟩
 refine ⟨_, rfl, ?_⟩
 have z_ := p_ (Kd.R_lower ho0 (below_size tq_71)) <| p_ (blk_below tq_112 hb) <| p_ (blk_below (by (with_reducible repeat (first | refine blk_drewN ?_ _ | refine blk_drew ?_ | refine blk_alloc ?_ _)); exact BK228.out) hb) <| a_ (below_step tq_71 hb)
 clear BK227 BK228 HB
 obtain ⟨HO231, BK227, BK228, HB⟩ := z_
 (try clear hb)
 (try clear hb2)
 (try clear hk)
 (try clear hi)
 (try clear ho0)
 refine hK.out _ _ (bk6_ BK227.out) (fun hHeld => ?_)
 clear hK K
 refine nm_ (some 5) ?_
 refine yq_ (i := 6) (N := some 9) #[true, true, true, true, true, false, true, false, false, false] (any_of HT_.out (by kernel_rfl)) ?_
 refine one_ (i := 5) (N := some 8) bq_4 rfl rfl (one_of HT_.out (by kernel_rfl)) (by decide) (fun K hK => ?_)
 refine goes_ Try.func173 (by kernel_rfl) rfl #[.slice A0_5 l0_5.length c0_5] (by rfl) rfl rfl tq_2 ?_
 with_reducible refine (slices_Clone_Entry.calls _ _ l0_5 t232 _ ?side1 ?side2 A3.out).mono ?_
 (case side1 => exact tq_24)
 (case side2 => exact HC0_5.out)
 rintro e w8 ⟨v233, rfl, ho0, hb⟩
 refine ⟨_, rfl, ?_⟩
 have z_ := p_ (Kd.R_below (by (with_reducible repeat (first | apply Kd.R_alloc | apply Kd.R_drewN | apply Kd.R_drew)); exact HO231.out) hb) <| p_ (Kd.R_lower ho0 (below_size tq_71)) <| p_ (blk_below tq_112 hb) <| p_ (blk_below (by (with_reducible repeat (first | refine blk_drewN ?_ _ | refine blk_drew ?_ | refine blk_alloc ?_ _)); exact BK228.out) hb) <| a_ (below_step tq_71 hb)
 clear HO231 BK227 BK228 HB
 obtain ⟨HO231, HO234, BK227, BK228, HB⟩ := z_
 (try clear hb)
 (try clear hb2)
 (try clear hk)
 (try clear hi)
 (try clear ho0)
 obtain ⟨Ao9, co9, eo9⟩ := Kd.R_slice HO231.out
 (first | subst eo9 | (injection eo9 with f1_ f2_ f3_; have f4_ := f1_.symm; have f5_ := f3_.symm; clear f1_ f2_ f3_; subst f4_; subst f5_))
 obtain ⟨Ao11, co11, eo11⟩ := Kd.R_slice HO234.out
 (first | subst eo11 | (injection eo11 with f1_ f2_ f3_; have f4_ := f1_.symm; have f5_ := f3_.symm; clear f1_ f2_ f3_; subst f4_; subst f5_))
 refine hK.out _ _ (bk6_ BK227.out) (fun hHeld => ?_)
 clear hK K
 refine nm_ (some 8) ?_
 refine last_ (i := 7) (N := none) bq_5 rfl rfl (one_of HT_.out (by kernel_rfl)) (by decide) (fun K hK => ?_)
 have hs10 : w8.cell? ⟨gb227, 4, none⟩ = some (.slice A0_4 l0_4.length c0_4) := (blk_cell BK227.out 4).trans rfl
 have hfs10 := blk_frozen BK227.out 4
 have hns10_1 := NB228_227.out
 have hms10_1 := NB227_228.out
 refine skip_ (w1 := ?_) (by rfl) rfl ?_ ?_
 rotate_left
 ·go_simp
  rfl
 refine hK.out _ _ ?_
 clear hK K
 refine yq_ (i := 8) (N := some 10) bq_6 (any_of HT_.out (by kernel_rfl)) ?_
 refine last_ (i := 9) (N := none) bq_7 rfl rfl (one_of HT_.out (by kernel_rfl)) (by decide) (fun K hK => ?_)
 have hs12 : w8.cell? ⟨gb227, 5, none⟩ = some (.slice A0_5 l0_5.length c0_5) := (blk_cell BK227.out 5).trans rfl
 have hfs12 := blk_frozen BK227.out 5
 have hns12_1 := NB228_227.out
 have hms12_1 := NB227_228.out
 refine skip_ (w1 := ?_) (by rfl) rfl ?_ ?_
 rotate_left
 ·go_simp
  rfl
 refine hK.out _ _ ?_
 clear hK K
 refine done_ (done_of HT_.out (by kernel_rfl)) ?_
 have hnb13 := NB227_228.out
 have hnc13 := NB228_227.out
 have hcz14_0 := bc_ BK227.out 0
 have hcz14_1 := bc_ BK227.out 1
 have hcz14_2 := bc_ BK227.out 2
 have hcz14_3 := bc_ BK227.out 3
 have hcz14_4 := bc_ BK227.out 4
 have hcz14_5 := bc_ BK227.out 5
 have hfz14_0 := blk_frozen BK227.out 0
 have hfz14_1 := blk_frozen BK227.out 1
 have hfz14_2 := blk_frozen BK227.out 2
 have hfz14_3 := blk_frozen BK227.out 3
 have hfz14_4 := blk_frozen BK227.out 4
 have hfz14_5 := blk_frozen BK227.out 5
 have hcz15_0 := bc_ BK228.out 0
 have hcz15_1 := bc_ BK228.out 1
 have hcz15_2 := bc_ BK228.out 2
 have hcz15_3 := bc_ BK228.out 3
 have hcz15_4 := bc_ BK228.out 4
 have hcz15_5 := bc_ BK228.out 5
 have hfz15_0 := blk_frozen BK228.out 0
 have hfz15_1 := blk_frozen BK228.out 1
 have hfz15_2 := blk_frozen BK228.out 2
 have hfz15_3 := blk_frozen BK228.out 3
 have hfz15_4 := blk_frozen BK228.out 4
 have hfz15_5 := blk_frozen BK228.out 5
 try go_wp2
 refine bodyPost_ret (results_cell_row rfl _ _ gb228 49 #[.int .i64 a0_0, .int .i64 a0_1, .int .i64 a0_2, .string a0_3, .slice Ao9 t229.length co9, .slice Ao11 t232.length co11] (0, 0) _ rfl (by (with_reducible repeat (first | refine blk_drewN ?_ _ | refine blk_drew ?_ | refine blk_alloc ?_ _)); refine blk_put (cs := #[.int .i64 a0_0, .int .i64 a0_1, .int .i64 a0_2, .string a0_3, .slice Ao9 t229.length co9, .slice none 0 0]) ?_ 5 _ rfl; (with_reducible repeat (first | refine blk_drewN ?_ _ | refine blk_drew ?_ | refine blk_alloc ?_ _)); refine blk_put (cs := #[.int .i64 a0_0, .int .i64 a0_1, .int .i64 a0_2, .string a0_3, .slice none 0 0, .slice none 0 0]) ?_ 4 _ rfl; (with_reducible repeat (first | refine blk_drewN ?_ _ | refine blk_drew ?_ | refine blk_alloc ?_ _)); refine blk_put (cs := #[.int .i64 a0_0, .int .i64 a0_1, .int .i64 a0_2, .string (⟨#[]⟩ : ByteArray), .slice none 0 0, .slice none 0 0]) ?_ 3 _ rfl; (with_reducible repeat (first | refine blk_drewN ?_ _ | refine blk_drew ?_ | refine blk_alloc ?_ _)); refine blk_put (cs := #[.int .i64 a0_0, .int .i64 a0_1, .int .i64 0, .string (⟨#[]⟩ : ByteArray), .slice none 0 0, .slice none 0 0]) ?_ 2 _ rfl; (with_reducible repeat (first | refine blk_drewN ?_ _ | refine blk_drew ?_ | refine blk_alloc ?_ _)); refine blk_put (cs := #[.int .i64 a0_0, .int .i64 0, .int .i64 0, .string (⟨#[]⟩ : ByteArray), .slice none 0 0, .slice none 0 0]) ?_ 1 _ rfl; (with_reducible repeat (first | refine blk_drewN ?_ _ | refine blk_drew ?_ | refine blk_alloc ?_ _)); refine blk_put (cs := #[.int .i64 0, .int .i64 0, .int .i64 0, .string (⟨#[]⟩ : ByteArray), .slice none 0 0, .slice none 0 0]) ?_ 0 _ rfl; (with_reducible repeat (first | refine blk_drewN ?_ _ | refine blk_drew ?_ | refine blk_alloc ?_ _)); refine blk_far ?_ NB228_227.out _; (with_reducible repeat (first | refine blk_drewN ?_ _ | refine blk_drew ?_ | refine blk_alloc ?_ _)); refine blk_far ?_ NB228_227.out _; (with_reducible repeat (first | refine blk_drewN ?_ _ | refine blk_drew ?_ | refine blk_alloc ?_ _)); exact BK228.out) Try.underlying49 rfl (by kernel_rfl)) rfl ?_
 exact ⟨_, _, tq_7, (by (with_reducible repeat (first | apply Kd.R_alloc | apply Kd.R_drewN | apply Kd.R_drew)); exact Kd.R_mono (Kd.R_far (p := ⟨gb228, 5, none⟩) (Kd.R_far (p := ⟨gb228, 4, none⟩) (Kd.R_far (p := ⟨gb228, 3, none⟩) (Kd.R_far (p := ⟨gb228, 2, none⟩) (Kd.R_far (p := ⟨gb228, 1, none⟩) (Kd.R_far (p := ⟨gb228, 0, none⟩) (Kd.R_far (p := ⟨gb227, 5, none⟩) (Kd.R_far (p := ⟨gb227, 4, none⟩) (Kd.R_types (Kd.R_types HO231.out BK227.out (by decide)) BK228.out (by decide)) (fun _ hk => hk.1.2) (.slice Ao9 t229.length co9)) (fun _ hk => hk.1.2) (.slice Ao11 t232.length co11)) (fun _ hk => hk.2) (.int .i64 a0_0)) (fun _ hk => hk.2) (.int .i64 a0_1)) (fun _ hk => hk.2) (.int .i64 a0_2)) (fun _ hk => hk.2) (.string a0_3)) (fun _ hk => hk.2) (.slice Ao9 t229.length co9)) (fun _ hk => hk.2) (.slice Ao11 t232.length co11)) (fun _ hk => trivial)), (by (with_reducible repeat (first | apply Kd.R_alloc | apply Kd.R_drewN | apply Kd.R_drew)); exact Kd.R_mono (Kd.R_far (p := ⟨gb228, 5, none⟩) (Kd.R_far (p := ⟨gb228, 4, none⟩) (Kd.R_far (p := ⟨gb228, 3, none⟩) (Kd.R_far (p := ⟨gb228, 2, none⟩) (Kd.R_far (p := ⟨gb228, 1, none⟩) (Kd.R_far (p := ⟨gb228, 0, none⟩) (Kd.R_far (p := ⟨gb227, 5, none⟩) (Kd.R_far (p := ⟨gb227, 4, none⟩) (Kd.R_types (Kd.R_types HO234.out BK227.out (by decide)) BK228.out (by decide)) (fun _ hk => hk.1.2) (.slice Ao9 t229.length co9)) (fun _ hk => hk.1.2) (.slice Ao11 t232.length co11)) (fun _ hk => hk.2) (.int .i64 a0_0)) (fun _ hk => hk.2) (.int .i64 a0_1)) (fun _ hk => hk.2) (.int .i64 a0_2)) (fun _ hk => hk.2) (.string a0_3)) (fun _ hk => hk.2) (.slice Ao9 t229.length co9)) (fun _ hk => hk.2) (.slice Ao11 t232.length co11)) (fun _ hk => trivial)), tq_71⟩

/-! ### impl_WithoutEntry_1: function 98 -/
def clo98.p (c0_0 : ByteArray) (x : S59) : Bool := x.f1.toList == c0_0.toList
theorem clo98 (x : S59) (gb0 : Nat) (c0_0 : ByteArray) (W : World) (hcl0 : W.heap[gb0]? = some (.cells #[.string c0_0] 9 (0, 0))) : Calls Try.prog 98 (#[.agg #[.int .i64 x.f0, .string x.f1]] ++ #[.pointer (some ⟨gb0, 0, none⟩)]) W fun e w' => e = .returned (.bool (clo98.p c0_0 x)) ∧ Below W.heap.size W w' := by
 have hu9 := Try.underlying9
 have hu59 := Try.underlying59
 have hb0 : gb0 < W.heap.size := blk_lt hcl0
 have h0_0 : W.cell? ⟨gb0, 0, none⟩ = some (.string c0_0) := (blk_cell hcl0 0).trans rfl
 clear hcl0
 show Calls Try.prog 98 #[.agg #[.int .i64 x.f0, .string x.f1], .pointer (some ⟨gb0, 0, none⟩)] W _
 go_enter Try.func98, Try.ntmps98
 go_wp2
 go_ret
 exact ⟨(by unfold clo98.p; first | rfl | (simp; done)), (by repeat (first | (with_reducible first | exact Below.refl _ _ | apply below_alloc) | exact Below.refl ..))⟩

/-! ### impl_WithEntry_1: function 106 -/
def clo106.p (c0_0 : Int) (c0_1 : ByteArray) (x : S59) : Bool := !(Op.bytesLess x.f1.toList c0_1.toList)
theorem clo106 (x : S59) (gb0 : Nat) (c0_0 : Int) (c0_1 : ByteArray) (W : World) (hcl0 : W.heap[gb0]? = some (.cells #[.int .i64 c0_0, .string c0_1] 59 (0, 0))) : Calls Try.prog 106 (#[.agg #[.int .i64 x.f0, .string x.f1]] ++ #[.pointer (some ⟨gb0, 0, none⟩)]) W fun e w' => e = .returned (.bool (clo106.p c0_0 c0_1 x)) ∧ Below W.heap.size W w' := by
 have hu59 := Try.underlying59
 have hb0 : gb0 < W.heap.size := blk_lt hcl0
 have h0_0 : W.cell? ⟨gb0, 0, none⟩ = some (.int .i64 c0_0) := (blk_cell hcl0 0).trans rfl
 have h0_1 : W.cell? ⟨gb0, 1, none⟩ = some (.string c0_1) := (blk_cell hcl0 1).trans rfl
 clear hcl0
 show Calls Try.prog 106 #[.agg #[.int .i64 x.f0, .string x.f1], .pointer (some ⟨gb0, 0, none⟩)] W _
 go_enter Try.func106, Try.ntmps106
 go_wp2
 go_ret
 exact ⟨(by unfold clo106.p; first | rfl | (simp; done)), (by repeat (first | (with_reducible first | exact Below.refl _ _ | apply below_alloc) | exact Below.refl ..))⟩

-- NOT PRINTED: function 209 (impl_areInodes_1)

/-! ### slices_IndexFunc_Entry: function 105 -/
def lq105_ren : Go.Shelf.Ren := ⟨fun | 6 => 105 | n => n, fun | 22 => 47 | 23 => 59 | 25 => 134 | 3 => 3 | 0 => 0 | 4 => 4 | n => n, fun | n => n⟩
theorem lq105 : Go.Proofs.SlLaysH0.n6 Try.prog lq105_ren := {
 mixed := by kernel_rfl
 f6 := ⟨Try.f105.name, (by decide), Try.func105.trans (congrArg some (by kernel_rfl))⟩
 t0 := Try.underlying0
 a0 := Try.isAgg0
 z0 := Try.sizeOf0
 v0 := Try.zeroValue0
 t3 := Try.underlying3
 a3 := Try.isAgg3
 z3 := Try.sizeOf3
 v3 := Try.zeroValue3
 t4 := Try.underlying4
 a4 := Try.isAgg4
 z4 := Try.sizeOf4
 v4 := Try.zeroValue4
 t22 := Try.underlying47
 a22 := Try.isAgg47
 z22 := Try.sizeOf47
 v22 := Try.zeroValue47
 t25 := Try.underlying134
 a25 := Try.isAgg134
 z25 := Try.sizeOf134
 v25 := Try.zeroValue134 }
theorem idx105_nil (a : Option Addr) (c : Nat) (fv : Value) (w : World) : Calls Try.prog 105 #[.slice a 0 c, fv] w fun e w' => e = .returned (.int .i64 (-1)) ∧ w' = w := by
 go_enter Try.func105, Try.ntmps105
 go_wp2
 go_loopg [5, 8] 0 (fun gg _ s8 wr => s8 = .int .i64 0 ∧ wr = w)
 case atStart => exact ⟨rfl, rfl⟩
 case round =>
  obtain ⟨rfl, rfl⟩ := hrel
  go_wp2
  go_ret
  exact ⟨rfl, rfl⟩
instance inh59 : Inhabited S59 := ⟨z59⟩
def enc59 (x : S59) : List Value := [.int .i64 x.f0, .string x.f1]
theorem idx105 (p : S59 → Bool) (g : Nat) (lb : Array Value) (eg : ∀ args w, (callFunc g args).run Try.prog w = .ok (.enter g args) w) (A0 : Option Addr) (c0 : Nat) (l0 : List S59) (w : World) (hr0 : Kd.C k59 w A0 l0.length l0) (hbig : l0.length ≤ 9223372036854775807)
  (hp : PredBelow Try.prog g lb (fun x => .agg (enc59 x).toArray) p w) :
  Calls Try.prog 105 #[.slice A0 l0.length c0, .func (.func g) #[] lb] w fun e w' => e = .returned (.int .i64 (Lib.idxBy (fun _ y => p y) l0 default)) ∧ Below w.heap.size w w' := by
 rcases Nat.eq_zero_or_pos l0.length with hz | hz
 ·have hn := List.eq_nil_of_length_eq_zero hz
  subst hn
  refine (idx105_nil A0 c0 _ w).mono ?_
  rintro e w' ⟨rfl, rfl⟩
  exact ⟨rfl, Below.refl _ _⟩
 ·obtain ⟨ad, rfl, hcell⟩ := hr0.2.2 hz
  have cells : ∀ (j : Nat) x, l0[j]? = some x → ∀ i v, (enc59 x)[i]? = some v → w.cell? (ad.add (j * 2 + i)) = some v := by
   intro j x hx i v hv
   obtain ⟨c, _, hk, hc⟩ := hcell j x hx
   have hk2 := k59_open hk
   subst hk2
   exact hc i _ hv
  have h0 := cells 0 _ (List.getElem?_eq_getElem hz) 0 _ rfl
  have hsp : ad.spot = none := by
   have h0' : w.cell? ad = some _ := h0
   unfold World.cell? at h0'
   split at h0'
   ·split at h0'
    ·cases h0'
    ·simpa using ‹¬ ad.spot.isSome = true›
   ·cases h0'
  obtain ⟨bk, o, sp⟩ := ad
  cases hsp
  have := AnyQ.slices_IndexFunc lq105 2 Try.isAgg59 Try.sizeOf59 enc59 (fun _ => rfl) p g lb eg bk o l0.length c0 l0 w hp (Nat.le_refl _) hbig (World.block_lt_of_cell? w _ h0) (fun j hj i v hv => by
   have := cells j _ (List.getElem?_eq_getElem hj) i v (by rw [← getElem!_pos l0 j hj]; exact hv)
   rw [Addr.add_lit] at this
   rw [Nat.add_assoc]
   exact this)
  rw [List.take_length] at this
  exact this
def slices_IndexFunc_Entry_g98.f (l0 : List S59) (c0_0 : ByteArray) : Option (Int) := if l0.length ≤ 9223372036854775807 then some (Lib.idxBy (fun _ y => clo98.p c0_0 y) l0 z59) else none
theorem slices_IndexFunc_Entry_g98.calls (A0 : Option Addr) (c0 : Nat) (l0 : List S59) (gb0 : Nat) (c0_0 : ByteArray) (r : Int) (w : World) (hr0 : Kd.C k59 w A0 l0.length l0) (hc0 : l0.length ≤ c0) (hcl0 : w.heap[gb0]? = some (.cells #[.string c0_0] 9 (0, 0))) (h : slices_IndexFunc_Entry_g98.f l0 c0_0 = some r) :
  Calls Try.prog 105 #[.slice A0 l0.length c0, .func (.func 98) #[] #[.pointer (some ⟨gb0, 0, none⟩)]] w fun e w' => e = .returned (.int .i64 r) ∧ Below w.heap.size w w' := by
 unfold slices_IndexFunc_Entry_g98.f at h
 split at h
 case isFalse => cases h
 case isTrue hl =>
 obtain rfl := Option.some.inj h
 exact idx105 (fun y => clo98.p c0_0 y) 98 #[.pointer (some ⟨gb0, 0, none⟩)] (fun args W => enters_ Try.func98 rfl rfl args W) A0 c0 l0 w hr0 hl (fun W x hW => (clo98 x gb0 c0_0 W (blk_below hcl0 hW)).mono fun e w' hq => ⟨hq.1, hW.trans (hq.2.mono hW.size)⟩)
def slices_IndexFunc_Entry_g106.f (l0 : List S59) (c0_0 : Int) (c0_1 : ByteArray) : Option (Int) := if l0.length ≤ 9223372036854775807 then some (Lib.idxBy (fun _ y => clo106.p c0_0 c0_1 y) l0 z59) else none
theorem slices_IndexFunc_Entry_g106.calls (A0 : Option Addr) (c0 : Nat) (l0 : List S59) (gb0 : Nat) (c0_0 : Int) (c0_1 : ByteArray) (r : Int) (w : World) (hr0 : Kd.C k59 w A0 l0.length l0) (hc0 : l0.length ≤ c0) (hcl0 : w.heap[gb0]? = some (.cells #[.int .i64 c0_0, .string c0_1] 59 (0, 0))) (h : slices_IndexFunc_Entry_g106.f l0 c0_0 c0_1 = some r) :
  Calls Try.prog 105 #[.slice A0 l0.length c0, .func (.func 106) #[] #[.pointer (some ⟨gb0, 0, none⟩)]] w fun e w' => e = .returned (.int .i64 r) ∧ Below w.heap.size w w' := by
 unfold slices_IndexFunc_Entry_g106.f at h
 split at h
 case isFalse => cases h
 case isTrue hl =>
 obtain rfl := Option.some.inj h
 exact idx105 (fun y => clo106.p c0_0 c0_1 y) 106 #[.pointer (some ⟨gb0, 0, none⟩)] (fun args W => enters_ Try.func106 rfl rfl args W) A0 c0 l0 w hr0 hl (fun W x hW => (clo106 x gb0 c0_0 c0_1 W (blk_below hcl0 hW)).mono fun e w' hq => ⟨hq.1, hW.trans (hq.2.mono hW.size)⟩)

/-! ### slices_DeleteFunc_Entry: function 97 -/
theorem flat59 : Flat.IsFlat k59 enc59 := ⟨fun w base ok x => k59_mkM w base ok x, fun w x cs h => k59_open h⟩
set_option maxHeartbeats 8000000 in
set_option maxRecDepth 100000 in
theorem del97 (p : S59 → Bool) (g : Nat) (lb : Array Value) (eg : ∀ args w, (callFunc g args).run Try.prog w = .ok (.enter g args) w) (gb : Nat) (ob : Obj)
  (hp : ∀ (x : S59) (W : World), W.heap[gb]? = some ob → Calls Try.prog g (#[.agg (enc59 x).toArray] ++ lb) W fun e w' => e = .returned (.bool (p x)) ∧ Below W.heap.size W w')
  (P0_ : Nat → Prop) (u9000_ : Value) (l0 : List S59) (w0 w : World) (hB : Below w0.heap.size w0 w) (ho0 : Kd.R k59 59 w w0.heap.size P0_ u9000_ l0) (hbig : l0.length ≤ 9223372036854775807) (hcl : w.heap[gb]? = some ob) (hne : some gb ≠ u9000_.ownBlock) :
  Calls Try.prog 97 #[u9000_, .func (.func g) #[] lb] w fun e w' => ∃ v0_ : Value, e = .returned v0_ ∧ Kd.R k59 59 w' w0.heap.size (fun k_ => (P0_ k_ ∨ w.heap.size ≤ k_)) v0_ (l0.filter fun y => !p y) ∧ Below w0.heap.size w0 w' ∧ Kept w w' (fun k_ => P0_ k_) := by
 obtain ⟨A, c, rfl, hnc, hC⟩ := Kd.R_reads ho0
 have hIF := idx105 p g lb eg A c l0 w hC hbig (fun W x hW => (hp x W (blk_below hcl hW)).mono fun e w' hq => ⟨hq.1, hW.trans (hq.2.mono hW.size)⟩)
 have HB := Aside0.mk hB
 have HO := Aside0.mk ho0
 have hu59 := Try.underlying59
 rcases Flat.idx_cut p default l0 0 with ⟨e1, hall⟩ | ⟨a, b, c', hl, e1, hb, ha⟩
 ·have e2 : Lib.idxBy (fun _ y => p y) l0 default = -1 := e1
  rw [e2] at hIF
  rw [hall]
  clear e1 e2 hall hC ho0 hp hB hcl hne
  go_enter Try.func97, Try.ntmps97
  go_wp2_with (go_at_call 105; refine hIF.mono ?_; rintro e w1 ⟨rfl, hb⟩)
  go_ret
  exact ⟨_, rfl, Kd.R_mono (Kd.R_below HO.out hb) (fun _ h => .inl h), below_step HB.out hb, Kept.of_below hb _⟩
 ·have e2 : Lib.idxBy (fun _ y => p y) l0 default = ((a.length : Nat) : Int) := e1.trans (by rw [Nat.zero_add])
  rw [e2] at hIF
  have hpos : 0 < l0.length := by rw [hl]; simp; omega
  have hst := Flat.DelInv.start (c := c') hb ha
  rw [← hl] at hst
  obtain ⟨g0, cap, hv, hbg, hlt, cells, hh⟩ := Kd.R_form ho0 hpos
  injection hv with hv1 _ hv2
  subst hv1; subst hv2
  have hgne : gb ≠ g0 := fun e => hne (by rw [e]; rfl)
  have HST := Aside0.mk hst
  have HCL := Aside0.mk hcl
  have HP := Aside0.mk hp
  have HGP := Aside0.mk (ho0.1 g0 rfl)
  have hne1 : (((a.length : Nat) : Int) == -1) = false := beq_eq_false_iff_ne.2 (by omega)
  have hal : a.length < l0.length := by rw [hl]; simp
  have HL := Aside0.mk hal
  clear e1 e2 hl hb ha hp hst hC hcl hB ho0 hh hne
  go_enter Try.func97, Try.ntmps97
  go_wp2_with (go_at_call 105; refine hIF.mono ?_; rintro e w1 ⟨rfl, hb⟩)
  go_loopg [5, 6, 7] l0.length (fun gg s5 s6 _ wr => ∃ (i j : Nat) (l : List S59), s5 = .int .i64 i ∧ s6 = .int .i64 j ∧ l0.length - j ≤ gg ∧ Aside0 (Flat.DelInv p l0 i j l) ∧ Aside0 (Kd.R k59 59 wr w0.heap.size (fun k_ => (P0_ k_ ∨ w.heap.size ≤ k_)) (.slice (some ⟨g0, 0, none⟩) l0.length c) l) ∧ Aside0 (Below w0.heap.size w0 wr) ∧ Aside0 (Kept w wr (fun k_ => P0_ k_)) ∧ Aside0 (wr.heap[gb]? = some ob))
  case atStart => exact ⟨a.length, a.length + 1, l0, rfl, (by have := HL.out; go_num), (by omega), HST, ⟨Kd.R_mono (Kd.R_below HO.out hb) (fun _ h => .inl h)⟩, ⟨below_step HB.out hb⟩, ⟨Kept.of_below hb _⟩, ⟨blk_below HCL.out hb⟩⟩
  case round =>
   obtain ⟨i, j, l, rfl, rfl, hgg, HI, HR, HB1, HK, HC1⟩ := hrel
   have hij := HI.out.lt
   have hjn := HI.out.le
   have hll := HI.out.len
   clear HST HCL HO HB
   by_cases hjl : j < l0.length
   ·have hjz : (j : Int) < (l0.length : Int) := by omega
    have hx := HI.out.at_ hjl (by omega)
    have hR := HR.out
    obtain ⟨x, hxe⟩ : ∃ x, x = l0[j] := ⟨_, rfl⟩
    have hcj0 : wr.cell? ⟨g0, j * 2, none⟩ = some (.int .i64 x.f0) := by rw [hxe, ← hx]; exact Flat.R_cell flat59 hR j (by omega) 0 _ rfl
    have hcj1 : wr.cell? ⟨g0, j * 2 + 1, none⟩ = some (.string x.f1) := by rw [hxe, ← hx]; exact Flat.R_cell flat59 hR j (by omega) 1 _ rfl
    have hcall : ∀ W', Below wr.heap.size wr W' → W'.heap[wr.heap.size]? = some (.cells #[.int .i64 x.f0, .string x.f1] 59 (0, 0)) → Calls Try.prog g (#[.agg #[.int .i64 x.f0, .string x.f1]] ++ lb) W' fun e w' => e = .returned (.bool (p x)) ∧ Below wr.heap.size wr w' ∧ w'.heap[wr.heap.size]? = some (.cells #[.int .i64 x.f0, .string x.f1] 59 (0, 0)) := fun W' hW hx => (HP.out x W' (blk_below HC1.out hW)).mono fun e w' hq => ⟨hq.1, below_then hW hW.size hq.2, blk_below hx hq.2⟩
    have HXE := Aside0.mk hxe
    clear hxe hx hR
    cases hq : p x with
    | false =>
     rw [hq] at hcall
     go_wp2_with (go_at_fn g; refine (hcall _ ?hbl ?hbx).mono ?_; (case hbl => exact below_alloc (Below.refl _ _) _); (case hbx => exact heap_alloc_new ..); rintro e w1 ⟨rfl, hb1, hbx⟩; have hv0 : w1.cell? ⟨wr.heap.size, 0, none⟩ = some (.int .i64 x.f0) := (blk_cell hbx 0).trans rfl; have hv1 : w1.cell? ⟨wr.heap.size, 1, none⟩ = some (.string x.f1) := (blk_cell hbx 1).trans rfl; have HR1 := Aside0.mk (Kd.R_below HR.out hb1); have HB2 := Aside0.mk hb1; have hi0 := Flat.R_cell flat59 HR1.out i (by omega) 0 _ rfl; have hi1 := Flat.R_cell flat59 HR1.out i (by omega) 1 _ rfl; have hf0 := Flat.R_fz flat59 HR1.out (i * 2); have hf1 := Flat.R_fz flat59 HR1.out (i * 2 + 1); clear hbx hb1; (try simp only [show k59.sz = 2 from rfl, Nat.add_zero] at hi0 hi1))
     go_roundg (l0.length - (j + 1))
     case measure => omega
     case rel =>
      have hS := Flat.R_cells flat59 HR1.out i [x] (by show i + 1 ≤ l.length; omega)
      refine ⟨i + 1, j + 1, l.take i ++ [x] ++ l.drop (i + 1), (by go_num), (by go_num), (by omega), ⟨?_⟩, ⟨hS.1⟩, ⟨pw_below_grown (below_then HB1.out HB1.out.size HB2.out) (some g0) (Nat.le_trans HB1.out.size HB2.out.size) hS.2 (fun k hk => ?_)⟩, ⟨Kept.of_grown hS.2 (Kept.below HK.out HB2.out) (fun k hk => ?_)⟩, ⟨blk_grown (blk_below HC1.out HB2.out) hS.2 (fun e => hgne (Option.some.inj e))⟩⟩
      ·rw [HXE.out]
       exact HI.out.keep hjl (by rw [← HXE.out]; exact hq)
      ·obtain rfl := Option.some.inj hk
       exact hbg
      ·obtain rfl := Option.some.inj hk
       exact .inl HGP.out
    | true =>
     rw [hq] at hcall
     go_wp2_with (go_at_fn g; refine (hcall _ ?hbl ?hbx).mono ?_; (case hbl => exact below_alloc (Below.refl _ _) _); (case hbx => exact heap_alloc_new ..); rintro e w1 ⟨rfl, hb1, hbx⟩; have HB2 := Aside0.mk hb1; clear hbx hb1)
     go_roundg (l0.length - (j + 1))
     case measure => omega
     case rel => exact ⟨i, j + 1, l, rfl, (by go_num), (by omega), ⟨HI.out.skip hjl (by rw [← HXE.out]; exact hq)⟩, ⟨Kd.R_below HR.out HB2.out⟩, ⟨below_step HB1.out HB2.out⟩, ⟨Kept.below HK.out HB2.out⟩, ⟨blk_below HC1.out HB2.out⟩⟩
   ·have hjz : ¬ ((j : Int) < (l0.length : Int)) := by omega
    have hje : j = l0.length := by omega
    have hci : ¬ (c = i) := by omega
    have hin : i ≤ l0.length := by omega
    have hcl : ∀ ty, (Builtin.clear_ #[47] ty #[.slice (some ⟨g0, i * 2, none⟩) (l0.length - i) (c - i)]).run Try.prog wr = .ok (.tuple #[]) (wr.setCells g0 (i * 2) ((List.replicate (l0.length - i) z59).flatMap enc59)) := fun ty => Flat.run_clear flat59 (by decide) HR.out 47 ty _ z59 rfl Try.underlying47 Try.zeroValue59 i (l0.length - i) (c - i) (by omega) (by omega)
    go_wp2
    go_ret
    have hS := Flat.R_cells flat59 HR.out i (List.replicate (l0.length - i) z59) (by rw [List.length_replicate]; omega)
    have hT := Kd.R_take (m := i) hS.1 (by simp [List.length_take, List.length_drop]; omega)
    rw [List.append_assoc, List.take_left' (by simp [List.length_take]; omega)] at hT
    have hD := HI.out
    rw [hje] at hD
    rw [hD.done] at hT
    refine ⟨_, rfl, hT, pw_below_grown HB1.out (some g0) HB1.out.size hS.2 (fun k hk => ?_), Kept.of_grown hS.2 HK.out (fun k hk => ?_)⟩
    ·obtain rfl := Option.some.inj hk
     exact hbg
    ·obtain rfl := Option.some.inj hk
     exact .inl HGP.out
def slices_DeleteFunc_Entry_g98.f (l0 : List S59) (c0_0 : ByteArray) : Option (List S59) := if l0.length ≤ 9223372036854775807 then some (l0.filter fun y => !clo98.p c0_0 y) else none
theorem slices_DeleteFunc_Entry_g98.calls (P0_ : Nat → Prop) (u9000_ : Value) (l0 : List S59) (gb0 : Nat) (c0_0 : ByteArray) (r : List S59) (w0 w : World) (hB : Below w0.heap.size w0 w) (ho0 : Kd.R k59 59 w w0.heap.size P0_ u9000_ l0) (hcl0 : w.heap[gb0]? = some (.cells #[.string c0_0] 9 (0, 0))) (h : slices_DeleteFunc_Entry_g98.f l0 c0_0 = some r) :
  Calls Try.prog 97 #[u9000_, .func (.func 98) #[] #[.pointer (some ⟨gb0, 0, none⟩)]] w fun e w' => ∃ v0_ : Value, e = .returned v0_ ∧ Kd.R k59 59 w' w0.heap.size (fun k_ => (P0_ k_ ∨ w.heap.size ≤ k_)) v0_ r ∧ Below w0.heap.size w0 w' ∧ Kept w w' (fun k_ => P0_ k_) := by
 unfold slices_DeleteFunc_Entry_g98.f at h
 split at h
 case isFalse => cases h
 case isTrue hl =>
 obtain rfl := Option.some.inj h
 exact del97 (fun y => clo98.p c0_0 y) 98 #[.pointer (some ⟨gb0, 0, none⟩)] (fun args W => enters_ Try.func98 rfl rfl args W) gb0 (.cells #[.string c0_0] 9 (0, 0)) (fun x W hx => clo98 x gb0 c0_0 W hx) P0_ u9000_ l0 w0 w hB ho0 hl hcl0 (Kd.R_ne ho0 hcl0 (by decide))

/-! ### impl_WithoutEntry: function 29 -/
def impl_WithoutEntry.f (a0_0 : Int) (a0_1 : Int) (a0_2 : Int) (a0_3 : ByteArray) (l0_4 : List (S170)) (l0_5 : List (S59)) (a1 : ByteArray) : Option (Int × Int × Int × ByteArray × (List (S170)) × (List (S59))) := (impl_copyInode.f a0_0 a0_1 a0_2 a0_3 l0_4 l0_5).bind fun bt238 => ((slices_DeleteFunc_Entry_g98.f bt238.2.2.2.2.2 a1).bind fun t249 => (some (bt238.1, bt238.2.1, bt238.2.2.1, bt238.2.2.2.1, bt238.2.2.2.2.1, t249)))
set_option maxHeartbeats 8000000 in
set_option maxRecDepth 100000 in
theorem impl_WithoutEntry.calls (a0_0 : Int) (a0_1 : Int) (a0_2 : Int) (a0_3 : ByteArray) (A0_4 : Option Addr) (c0_4 : Nat) (l0_4 : List (S170)) (A0_5 : Option Addr) (c0_5 : Nat) (l0_5 : List (S59)) (a1 : ByteArray) (r1 : Int) (r2 : Int) (r3 : Int) (r4 : ByteArray) (r5 : List (S170)) (r6 : List (S59)) (w : World) (hr0_4 : Kd.C k170 w A0_4 l0_4.length l0_4) (hc0_4 : l0_4.length ≤ c0_4) (hr0_5 : Kd.C k59 w A0_5 l0_5.length l0_5) (hc0_5 : l0_5.length ≤ c0_5) (h : impl_WithoutEntry.f a0_0 a0_1 a0_2 a0_3 l0_4 l0_5 a1 = some (r1, r2, r3, r4, r5, r6)) :
  Calls Try.prog 29 #[.agg #[.int .i64 a0_0, .int .i64 a0_1, .int .i64 a0_2, .string a0_3, .slice A0_4 l0_4.length c0_4, .slice A0_5 l0_5.length c0_5], .string a1] w fun e w' => ∃ v4_ v5_ : Value, e = .returned (.agg #[.int .i64 r1, .int .i64 r2, .int .i64 r3, .string r4, v4_, v5_]) ∧ Kd.R k170 170 w' w.heap.size (fun _ => True) v4_ r5 ∧ Kd.R k59 59 w' w.heap.size (fun _ => True) v5_ r6 ∧ Below w.heap.size w w' := by
 have hu49 := Try.underlying49
 have HR0_4 := Aside0.mk hr0_4
 have HC0_4 := Aside0.mk hc0_4
 clear hr0_4 hc0_4
 have HR0_5 := Aside0.mk hr0_5
 have HC0_5 := Aside0.mk hc0_5
 clear hr0_5 hc0_5
 have HB := Aside0.mk (Below.refl w.heap.size w)
 have H : ((impl_copyInode.f a0_0 a0_1 a0_2 a0_3 l0_4 l0_5).bind fun bt238 => ((slices_DeleteFunc_Entry_g98.f bt238.2.2.2.2.2 a1).bind fun t249 => (some (bt238.1, bt238.2.1, bt238.2.2.1, bt238.2.2.2.1, bt238.2.2.2.2.1, t249)))) = some (r1, r2, r3, r4, r5, r6) := h
 clear h
 replace H := Option.bind_eq_some_iff.mp H
 obtain ⟨⟨t238, t239, t240, t241, t242, t245⟩, A30, H⟩ := H
 replace H : ((slices_DeleteFunc_Entry_g98.f t245 a1).bind fun t249 => (some (t238, t239, t240, t241, t242, t249))) = some (r1, r2, r3, r4, r5, r6) := H
 have A3 := Aside0.mk A30
 clear A30
 replace H := Option.bind_eq_some_iff.mp H
 obtain ⟨t249, A40, H⟩ := H
 replace H : (some (t238, t239, t240, t241, t242, t249)) = some (r1, r2, r3, r4, r5, r6) := H
 have A4 := Aside0.mk A40
 clear A40
 simp only [Option.some.injEq, Prod.mk.injEq] at H
 obtain ⟨rfl, rfl, rfl, rfl, rfl, rfl⟩ := H
 go_enter Try.func29, Try.ntmps29
 go_wp2_with (first | ((with_reducible refine gate_dst (N := 2) rfl ?_); refine box_event ?hg (N := 2) ?hd (cs := #[.int .i64 a0_0, .int .i64 a0_1, .int .i64 a0_2, .string a0_3, .slice A0_4 l0_4.length c0_4, .slice A0_5 l0_5.length c0_5]) (t := 49) ?hr ?_; (case hd => rfl); (case hg => rfl); (case hr => first | (go_simp; done) | (go_simp; rfl)); intro gb235 hg w5 hbox hb; have z_ := p_ (below_step tq_0 hb) <| p_ (hbox) <| p_ (gb_ hg tq_0) <| a_ (gb_ hg tq_0); clear HB; obtain ⟨HB, BK235, GW235, GE235⟩ := z_; clear hb hbox hg) | ((with_reducible refine gate_dst (N := 3) rfl ?_); refine box_event ?hg (N := 3) ?hd (cs := #[.string a1]) (t := 9) ?hr ?_; (case hd => rfl); (case hg => rfl); (case hr => first | (go_simp; done) | (go_simp; rfl)); intro gb236 hg w6 hbox hb; have z_ := p_ (blk_below tq_49 hb) <| p_ (below_step tq_130 hb) <| p_ (hbox) <| p_ (gb_ hg tq_130) <| p_ (gb_ hg tq_130) <| p_ (ltne_ hg (blk_lt tq_49)) <| a_ (gtne_ hg (blk_lt tq_49)); clear BK235 HB; obtain ⟨BK235, HB, BK236, GW236, GE236, NB235_236, NB236_235⟩ := z_; clear hb hbox hg) | ((with_reducible refine gate_dst (N := 4) rfl ?_); refine box_event ?hg (N := 4) ?hd (cs := #[.int .i64 0, .int .i64 0, .int .i64 0, .string (⟨#[]⟩ : ByteArray), .slice none 0 0, .slice none 0 0]) (t := 49) ?hr ?_; (case hd => rfl); (case hg => rfl); (case hr => first | (go_simp; done) | (go_simp; rfl)); intro gb237 hg w7 hbox hb; have z_ := p_ (blk_below tq_49 hb) <| p_ (blk_below tq_70 hb) <| p_ (below_step tq_121 hb) <| p_ (hbox) <| p_ (gb_ hg tq_121) <| p_ (gb_ hg tq_121) <| p_ (ltne_ hg (blk_lt tq_49)) <| p_ (gtne_ hg (blk_lt tq_49)) <| p_ (ltne_ hg (blk_lt tq_70)) <| a_ (gtne_ hg (blk_lt tq_70)); clear BK235 BK236 HB; obtain ⟨BK235, BK236, HB, BK237, GW237, GE237, NB235_237, NB237_235, NB236_237, NB237_236⟩ := z_; clear hb hbox hg; have hnb8 := NB235_236.out; have hnc8 := NB236_235.out; have hnb9 := NB235_237.out; have hnc9 := NB237_235.out; have hcz10_0 := bc_ BK235.out 0; have hcz10_1 := bc_ BK235.out 1; have hcz10_2 := bc_ BK235.out 2; have hcz10_3 := bc_ BK235.out 3; have hcz10_4 := bc_ BK235.out 4; have hcz10_5 := bc_ BK235.out 5; have hfz10_0 := blk_frozen BK235.out 0; have hfz10_1 := blk_frozen BK235.out 1; have hfz10_2 := blk_frozen BK235.out 2; have hfz10_3 := blk_frozen BK235.out 3; have hfz10_4 := blk_frozen BK235.out 4; have hfz10_5 := blk_frozen BK235.out 5) | ((with_reducible refine gate_callee (f := 96) rfl ?_); refine goesL_ (some 7) rfl rfl Try.func96 (by kernel_rfl) rfl #[.agg #[.int .i64 a0_0, .int .i64 a0_1, .int .i64 a0_2, .string a0_3, .slice A0_4 l0_4.length c0_4, .slice A0_5 l0_5.length c0_5]] rfl tq_2 ?_; (with_reducible refine (impl_copyInode.calls a0_0 a0_1 a0_2 a0_3 _ _ l0_4 _ _ l0_5 t238 t239 t240 t241 t242 t245 _ ?side1 ?side2 ?side3 ?side4 A3.out).mono ?_); (case side1 => exact tq_15); (case side2 => exact HC0_4.out); (case side3 => exact tq_24); (case side4 => exact HC0_5.out); rintro e w11 ⟨v243, v246, rfl, ho0, ho1, hb⟩; refine ⟨_, rfl, ?_⟩; have z_ := p_ (Kd.R_lower ho0 (below_size tq_51)) <| p_ (Kd.R_lower ho1 (below_size tq_51)) <| p_ (blk_below tq_49 hb) <| p_ (blk_below tq_70 hb) <| p_ (blk_below tq_111 hb) <| a_ (below_step tq_51 hb); clear BK235 BK236 BK237 HB; obtain ⟨HO244, HO247, BK235, BK236, BK237, HB⟩ := z_; (try clear hb); (try clear hb2); (try clear hk); (try clear hi); (try clear ho0); (try clear ho1)) | ((with_reducible refine gate_dst (N := 5) rfl ?_); refine box_event ?hg (N := 5) ?hd (cs := #[.int .i64 0, .int .i64 0, .int .i64 0, .string (⟨#[]⟩ : ByteArray), .slice none 0 0, .slice none 0 0]) (t := 49) ?hr ?_; (case hd => rfl); (case hg => rfl); (case hr => first | (go_simp; done) | (go_simp; rfl)); intro gb248 hg w12 hbox hb; have z_ := p_ (Kd.R_below (by (with_reducible repeat (first | apply Kd.R_alloc | apply Kd.R_drewN | apply Kd.R_drew)); exact HO244.out) hb) <| p_ (Kd.R_below (by (with_reducible repeat (first | apply Kd.R_alloc | apply Kd.R_drewN | apply Kd.R_drew)); exact HO247.out) hb) <| p_ (blk_below tq_49 hb) <| p_ (blk_below tq_70 hb) <| p_ (blk_below tq_111 hb) <| p_ (below_step tq_51 hb) <| p_ (hbox) <| p_ (gb_ hg tq_51) <| p_ (gb_ hg tq_51) <| p_ (ltne_ hg (blk_lt tq_49)) <| p_ (gtne_ hg (blk_lt tq_49)) <| p_ (ltne_ hg (blk_lt tq_70)) <| p_ (gtne_ hg (blk_lt tq_70)) <| p_ (ltne_ hg (blk_lt tq_111)) <| a_ (gtne_ hg (blk_lt tq_111)); clear HO244 HO247 BK235 BK236 BK237 HB; obtain ⟨HO244, HO247, BK235, BK236, BK237, HB, BK248, GW248, GE248, NB235_248, NB248_235, NB236_248, NB248_236, NB237_248, NB248_237⟩ := z_; clear hb hbox hg; have hnb13 := NB248_235.out; have hnc13 := NB235_248.out; have hnb14 := NB248_236.out; have hnc14 := NB236_248.out; have hnb15 := NB248_237.out; have hnc15 := NB237_248.out; have hcz16_0 := bc_ BK248.out 0; have hcz16_1 := bc_ BK248.out 1; have hcz16_2 := bc_ BK248.out 2; have hcz16_3 := bc_ BK248.out 3; have hcz16_4 := bc_ BK248.out 4; have hcz16_5 := bc_ BK248.out 5; have hfz16_0 := blk_frozen BK248.out 0; have hfz16_1 := blk_frozen BK248.out 1; have hfz16_2 := blk_frozen BK248.out 2; have hfz16_3 := blk_frozen BK248.out 3; have hfz16_4 := blk_frozen BK248.out 4; have hfz16_5 := blk_frozen BK248.out 5; obtain ⟨Ao17, co17, eo17⟩ := Kd.R_slice HO244.out; subst eo17; obtain ⟨Ao18, co18, eo18⟩ := Kd.R_slice HO247.out; subst eo18) | ((with_reducible refine gate_store (t := 49) (p := 5) rfl ?_); refine store_event (t := 49) (p := 5) (v := ?vo_w19) (w1 := ((((((w12.setCell ⟨gb248, 0, none⟩ (.int .i64 t238)).setCell ⟨gb248, 1, none⟩ (.int .i64 t239)).setCell ⟨gb248, 2, none⟩ (.int .i64 t240)).setCell ⟨gb248, 3, none⟩ (.string t241)).setCell ⟨gb248, 4, none⟩ (.slice Ao17 t242.length co17)).setCell ⟨gb248, 5, none⟩ (.slice Ao18 t245.length co18))) ?hg ?ho ?hn ?hr ?_; (case ho => rfl); (case hg => rfl); (case hn => rfl); (case hr => first | (go_simp; done) | (go_simp; rfl)); intro w19 hw; have z_ := q_ (⟨(by rw [hw]; exact (by (with_reducible repeat (first | apply Kd.R_alloc | apply Kd.R_drewN | apply Kd.R_drew)); exact Kd.R_mono (Kd.R_far (p := ⟨gb248, 5, none⟩) (Kd.R_far (p := ⟨gb248, 4, none⟩) (Kd.R_far (p := ⟨gb248, 3, none⟩) (Kd.R_far (p := ⟨gb248, 2, none⟩) (Kd.R_far (p := ⟨gb248, 1, none⟩) (Kd.R_far (p := ⟨gb248, 0, none⟩) (Kd.R_types HO244.out BK248.out (by decide)) (fun _ hk => hk.2) (.int .i64 t238)) (fun _ hk => hk.2) (.int .i64 t239)) (fun _ hk => hk.2) (.int .i64 t240)) (fun _ hk => hk.2) (.string t241)) (fun _ hk => hk.2) (.slice Ao17 t242.length co17)) (fun _ hk => hk.2) (.slice Ao18 t245.length co18)) (fun _ hk => trivial)))⟩ : Aside0 (Kd.R k170 170 w19 w.heap.size (fun _ => True) (.slice Ao17 t242.length co17) t242)) <| q_ (⟨(by rw [hw]; exact (by (with_reducible repeat (first | apply Kd.R_alloc | apply Kd.R_drewN | apply Kd.R_drew)); exact Kd.R_mono (Kd.R_far (p := ⟨gb248, 5, none⟩) (Kd.R_far (p := ⟨gb248, 4, none⟩) (Kd.R_far (p := ⟨gb248, 3, none⟩) (Kd.R_far (p := ⟨gb248, 2, none⟩) (Kd.R_far (p := ⟨gb248, 1, none⟩) (Kd.R_far (p := ⟨gb248, 0, none⟩) (Kd.R_types HO247.out BK248.out (by decide)) (fun _ hk => hk.2) (.int .i64 t238)) (fun _ hk => hk.2) (.int .i64 t239)) (fun _ hk => hk.2) (.int .i64 t240)) (fun _ hk => hk.2) (.string t241)) (fun _ hk => hk.2) (.slice Ao17 t242.length co17)) (fun _ hk => hk.2) (.slice Ao18 t245.length co18)) (fun _ hk => trivial)))⟩ : Aside0 (Kd.R k59 59 w19 w.heap.size (fun _ => True) (.slice Ao18 t245.length co18) t245)) <| q_ (⟨(by rw [hw]; exact (by (with_reducible repeat (first | refine blk_drewN ?_ _ | refine blk_drew ?_ | refine blk_alloc ?_ _)); refine blk_far ?_ NB235_248.out _; (with_reducible repeat (first | refine blk_drewN ?_ _ | refine blk_drew ?_ | refine blk_alloc ?_ _)); refine blk_far ?_ NB235_248.out _; (with_reducible repeat (first | refine blk_drewN ?_ _ | refine blk_drew ?_ | refine blk_alloc ?_ _)); refine blk_far ?_ NB235_248.out _; (with_reducible repeat (first | refine blk_drewN ?_ _ | refine blk_drew ?_ | refine blk_alloc ?_ _)); refine blk_far ?_ NB235_248.out _; (with_reducible repeat (first | refine blk_drewN ?_ _ | refine blk_drew ?_ | refine blk_alloc ?_ _)); refine blk_far ?_ NB235_248.out _; (with_reducible repeat (first | refine blk_drewN ?_ _ | refine blk_drew ?_ | refine blk_alloc ?_ _)); refine blk_far ?_ NB235_248.out _; (with_reducible repeat (first | refine blk_drewN ?_ _ | refine blk_drew ?_ | refine blk_alloc ?_ _)); exact BK235.out))⟩ : Aside0 (w19.heap[gb235]? = some (.cells #[.int .i64 a0_0, .int .i64 a0_1, .int .i64 a0_2, .string a0_3, .slice A0_4 l0_4.length c0_4, .slice A0_5 l0_5.length c0_5] 49 (0, 0)))) <| q_ (⟨(by rw [hw]; exact (by (with_reducible repeat (first | refine blk_drewN ?_ _ | refine blk_drew ?_ | refine blk_alloc ?_ _)); refine blk_far ?_ NB236_248.out _; (with_reducible repeat (first | refine blk_drewN ?_ _ | refine blk_drew ?_ | refine blk_alloc ?_ _)); refine blk_far ?_ NB236_248.out _; (with_reducible repeat (first | refine blk_drewN ?_ _ | refine blk_drew ?_ | refine blk_alloc ?_ _)); refine blk_far ?_ NB236_248.out _; (with_reducible repeat (first | refine blk_drewN ?_ _ | refine blk_drew ?_ | refine blk_alloc ?_ _)); refine blk_far ?_ NB236_248.out _; (with_reducible repeat (first | refine blk_drewN ?_ _ | refine blk_drew ?_ | refine blk_alloc ?_ _)); refine blk_far ?_ NB236_248.out _; (with_reducible repeat (first | refine blk_drewN ?_ _ | refine blk_drew ?_ | refine blk_alloc ?_ _)); refine blk_far ?_ NB236_248.out _; (with_reducible repeat (first | refine blk_drewN ?_ _ | refine blk_drew ?_ | refine blk_alloc ?_ _)); exact BK236.out))⟩ : Aside0 (w19.heap[gb236]? = some (.cells #[.string a1] 9 (0, 0)))) <| q_ (⟨(by rw [hw]; exact (by (with_reducible repeat (first | refine blk_drewN ?_ _ | refine blk_drew ?_ | refine blk_alloc ?_ _)); refine blk_far ?_ NB237_248.out _; (with_reducible repeat (first | refine blk_drewN ?_ _ | refine blk_drew ?_ | refine blk_alloc ?_ _)); refine blk_far ?_ NB237_248.out _; (with_reducible repeat (first | refine blk_drewN ?_ _ | refine blk_drew ?_ | refine blk_alloc ?_ _)); refine blk_far ?_ NB237_248.out _; (with_reducible repeat (first | refine blk_drewN ?_ _ | refine blk_drew ?_ | refine blk_alloc ?_ _)); refine blk_far ?_ NB237_248.out _; (with_reducible repeat (first | refine blk_drewN ?_ _ | refine blk_drew ?_ | refine blk_alloc ?_ _)); refine blk_far ?_ NB237_248.out _; (with_reducible repeat (first | refine blk_drewN ?_ _ | refine blk_drew ?_ | refine blk_alloc ?_ _)); refine blk_far ?_ NB237_248.out _; (with_reducible repeat (first | refine blk_drewN ?_ _ | refine blk_drew ?_ | refine blk_alloc ?_ _)); exact BK237.out))⟩ : Aside0 (w19.heap[gb237]? = some (.cells #[.int .i64 0, .int .i64 0, .int .i64 0, .string (⟨#[]⟩ : ByteArray), .slice none 0 0, .slice none 0 0] 49 (0, 0)))) <| q_ (⟨(by rw [hw]; exact (by (with_reducible repeat (first | refine blk_drewN ?_ _ | refine blk_drew ?_ | refine blk_alloc ?_ _)); refine blk_put (cs := #[.int .i64 t238, .int .i64 t239, .int .i64 t240, .string t241, .slice Ao17 t242.length co17, .slice none 0 0]) ?_ 5 _ rfl; (with_reducible repeat (first | refine blk_drewN ?_ _ | refine blk_drew ?_ | refine blk_alloc ?_ _)); refine blk_put (cs := #[.int .i64 t238, .int .i64 t239, .int .i64 t240, .string t241, .slice none 0 0, .slice none 0 0]) ?_ 4 _ rfl; (with_reducible repeat (first | refine blk_drewN ?_ _ | refine blk_drew ?_ | refine blk_alloc ?_ _)); refine blk_put (cs := #[.int .i64 t238, .int .i64 t239, .int .i64 t240, .string (⟨#[]⟩ : ByteArray), .slice none 0 0, .slice none 0 0]) ?_ 3 _ rfl; (with_reducible repeat (first | refine blk_drewN ?_ _ | refine blk_drew ?_ | refine blk_alloc ?_ _)); refine blk_put (cs := #[.int .i64 t238, .int .i64 t239, .int .i64 0, .string (⟨#[]⟩ : ByteArray), .slice none 0 0, .slice none 0 0]) ?_ 2 _ rfl; (with_reducible repeat (first | refine blk_drewN ?_ _ | refine blk_drew ?_ | refine blk_alloc ?_ _)); refine blk_put (cs := #[.int .i64 t238, .int .i64 0, .int .i64 0, .string (⟨#[]⟩ : ByteArray), .slice none 0 0, .slice none 0 0]) ?_ 1 _ rfl; (with_reducible repeat (first | refine blk_drewN ?_ _ | refine blk_drew ?_ | refine blk_alloc ?_ _)); refine blk_put (cs := #[.int .i64 0, .int .i64 0, .int .i64 0, .string (⟨#[]⟩ : ByteArray), .slice none 0 0, .slice none 0 0]) ?_ 0 _ rfl; (with_reducible repeat (first | refine blk_drewN ?_ _ | refine blk_drew ?_ | refine blk_alloc ?_ _)); exact BK248.out))⟩ : Aside0 (w19.heap[gb248]? = some (.cells #[.int .i64 t238, .int .i64 t239, .int .i64 t240, .string t241, .slice Ao17 t242.length co17, .slice Ao18 t245.length co18] 49 (0, 0)))) <| (⟨(by rw [hw]; exact tq_150)⟩ : Aside0 (Below w.heap.size w w19)); clear hw HO244 HO247 BK235 BK236 BK237 BK248 HB; obtain ⟨HO244, HO247, BK235, BK236, BK237, BK248, HB⟩ := z_; have hcz20_0 := bc_ BK248.out 0; have hcz20_1 := bc_ BK248.out 1; have hcz20_2 := bc_ BK248.out 2; have hcz20_3 := bc_ BK248.out 3; have hcz20_4 := bc_ BK248.out 4; have hcz20_5 := bc_ BK248.out 5; have hfz20_0 := blk_frozen BK248.out 0; have hfz20_1 := blk_frozen BK248.out 1; have hfz20_2 := blk_frozen BK248.out 2; have hfz20_3 := blk_frozen BK248.out 3; have hfz20_4 := blk_frozen BK248.out 4; have hfz20_5 := blk_frozen BK248.out 5) | ((with_reducible refine gate_callee (f := 97) rfl ?_); refine goesL_ (some 11) rfl rfl Try.func97 (by kernel_rfl) rfl #[.slice Ao18 t245.length co18, .func (.func 98) #[] #[.pointer (some ⟨gb236, 0, none⟩)]] rfl tq_2 ?_; (with_reducible refine (slices_DeleteFunc_Entry_g98.calls (fun k_ => some k_ = (.slice Ao18 t245.length co18 : Value).ownBlock) (.slice Ao18 t245.length co18) t245 gb236 a1 t249 w _ ?side1 ?side2 ?side3 A4.out).mono ?_); (case side1 => repeat (first | (with_reducible first | exact HB.out | apply below_alloc | apply pw_below_drewN | apply below_drew1 | refine below_set ?_ GE235.out | refine below_set ?_ GE236.out | refine below_set ?_ GE237.out | refine below_set ?_ GE248.out) | exact HB.out)); (case side2 => exact Kd.R_tight rfl HO247.out); (case side3 => (with_reducible repeat (first | refine blk_drewN ?_ _ | refine blk_drew ?_ | refine blk_alloc ?_ _)); exact BK236.out); rintro e w21 ⟨v250, rfl, ho0, hb, hkp⟩; refine ⟨_, rfl, ?_⟩; have z_ := p_ (blk_kept tq_49 hkp (fun hs_ => (fun e_ => (Kd.R_ne HO247.out BK235.out (by decide)) e_) hs_)) <| p_ (blk_kept tq_70 hkp (fun hs_ => (fun e_ => (Kd.R_ne HO247.out BK236.out (by decide)) e_) hs_)) <| p_ (blk_kept tq_111 hkp (fun hs_ => (fun e_ => (Kd.R_ne HO247.out BK237.out (by decide)) e_) hs_)) <| p_ (Kd.R_mono (ok' := fun k_ => True) (Kd.R_keptB ((Kd.R_apart' HO244.out (Kd.R_typed HO247.out) (by decide))) hkp (fun k_ hk_ hs_ => (hk_.2) hs_)) (fun k_ hk_ => trivial)) <| p_ (blk_kept (by (with_reducible repeat (first | refine blk_drewN ?_ _ | refine blk_drew ?_ | refine blk_alloc ?_ _)); exact BK248.out) hkp (fun hs_ => (fun e_ => (Kd.R_ne HO247.out BK248.out (by decide)) e_) hs_)) <| p_ (Kd.R_mono (ok' := fun k_ => True) ho0 (fun k_ hk_ => trivial)) <| a_ (hb); clear BK235 BK236 BK237 HO244 BK248 HB HO247; obtain ⟨BK235, BK236, BK237, HO244, BK248, HO251, HB⟩ := z_; (try clear hb); (try clear hkp); (try clear ho0); obtain ⟨Ao22, co22, eo22⟩ := Kd.R_slice HO251.out; subst eo22; have hcz23_0 := bc_ BK248.out 0; have hcz23_1 := bc_ BK248.out 1; have hcz23_2 := bc_ BK248.out 2; have hcz23_3 := bc_ BK248.out 3; have hcz23_4 := bc_ BK248.out 4; have hcz23_5 := bc_ BK248.out 5; have hfz23_0 := blk_frozen BK248.out 0; have hfz23_1 := blk_frozen BK248.out 1; have hfz23_2 := blk_frozen BK248.out 2; have hfz23_3 := blk_frozen BK248.out 3; have hfz23_4 := blk_frozen BK248.out 4; have hfz23_5 := blk_frozen BK248.out 5; have hnb24 := NB237_236.out; have hnc24 := NB236_237.out; have hcz25_0 := bc_ BK237.out 0; have hcz25_1 := bc_ BK237.out 1; have hcz25_2 := bc_ BK237.out 2; have hcz25_3 := bc_ BK237.out 3; have hcz25_4 := bc_ BK237.out 4; have hcz25_5 := bc_ BK237.out 5; have hfz25_0 := blk_frozen BK237.out 0; have hfz25_1 := blk_frozen BK237.out 1; have hfz25_2 := blk_frozen BK237.out 2; have hfz25_3 := blk_frozen BK237.out 3; have hfz25_4 := blk_frozen BK237.out 4; have hfz25_5 := blk_frozen BK237.out 5))
 refine bodyPost_ret (results_cell_row rfl _ _ gb237 49 #[.int .i64 t238, .int .i64 t239, .int .i64 t240, .string t241, .slice Ao17 t242.length co17, .slice Ao22 t249.length co22] (0, 0) _ rfl (by (with_reducible repeat (first | refine blk_drewN ?_ _ | refine blk_drew ?_ | refine blk_alloc ?_ _)); refine blk_put (cs := #[.int .i64 t238, .int .i64 t239, .int .i64 t240, .string t241, .slice Ao17 t242.length co17, .slice none 0 0]) ?_ 5 _ rfl; (with_reducible repeat (first | refine blk_drewN ?_ _ | refine blk_drew ?_ | refine blk_alloc ?_ _)); refine blk_put (cs := #[.int .i64 t238, .int .i64 t239, .int .i64 t240, .string t241, .slice none 0 0, .slice none 0 0]) ?_ 4 _ rfl; (with_reducible repeat (first | refine blk_drewN ?_ _ | refine blk_drew ?_ | refine blk_alloc ?_ _)); refine blk_put (cs := #[.int .i64 t238, .int .i64 t239, .int .i64 t240, .string (⟨#[]⟩ : ByteArray), .slice none 0 0, .slice none 0 0]) ?_ 3 _ rfl; (with_reducible repeat (first | refine blk_drewN ?_ _ | refine blk_drew ?_ | refine blk_alloc ?_ _)); refine blk_put (cs := #[.int .i64 t238, .int .i64 t239, .int .i64 0, .string (⟨#[]⟩ : ByteArray), .slice none 0 0, .slice none 0 0]) ?_ 2 _ rfl; (with_reducible repeat (first | refine blk_drewN ?_ _ | refine blk_drew ?_ | refine blk_alloc ?_ _)); refine blk_put (cs := #[.int .i64 t238, .int .i64 0, .int .i64 0, .string (⟨#[]⟩ : ByteArray), .slice none 0 0, .slice none 0 0]) ?_ 1 _ rfl; (with_reducible repeat (first | refine blk_drewN ?_ _ | refine blk_drew ?_ | refine blk_alloc ?_ _)); refine blk_put (cs := #[.int .i64 0, .int .i64 0, .int .i64 0, .string (⟨#[]⟩ : ByteArray), .slice none 0 0, .slice none 0 0]) ?_ 0 _ rfl; (with_reducible repeat (first | refine blk_drewN ?_ _ | refine blk_drew ?_ | refine blk_alloc ?_ _)); refine blk_far ?_ NB237_248.out _; (with_reducible repeat (first | refine blk_drewN ?_ _ | refine blk_drew ?_ | refine blk_alloc ?_ _)); exact BK237.out) Try.underlying49 rfl (by kernel_rfl)) rfl ?_
 exact ⟨_, _, tq_7, (by (with_reducible repeat (first | apply Kd.R_alloc | apply Kd.R_drewN | apply Kd.R_drew)); exact Kd.R_mono (Kd.R_far (p := ⟨gb237, 5, none⟩) (Kd.R_far (p := ⟨gb237, 4, none⟩) (Kd.R_far (p := ⟨gb237, 3, none⟩) (Kd.R_far (p := ⟨gb237, 2, none⟩) (Kd.R_far (p := ⟨gb237, 1, none⟩) (Kd.R_far (p := ⟨gb237, 0, none⟩) (Kd.R_far (p := ⟨gb248, 5, none⟩) (Kd.R_types (Kd.R_types HO244.out BK248.out (by decide)) BK237.out (by decide)) (fun _ hk => hk.1.2) (.slice Ao22 t249.length co22)) (fun _ hk => hk.2) (.int .i64 t238)) (fun _ hk => hk.2) (.int .i64 t239)) (fun _ hk => hk.2) (.int .i64 t240)) (fun _ hk => hk.2) (.string t241)) (fun _ hk => hk.2) (.slice Ao17 t242.length co17)) (fun _ hk => hk.2) (.slice Ao22 t249.length co22)) (fun _ hk => trivial)), (by (with_reducible repeat (first | apply Kd.R_alloc | apply Kd.R_drewN | apply Kd.R_drew)); exact Kd.R_mono (Kd.R_far (p := ⟨gb237, 5, none⟩) (Kd.R_far (p := ⟨gb237, 4, none⟩) (Kd.R_far (p := ⟨gb237, 3, none⟩) (Kd.R_far (p := ⟨gb237, 2, none⟩) (Kd.R_far (p := ⟨gb237, 1, none⟩) (Kd.R_far (p := ⟨gb237, 0, none⟩) (Kd.R_far (p := ⟨gb248, 5, none⟩) (Kd.R_types (Kd.R_types HO251.out BK248.out (by decide)) BK237.out (by decide)) (fun _ hk => hk.1.2) (.slice Ao22 t249.length co22)) (fun _ hk => hk.2) (.int .i64 t238)) (fun _ hk => hk.2) (.int .i64 t239)) (fun _ hk => hk.2) (.int .i64 t240)) (fun _ hk => hk.2) (.string t241)) (fun _ hk => hk.2) (.slice Ao17 t242.length co17)) (fun _ hk => hk.2) (.slice Ao22 t249.length co22)) (fun _ hk => trivial)), tq_150⟩

/-! ### slices_Insert_Entry: function 107 -/
set_option maxHeartbeats 8000000 in
set_option maxRecDepth 100000 in
theorem ins107_end (P0_ : Nat → Prop) (u9000_ : Value) (l0 : List S59) (P2_ : Nat → Prop) (vb vc : Nat) (y : S59) (w0 w : World) (hB : Below w0.heap.size w0 w) (ho0 : Kd.R k59 59 w w0.heap.size P0_ u9000_ l0) (ho2 : Kd.R k59 59 w w0.heap.size P2_ (.slice (some ⟨vb, 0, none⟩) 1 vc) [y]) (hbig : (l0.length + 1) * 24 ≤ 140737488355328) :
  Calls Try.prog 107 #[u9000_, .int .i64 l0.length, .slice (some ⟨vb, 0, none⟩) 1 vc] w fun e w' => ∃ v0_ : Value, e = .returned v0_ ∧ Kd.R k59 59 w' w0.heap.size (fun k_ => ((P0_ k_ ∨ P2_ k_) ∨ w.heap.size ≤ k_)) v0_ (l0 ++ [y]) ∧ Below w0.heap.size w0 w' ∧ Kept w w' (fun k_ => P0_ k_ ∨ P2_ k_) := by
 have HRy := Aside0.mk (Kd.R_reads' ho2).2.2
 have HO := Aside0.mk (Kd.R_mono (ok' := fun k_ => ((P0_ k_ ∨ P2_ k_) ∨ w.heap.size ≤ k_)) ho0 (fun k h => .inl (.inl h)))
 have HG := Aside0.mk ho0.1
 have HB := Aside0.mk hB
 have HL := Aside0.mk hbig
 rcases Flat.R_form0 ho0 with ⟨rfl, hn⟩ | ⟨g, c, rfl, hnc, hcm⟩
 ·obtain rfl := List.eq_nil_of_length_eq_zero hn
  clear ho0 ho2 hB hbig hn
  go_enter Try.func107, Try.ntmps107
  go_wp2_with ((with_reducible refine gate_builtin (b := .append) (xs := #[.tmp 23, .tmp 24]) rfl ?_); at_builtin; refine Kd.R_append_rows k59 (w0 := w0) w0.heap.size rfl (.tmp 23) (.tmp 24) 47 59 (.agg #[(.int .i64 0), (.string ⟨#[]⟩)]) 24 rfl Try.underlying47 info59 rfl (by decide) (by omega) _ [] [y] _ _ _ _ (fun _ => False) rfl rfl HO.out HRy.out ?aM (fun _ h => h.elim) (fun k h => .inr h) HB.out HB.out.size HL.out ?_; (case aM => intro x cs h; have h := k59_open h; subst h; exact k59_mkM _ _ _ x); intro v1 w1 hR hB1 hg hat)
  go_ret
  exact ⟨_, rfl, hR, hB1, Kept.of_grown hg (Kept.refl _ _) (fun k hk => .inl (.inl (HG.out k hk)))⟩
 ·clear ho0 ho2 hB hbig
  go_enter Try.func107, Try.ntmps107
  go_wp2_with ((with_reducible refine gate_builtin (b := .append) (xs := #[.tmp 23, .tmp 24]) rfl ?_); at_builtin; refine Kd.R_append_rows k59 (w0 := w0) w0.heap.size rfl (.tmp 23) (.tmp 24) 47 59 (.agg #[(.int .i64 0), (.string ⟨#[]⟩)]) 24 rfl Try.underlying47 info59 rfl (by decide) (by omega) _ l0 [y] _ _ _ _ (fun _ => False) rfl rfl HO.out HRy.out ?aM (fun _ h => h.elim) (fun k h => .inr h) HB.out HB.out.size HL.out ?_; (case aM => intro x cs h; have h := k59_open h; subst h; exact k59_mkM _ _ _ x); intro v1 w1 hR hB1 hg hat)
  all_goals (go_ret; exact ⟨_, rfl, hR, hB1, Kept.of_grown hg (Kept.refl _ _) (fun k hk => .inl (.inl (HG.out k hk)))⟩)
set_option maxHeartbeats 8000000 in
set_option maxRecDepth 100000 in
theorem ins107_room (g c i vb vc n : Nat) (l0 : List S59) (y : S59) (w0 w : World) (P0_ P2_ : Nat → Prop) (hn : l0.length = n) (hi : i < n) (hroom : n + 1 ≤ c) (hvb : vb ≠ g) (hB : Below w0.heap.size w0 w) (ho0 : Kd.R k59 59 w w0.heap.size P0_ (.slice (some ⟨g, 0, none⟩) n c) l0) (ho2 : Kd.R k59 59 w w0.heap.size P2_ (.slice (some ⟨vb, 0, none⟩) 1 vc) [y]) :
  Calls Try.prog 107 #[.slice (some ⟨g, 0, none⟩) n c, .int .i64 i, .slice (some ⟨vb, 0, none⟩) 1 vc] w fun e w' => ∃ v0_ : Value, e = .returned v0_ ∧ Kd.R k59 59 w' w0.heap.size (fun k_ => ((P0_ k_ ∨ P2_ k_) ∨ w.heap.size ≤ k_)) v0_ (l0.take i ++ [y] ++ l0.drop i) ∧ Below w0.heap.size w0 w' ∧ Kept w w' (fun k_ => P0_ k_ ∨ P2_ k_) := by
 obtain ⟨hbg, hok, _, hnc, hcm, cur, hh, hcs, ht⟩ := Flat.R_open flat59 ho0
 obtain ⟨hbv, _, _, hvc, hvcm, vcur, hvh, hvcs, hvt⟩ := Flat.R_open flat59 ho2
 change cur.size = c * 2 at hcs
 change vcur.size = vc * 2 at hvcs
 change cur.toList.take (n * 2) = _ at ht
 change vcur.toList.take (1 * 2) = enc59 y ++ [] at hvt
 rw [List.append_nil] at hvt
 have hc63 : c ≤ 9223372036854775807 := by simp only [maxLen] at hcm; omega
 have mixed : Try.prog.follows .mixedOrders = true := by kernel_rfl
 have hsz : (Try.prog.info? 59).map (·.size) = some 2 := by
  obtain ⟨i0, hi0, h0, h1, h2⟩ := info_parts info59
  rw [hi0]; simp [h1]
 have hYl : (enc59 y).length = 2 := rfl
 have hDl : ((l0.drop i).flatMap enc59).length = (n - i) * 2 := by rw [Flat.flat_len flat59.len, List.length_drop, hn]; rfl
 have hDe := Flat.flat_drop (enc := enc59) (sz := 2) flat59.len l0 i (by omega)
 have hone : ∀ (xs : List S59), ∀ v ∈ xs.flatMap enc59, v.oneCell' = true := fun xs v hv => by
  obtain ⟨x, _, hx⟩ := List.mem_flatMap.1 hv
  exact flat59.one x v hx
 have hcell : ∀ (W : World), W.heap[g]? = some (.cells cur 59 (0, 0)) → ∀ j v, ((l0.drop i).flatMap enc59)[j]? = some v → W.cell? ((⟨g, i * 2, none⟩ : Addr).add j) = some v := fun W hW j v hj => by
  rw [Addr.add_lit, blk_cell hW, ← Array.getElem?_toList]
  rw [hDe, ← ht, List.getElem?_drop, List.getElem?_take] at hj
  split at hj
  ·exact hj
  ·cases hj
 have hsome : ∀ j, j < c * 2 → (w.cell? ⟨g, j, none⟩).isSome = true := fun j hj => by
  rw [blk_cell hh]; simp; omega
 have hfz : ∀ j, w.frozen? ⟨g, j, none⟩ = false := fun j => blk_frozen hh j
 have hvcell : ∀ (W : World), W.heap[vb]? = some (.cells vcur 59 (0, 0)) → ∀ j v, (enc59 y)[j]? = some v → W.cell? ((⟨vb, 0, none⟩ : Addr).add j) = some v := fun W hW j v hj => by
  rw [Addr.add_lit, Nat.zero_add, blk_cell hW, ← Array.getElem?_toList]
  rw [← hvt, List.getElem?_take] at hj
  split at hj
  ·exact hj
  ·cases hj
 have hov : ∀ lb cb, (callFunc 176 #[.slice (some ⟨vb, 0, none⟩) 1 vc, .slice (some ⟨g, (i + 1) * 2, none⟩) lb cb]).run Try.prog w = .ok (.value (.bool false)) w := fun lb cb => by
  rw [run_callFunc_extern Try.func176 (by kernel_rfl) (by kernel_rfl) (by kernel_rfl) (e := Extern.SlicesOverlaps.overlaps #[47, 47] #[4]) (by kernel_rfl),
   Lib.run_overlaps_apart w 47 4 59 Try.underlying47 2 Try.sizeOf59 ⟨vb, 0, none⟩ ⟨g, (i + 1) * 2, none⟩ 1 vc lb cb hvb 59 59 vcur.size cur.size (by simp [World.shape?, hvh]) (by simp [World.shape?, hh]) (by omega) (blk_frozen hvh _) (blk_frozen hvh _)]
  rfl
 have hz1 : ¬ ((1 : Int) = 0) := by omega
 have hz2 : ¬ ((i : Int) = (n : Int)) := by omega
 have hw1 : IntKind.i64.wrap ((i : Int) + (1 : Int)) = (i : Int) + (1 : Int) := by rw [IntKind.wrap_i64]; omega
 have hw2 : IntKind.i64.wrap ((n : Int) + (1 : Int)) = (n : Int) + (1 : Int) := by rw [IntKind.wrap_i64]; omega
 have hb1 : (0 : Int) ≤ (i : Int) + (1 : Int) := by omega
 have hin : i ≤ n := by omega
 have htn : ((i : Int) + (1 : Int)).toNat = i + 1 := by omega
 have hb2 : ¬ (c = i + 1) := by omega
 have hb3 : (i : Int) ≤ (n : Int) + (1 : Int) := by omega
 have hb4 : ¬ (c = i) := by omega
 have hcp1 : ∀ ty dc sc, (Builtin.copy_ #[47, 47] ty #[.slice (some ⟨g, (i + 1) * 2, none⟩) (n - i) dc, .slice (some ⟨g, i * 2, none⟩) (n + 1 - i) sc]).run Try.prog w.drew = .ok (goInt ((n - i : Nat) : Int)) (w.drew.setCells g ((i + 1) * 2) ((l0.drop i).flatMap enc59)) := fun ty dc sc =>
  Flat.run_copy_k w.drew 47 47 ty 59 g ((i + 1) * 2) (n - i) dc ⟨g, i * 2, none⟩ (n + 1 - i) sc 2 (n - i) _ Try.underlying47 hsz (by simp only [Nat.min_def]; split <;> omega) hDl
   (hcell w.drew hh) (fun j hj => hsome _ (by omega)) (fun j hj => hfz _) (hone _)
 obtain ⟨W1, hW1⟩ : ∃ W1, W1 = w.drew.setCells g ((i + 1) * 2) ((l0.drop i).flatMap enc59) := ⟨_, rfl⟩
 obtain ⟨cur1, h1, s1, _⟩ := setCells_row ((l0.drop i).flatMap enc59) ((i + 1) * 2) w.drew cur hh (by rw [hDl]; omega)
 rw [← hW1] at h1
 have hv1 : W1.heap[vb]? = some (.cells vcur 59 (0, 0)) := by rw [hW1, setCells_far _ _ _ hvb]; exact hvh
 have hcp2 : ∀ (W : World), (∀ x, W.cell? x = W1.cell? x) → (∀ x, W.frozen? x = W1.frozen? x) → ∀ ty dc, (Builtin.copy_ #[47, 47] ty #[.slice (some ⟨g, i * 2, none⟩) (n + 1 - i) dc, .slice (some ⟨vb, 0, none⟩) 1 vc]).run Try.prog W = .ok (goInt ((1 : Nat) : Int)) (W.setCells g (i * 2) (enc59 y)) := fun W hWc hWf ty dc =>
  Flat.run_copy_k W 47 47 ty 59 g (i * 2) (n + 1 - i) dc ⟨vb, 0, none⟩ 1 vc 2 1 _ Try.underlying47 hsz (by simp only [Nat.min_def]; split <;> omega) hYl
   (fun j v hj => by rw [hWc]; exact hvcell W1 hv1 j v hj) (fun j hj => by rw [hWc, blk_cell h1]; rw [hYl] at hj; simp; omega) (fun j hj => by rw [hWf]; exact blk_frozen h1 _) (flat59.one y)
 have HI := Aside0.mk (Flat.ins_room flat59 hn (W := w.drew) hh hcs ht i (by omega) hroom y)
 have HW := Aside0.mk hW1
 have HH := Aside0.mk (And.intro hB (And.intro hbg (And.intro hok (And.intro hcm hn))))
 rw [← hW1] at hcp1
 clear hh hvh ht hvt hcell hvcell hsome hfz ho0 ho2 hone hDe h1 hv1 hW1 hsz hB
 go_enter Try.func107, Try.ntmps107
 go_wp2_with (simp only [hov])
 go_region_law_o (refine step_copy_runI rfl _ _ 47 47 rfl _ _ (by simp [Act.eval, Act.put]) (by simp [Act.eval, Act.put]) (hcp1 _ _ _) ?_)
 go_wp2_with (at_builtin; refine wpList_copy_runI _ rfl _ _ 47 47 rfl _ _ rfl rfl (hcp2 _ (fun _ => rfl) (fun _ => rfl) _ _) ?_)
 go_ret
 obtain ⟨cur2, h2, s2, t2⟩ := HI.out
 obtain ⟨hB, hbg, hok, hcm, hn⟩ := HH.out
 rw [HW.out]
 refine ⟨_, rfl, Flat.R_shut flat59 hbg (.inl (.inl hok)) (by simp [List.length_take, List.length_drop]; omega) hroom hcm h2 s2 t2, ?_, ?_⟩
 ·exact Flat.below_cells (Flat.below_cells hB.drew hbg _ _) hbg _ _
 ·exact Flat.kept_cells (Flat.kept_cells (Kept.drew (Kept.refl _ _)) (.inl (.inl hok)) _ _) (.inl (.inl hok)) _ _
set_option maxHeartbeats 8000000 in
set_option maxRecDepth 100000 in
theorem ins107_grow (g c i vb vc n : Nat) (l0 : List S59) (y : S59) (w0 w : World) (P0_ P2_ : Nat → Prop) (hn : l0.length = n) (hi : i < n) (hroom : c < n + 1) (hbig : (n + 1) * 24 ≤ 140737488355328) (hB : Below w0.heap.size w0 w) (ho0 : Kd.R k59 59 w w0.heap.size P0_ (.slice (some ⟨g, 0, none⟩) n c) l0) (ho2 : Kd.R k59 59 w w0.heap.size P2_ (.slice (some ⟨vb, 0, none⟩) 1 vc) [y]) :
  Calls Try.prog 107 #[.slice (some ⟨g, 0, none⟩) n c, .int .i64 i, .slice (some ⟨vb, 0, none⟩) 1 vc] w fun e w' => ∃ v0_ : Value, e = .returned v0_ ∧ Kd.R k59 59 w' w0.heap.size (fun k_ => ((P0_ k_ ∨ P2_ k_) ∨ w.heap.size ≤ k_)) v0_ (l0.take i ++ [y] ++ l0.drop i) ∧ Below w0.heap.size w0 w' ∧ Kept w w' (fun k_ => P0_ k_ ∨ P2_ k_) := by
 obtain ⟨hbg, hok, _, hnc, hcm, cur, hh, hcs, ht⟩ := Flat.R_open flat59 ho0
 obtain ⟨hbv, _, _, hvc, hvcm, vcur, hvh, hvcs, hvt⟩ := Flat.R_open flat59 ho2
 change cur.size = c * 2 at hcs
 change vcur.size = vc * 2 at hvcs
 change cur.toList.take (n * 2) = _ at ht
 change vcur.toList.take (1 * 2) = enc59 y ++ [] at hvt
 rw [List.append_nil] at hvt
 have hc63 : c ≤ 9223372036854775807 := by simp only [maxLen] at hcm; omega
 have mixed : Try.prog.follows .mixedOrders = true := by kernel_rfl
 obtain ⟨i0, hi0, hz0, hzs, hzb⟩ := info_parts info59
 have hsz : (Try.prog.info? 59).map (·.size) = some 2 := by rw [hi0]; simp [hzs]
 have hYl : (enc59 y).length = 2 := rfl
 have hDl : ((l0.drop i).flatMap enc59).length = (n - i) * 2 := by rw [Flat.flat_len flat59.len, List.length_drop, hn]; rfl
 have hDe := Flat.flat_drop (enc := enc59) (sz := 2) flat59.len l0 i (by omega)
 have hTe := Flat.flat_take (enc := enc59) (sz := 2) flat59.len l0 i (by omega)
 have hTl : ((l0.take i).flatMap enc59).length = i * 2 := by rw [Flat.flat_len flat59.len, List.length_take, hn, Nat.min_eq_left (by omega)]; rfl
 have hone : ∀ (xs : List S59), ∀ v ∈ xs.flatMap enc59, v.oneCell' = true := fun xs v hv => by
  obtain ⟨x, _, hx⟩ := List.mem_flatMap.1 hv
  exact flat59.one x v hx
 have hcell : ∀ (W : World), W.heap[g]? = some (.cells cur 59 (0, 0)) → ∀ j v, ((l0.drop i).flatMap enc59)[j]? = some v → W.cell? ((⟨g, i * 2, none⟩ : Addr).add j) = some v := fun W hW j v hj => by
  rw [Addr.add_lit, blk_cell hW, ← Array.getElem?_toList]
  rw [hDe, ← ht, List.getElem?_drop, List.getElem?_take] at hj
  split at hj
  ·exact hj
  ·cases hj
 have hcellT : ∀ j v, ((l0.take i).flatMap enc59)[j]? = some v → w.cell? ((⟨g, 0, none⟩ : Addr).add j) = some v := fun j v hj => by
  rw [Addr.add_lit, Nat.zero_add, blk_cell hh, ← Array.getElem?_toList]
  rw [hTe, ← ht, List.getElem?_take] at hj
  split at hj
  ·rw [List.getElem?_take] at hj
   split at hj
   ·exact hj
   ·cases hj
  ·cases hj
 have hvcell : ∀ (W : World), W.heap[vb]? = some (.cells vcur 59 (0, 0)) → ∀ j v, (enc59 y)[j]? = some v → W.cell? ((⟨vb, 0, none⟩ : Addr).add j) = some v := fun W hW j v hj => by
  rw [Addr.add_lit, Nat.zero_add, blk_cell hW, ← Array.getElem?_toList]
  rw [← hvt, List.getElem?_take] at hj
  split at hj
  ·exact hj
  ·cases hj
 have hbw : g < w.heap.size := blk_lt hh
 have hvw : vb < w.heap.size := blk_lt hvh
 have hkk : (n : Int) + (1 : Int) - (i : Int) = ((n + 1 - i : Nat) : Int) := by omega
 have hik : i + (n + 1 - i) = n + 1 := by omega
 have hold : (Builtin.firstCells i0.size i (.slice (some ⟨g, 0, none⟩) i c)).run Try.prog w.drew = .ok ((l0.take i).flatMap enc59).toArray w.drew := by
  rw [hzs]
  exact run_firstCells_some w.drew 2 i ⟨g, 0, none⟩ i c _ hTl (fun j v hj => hcellT j v hj)
 have hrz : ∀ ty, (Builtin.append_ #[47, 3] ty #[.slice (some ⟨g, 0, none⟩) i c, .int .i64 ((n : Int) + (1 : Int) - (i : Int))]).run Try.prog w =
   .ok (.slice (some ⟨w.heap.size, 0, none⟩) (n + 1) (grownCap w (n + 1) c 59)) (w.drew.alloc (.cells (((l0.take i).flatMap enc59).toArray ++ Builtin.zeroCells ((.agg #[(.int .i64 0), (.string ⟨#[]⟩)]) : Value).cells (n + 1 - i) ++ Builtin.zeroCells ((.agg #[(.int .i64 0), (.string ⟨#[]⟩)]) : Value).cells (grownCap w (n + 1) c 59 - (n + 1))) 59)) := fun ty => by
  have h := Lib.run_append_grow_zeros w 47 3 ty 59 i0 _ .i64 .i64 Try.underlying47 Try.underlying3 hi0 hz0 (some ⟨g, 0, none⟩) i c _ hold (n + 1 - i) (by omega) (by omega) (by omega) (by omega) (by rw [hzb]; omega) (by rw [hzb, hik]; exact growslice_fits hroom hbig)
  rw [hik] at h
  rw [hkk]
  exact h
 obtain ⟨G, hG⟩ : ∃ G, G = grownCap w (n + 1) c 59 := ⟨_, rfl⟩
 obtain ⟨ROW, hROW⟩ : ∃ ROW : Array Value, ROW = ((l0.take i).flatMap enc59).toArray ++ Builtin.zeroCells ((.agg #[(.int .i64 0), (.string ⟨#[]⟩)]) : Value).cells (n + 1 - i) ++ Builtin.zeroCells ((.agg #[(.int .i64 0), (.string ⟨#[]⟩)]) : Value).cells (G - (n + 1)) := ⟨_, rfl⟩
 rw [← hG] at hrz
 rw [← hROW] at hrz
 have hGn : n + 1 ≤ G := by rw [hG]; exact grownCap_ge w _ _ _
 have hGm : G ≤ maxLen := by rw [hG]; exact grownCap_le_maxLen w (n + 1) c 59 (by unfold maxLen; omega)
 have hG63 : G ≤ 9223372036854775807 := by unfold maxLen at hGm; omega
 have hRs : ROW.size = G * 2 := by
  rw [hROW]
  simp [Builtin.zeroCells, Value.cells, hTl]
  omega
 have hRt : ROW.toList.take (i * 2) = (l0.take i).flatMap enc59 := by
  rw [hROW]
  simp only [Array.toList_append, List.append_assoc]
  rw [List.take_left' (by rw [← hTl])]
 obtain ⟨W1, hW1⟩ : ∃ W1, W1 = w.drew.alloc (.cells ROW 59) := ⟨_, rfl⟩
 rw [← hW1] at hrz
 have hN : W1.heap[w.heap.size]? = some (.cells ROW 59 (0, 0)) := by rw [hW1]; exact heap_alloc_new w.drew _
 have hOg : W1.heap[g]? = some (.cells cur 59 (0, 0)) := by rw [hW1]; exact blk_alloc (w := w.drew) hh _
 have hOv : W1.heap[vb]? = some (.cells vcur 59 (0, 0)) := by rw [hW1]; exact blk_alloc (w := w.drew) hvh _
 have hcpA : ∀ (W : World), (∀ x, W.cell? x = W1.cell? x) → (∀ x, W.frozen? x = W1.frozen? x) → ∀ ty dc, (Builtin.copy_ #[47, 47] ty #[.slice (some ⟨w.heap.size, i * 2, none⟩) (n + 1 - i) dc, .slice (some ⟨vb, 0, none⟩) 1 vc]).run Try.prog W = .ok (goInt ((1 : Nat) : Int)) (W.setCells w.heap.size (i * 2) (enc59 y)) := fun W hWc hWf ty dc =>
  Flat.run_copy_k W 47 47 ty 59 w.heap.size (i * 2) (n + 1 - i) dc ⟨vb, 0, none⟩ 1 vc 2 1 _ Try.underlying47 hsz (by simp only [Nat.min_def]; split <;> omega) hYl
   (fun j v hj => by rw [hWc]; exact hvcell W1 hOv j v hj) (fun j hj => by rw [hWc, blk_cell hN]; rw [hYl] at hj; simp; omega) (fun j hj => by rw [hWf]; exact blk_frozen hN _) (flat59.one y)
 obtain ⟨cur1, h1, s1, _⟩ := setCells_row (enc59 y) (i * 2) W1 ROW hN (by rw [hYl]; omega)
 have hbN : g ≠ w.heap.size := by omega
 have hO1 : (W1.setCells w.heap.size (i * 2) (enc59 y)).heap[g]? = some (.cells cur 59 (0, 0)) := by rw [setCells_far _ _ _ hbN]; exact hOg
 have hcpB : ∀ (W : World), (∀ x, W.cell? x = (W1.setCells w.heap.size (i * 2) (enc59 y)).cell? x) → (∀ x, W.frozen? x = (W1.setCells w.heap.size (i * 2) (enc59 y)).frozen? x) → ∀ ty dc sc, (Builtin.copy_ #[47, 47] ty #[.slice (some ⟨w.heap.size, (i + 1) * 2, none⟩) (n - i) dc, .slice (some ⟨g, i * 2, none⟩) (n - i) sc]).run Try.prog W = .ok (goInt ((n - i : Nat) : Int)) (W.setCells w.heap.size ((i + 1) * 2) ((l0.drop i).flatMap enc59)) := fun W hWc hWf ty dc sc =>
  Flat.run_copy_k W 47 47 ty 59 w.heap.size ((i + 1) * 2) (n - i) dc ⟨g, i * 2, none⟩ (n - i) sc 2 (n - i) _ Try.underlying47 hsz (by simp only [Nat.min_def]; split <;> omega) hDl
   (fun j v hj => by rw [hWc]; exact hcell _ hO1 j v hj) (fun j hj => by rw [hWc, blk_cell h1]; rw [hDl] at hj; simp; omega) (fun j hj => by rw [hWf]; exact blk_frozen h1 _) (hone _)
 have HI := Aside0.mk (Flat.ins_grow flat59 hn (W := W1) hN hRs i (by omega) hRt hGn y)
 have hGi : ¬ (G = i) := by omega
 have hGim : ¬ (G = i + 1) := by omega
 have hci : ¬ (c = i) := by omega
 subst hW1
 have hE1 : ∀ x, ((w.alloc (.cells ROW 59)).drew).cell? x = (w.drew.alloc (.cells ROW 59)).cell? x := fun x => rfl
 have hE2 : ∀ x, ((w.alloc (.cells ROW 59)).drew).frozen? x = (w.drew.alloc (.cells ROW 59)).frozen? x := fun x => rfl
 have hF1 : ∀ x, (((w.alloc (.cells ROW 59)).drew.setCells w.heap.size (i * 2) (enc59 y)).drew).cell? x = ((w.drew.alloc (.cells ROW 59)).setCells w.heap.size (i * 2) (enc59 y)).cell? x := fun x => rfl
 have hF2 : ∀ x, (((w.alloc (.cells ROW 59)).drew.setCells w.heap.size (i * 2) (enc59 y)).drew).frozen? x = ((w.drew.alloc (.cells ROW 59)).setCells w.heap.size (i * 2) (enc59 y)).frozen? x := fun x => rfl
 have hz1 : ¬ ((1 : Int) = 0) := by omega
 have hz2 : ¬ ((i : Int) = (n : Int)) := by omega
 have hz3 : (c : Int) < (n : Int) + (1 : Int) := by omega
 have hw1 : IntKind.i64.wrap ((i : Int) + (1 : Int)) = (i : Int) + (1 : Int) := by rw [IntKind.wrap_i64]; omega
 have hw2 : IntKind.i64.wrap ((n : Int) + (1 : Int)) = (n : Int) + (1 : Int) := by rw [IntKind.wrap_i64]; omega
 have hb1 : (0 : Int) ≤ (i : Int) + (1 : Int) := by omega
 have hin : i ≤ n := by omega
 have htn : ((i : Int) + (1 : Int)).toNat = i + 1 := by omega
 have hb3 : (i : Int) ≤ (n : Int) := by omega
 have HH := Aside0.mk (And.intro hB (And.intro hGm hn))
 clear hkk hik hold hROW hG hRt hRs hN hOg hOv h1 hO1 s1 hcell hcellT hvcell hone hDe hTe hTl hh hvh ht hvt hsz ho0 ho2 hB
 go_enter Try.func107, Try.ntmps107
 go_wp2_with (first
  | (at_builtin; refine Lib.wpList_append_run _ rfl _ _ _ _ rfl _ _ rfl rfl _ _ (hrz _) ?_)
  | (at_builtin; refine wpList_copy_runI _ rfl _ _ 47 47 rfl _ _ rfl rfl (hcpA _ hE1 hE2 _ _) ?_)
  | (at_builtin; refine wpList_copy_runI _ rfl _ _ 47 47 rfl _ _ rfl rfl (hcpB _ (fun _ => rfl) (fun _ => rfl) _ _ _) ?_))
 go_region_law_o (refine step_copy_runI rfl _ _ 47 47 rfl (.slice (some ⟨w.heap.size, (i + 1) * 2, none⟩) (n - i) (G - (i + 1))) (.slice (some ⟨g, i * 2, none⟩) (n - i) (c - i)) (by simp [Act.eval, Act.put]) (by simp [Act.eval, Act.put]) (hcpB _ hF1 hF2 3 (G - (i + 1)) (c - i)) ?_)
 go_wp2
 go_ret
 obtain ⟨cur2, h2, s2, t2⟩ := HI.out
 obtain ⟨hB, hGm, hn⟩ := HH.out
 have hE : ((w.alloc (.cells ROW 59)).drew.setCells w.heap.size (i * 2) (enc59 y)).drew.setCells w.heap.size ((i + 1) * 2) ((l0.drop i).flatMap enc59) = (((w.drew.alloc (.cells ROW 59)).setCells w.heap.size (i * 2) (enc59 y)).setCells w.heap.size ((i + 1) * 2) ((l0.drop i).flatMap enc59)).drew := (drew_setCells _ _ _ _).symm
 rw [hE]
 refine ⟨_, rfl, Kd.R_drew (Flat.R_shut flat59 hB.size (.inr (Nat.le_refl _)) (by simp [List.length_take, List.length_drop]; omega) (by omega) hGm h2 s2 t2), ?_, ?_⟩
 ·exact (Flat.below_cells (Flat.below_cells (hB.drew.alloc hB.size _) hB.size _ _) hB.size _ _).drew
 ·exact Kept.drew (Flat.kept_cells (Flat.kept_cells (Kept.alloc (Kept.drew (Kept.refl _ _)) _) (.inr (Nat.le_refl _)) _ _) (.inr (Nat.le_refl _)) _ _)
theorem ins107 (P0_ : Nat → Prop) (u9000_ : Value) (l0 : List S59) (i : Nat) (P2_ : Nat → Prop) (u9001_ : Value) (y : S59) (w0 w : World) (hB : Below w0.heap.size w0 w) (ho0 : Kd.R k59 59 w w0.heap.size P0_ u9000_ l0) (hp0_2 : ∀ k_, P0_ k_ → ¬ P2_ k_) (ho2 : Kd.R k59 59 w w0.heap.size P2_ u9001_ [y]) (hi : i ≤ l0.length) (hbig : (l0.length + 1) * 24 ≤ 140737488355328) :
  Calls Try.prog 107 #[u9000_, .int .i64 i, u9001_] w fun e w' => ∃ v0_ : Value, e = .returned v0_ ∧ Kd.R k59 59 w' w0.heap.size (fun k_ => ((P0_ k_ ∨ P2_ k_) ∨ w.heap.size ≤ k_)) v0_ (l0.take i ++ [y] ++ l0.drop i) ∧ Below w0.heap.size w0 w' ∧ Kept w w' (fun k_ => P0_ k_ ∨ P2_ k_) := by
 obtain ⟨vb, vc, hv, _, _, _⟩ := Kd.R_form ho2 (by simp)
 have hv2 : u9001_ = .slice (some ⟨vb, 0, none⟩) 1 vc := hv
 subst hv2
 by_cases hin : i = l0.length
 ·subst hin
  rw [List.take_length, List.drop_length, List.append_nil]
  exact ins107_end P0_ u9000_ l0 P2_ vb vc y w0 w hB ho0 ho2 hbig
 ·rcases Flat.R_form0 ho0 with ⟨_, hn⟩ | ⟨g, c, rfl, hnc, hcm⟩
  ·omega
  by_cases hroom : l0.length + 1 ≤ c
  ·exact ins107_room g c i vb vc l0.length l0 y w0 w P0_ P2_ rfl (by omega) hroom (fun e => hp0_2 g (ho0.1 g rfl) (e ▸ ho2.1 vb rfl)) hB ho0 ho2
  ·exact ins107_grow g c i vb vc l0.length l0 y w0 w P0_ P2_ rfl (by omega) (by omega) hbig hB ho0 ho2
def slices_Insert_Entry.f (l0 : List S59) (a1 : Int) (l2 : List S59) : Option (List S59) := if (0 ≤ a1 ∧ a1 ≤ (l0.length : Int)) ∧ l2.length = 1 ∧ (l0.length + 1) * 24 ≤ 140737488355328 then some (l0.take a1.toNat ++ l2 ++ l0.drop a1.toNat) else none
theorem slices_Insert_Entry.calls (P0_ : Nat → Prop) (u9000_ : Value) (l0 : List S59) (a1 : Int) (P2_ : Nat → Prop) (u9001_ : Value) (l2 : List S59) (r : List S59) (w0 w : World) (hB : Below w0.heap.size w0 w) (ho0 : Kd.R k59 59 w w0.heap.size P0_ u9000_ l0) (hp0_2 : ∀ k_, P0_ k_ → ¬ P2_ k_) (ho2 : Kd.R k59 59 w w0.heap.size P2_ u9001_ l2) (hp2_0 : ∀ k_, P2_ k_ → ¬ P0_ k_) (h : slices_Insert_Entry.f l0 a1 l2 = some r) :
  Calls Try.prog 107 #[u9000_, .int .i64 a1, u9001_] w fun e w' => ∃ v0_ : Value, e = .returned v0_ ∧ Kd.R k59 59 w' w0.heap.size (fun k_ => ((P0_ k_ ∨ P2_ k_) ∨ w.heap.size ≤ k_)) v0_ r ∧ Below w0.heap.size w0 w' ∧ Kept w w' (fun k_ => P0_ k_ ∨ P2_ k_) := by
 unfold slices_Insert_Entry.f at h
 split at h
 case isFalse => cases h
 case isTrue hc =>
 obtain ⟨⟨h0, h1⟩, h2, h3⟩ := hc
 obtain rfl := Option.some.inj h
 obtain ⟨y, rfl⟩ := List.length_eq_one_iff.1 h2
 obtain ⟨c, rfl⟩ := Int.eq_ofNat_of_zero_le h0
 exact ins107 P0_ u9000_ l0 c P2_ u9001_ y w0 w hB ho0 hp0_2 ho2 (by omega) h3

/-! ### impl_WithEntry: function 36 -/
def impl_WithEntry.f (a0_0 : Int) (a0_1 : Int) (a0_2 : Int) (a0_3 : ByteArray) (l0_4 : List (S170)) (l0_5 : List (S59)) (a1_0 : Int) (a1_1 : ByteArray) : Option (Int × Int × Int × ByteArray × (List (S170)) × (List (S59))) := (impl_WithoutEntry.f a0_0 a0_1 a0_2 a0_3 l0_4 l0_5 a1_1).bind fun bt255 => ((slices_IndexFunc_Entry_g106.f bt255.2.2.2.2.2 a1_0 a1_1).bind fun t266 => (if t266 < 0 then ((slices_Insert_Entry.f bt255.2.2.2.2.2 (bt255.2.2.2.2.2.length : Int) (([(⟨a1_0, a1_1⟩ : S59)] : List (S59)))).bind fun t270 => (some (bt255.1, bt255.2.1, bt255.2.2.1, bt255.2.2.2.1, bt255.2.2.2.2.1, t270))) else ((slices_Insert_Entry.f bt255.2.2.2.2.2 t266 (([(⟨a1_0, a1_1⟩ : S59)] : List (S59)))).bind fun t276 => (some (bt255.1, bt255.2.1, bt255.2.2.1, bt255.2.2.2.1, bt255.2.2.2.2.1, t276)))))
set_option maxHeartbeats 8000000 in
set_option maxRecDepth 100000 in
theorem impl_WithEntry.calls (a0_0 : Int) (a0_1 : Int) (a0_2 : Int) (a0_3 : ByteArray) (A0_4 : Option Addr) (c0_4 : Nat) (l0_4 : List (S170)) (A0_5 : Option Addr) (c0_5 : Nat) (l0_5 : List (S59)) (a1_0 : Int) (a1_1 : ByteArray) (r1 : Int) (r2 : Int) (r3 : Int) (r4 : ByteArray) (r5 : List (S170)) (r6 : List (S59)) (w : World) (hr0_4 : Kd.C k170 w A0_4 l0_4.length l0_4) (hc0_4 : l0_4.length ≤ c0_4) (hr0_5 : Kd.C k59 w A0_5 l0_5.length l0_5) (hc0_5 : l0_5.length ≤ c0_5) (h : impl_WithEntry.f a0_0 a0_1 a0_2 a0_3 l0_4 l0_5 a1_0 a1_1 = some (r1, r2, r3, r4, r5, r6)) :
  Calls Try.prog 36 #[.agg #[.int .i64 a0_0, .int .i64 a0_1, .int .i64 a0_2, .string a0_3, .slice A0_4 l0_4.length c0_4, .slice A0_5 l0_5.length c0_5], .agg #[.int .i64 a1_0, .string a1_1]] w fun e w' => ∃ v4_ v5_ : Value, e = .returned (.agg #[.int .i64 r1, .int .i64 r2, .int .i64 r3, .string r4, v4_, v5_]) ∧ Kd.R k170 170 w' w.heap.size (fun _ => True) v4_ r5 ∧ Kd.R k59 59 w' w.heap.size (fun _ => True) v5_ r6 ∧ Below w.heap.size w w' := by
 have hu49 := Try.underlying49
 have hu59 := Try.underlying59
 have HR0_4 := Aside0.mk hr0_4
 have HC0_4 := Aside0.mk hc0_4
 clear hr0_4 hc0_4
 have HR0_5 := Aside0.mk hr0_5
 have HC0_5 := Aside0.mk hc0_5
 clear hr0_5 hc0_5
 have HB := Aside0.mk (Below.refl w.heap.size w)
 have H : ((impl_WithoutEntry.f a0_0 a0_1 a0_2 a0_3 l0_4 l0_5 a1_1).bind fun bt255 => ((slices_IndexFunc_Entry_g106.f bt255.2.2.2.2.2 a1_0 a1_1).bind fun t266 => (if t266 < 0 then ((slices_Insert_Entry.f bt255.2.2.2.2.2 (bt255.2.2.2.2.2.length : Int) (([(⟨a1_0, a1_1⟩ : S59)] : List (S59)))).bind fun t270 => (some (bt255.1, bt255.2.1, bt255.2.2.1, bt255.2.2.2.1, bt255.2.2.2.2.1, t270))) else ((slices_Insert_Entry.f bt255.2.2.2.2.2 t266 (([(⟨a1_0, a1_1⟩ : S59)] : List (S59)))).bind fun t276 => (some (bt255.1, bt255.2.1, bt255.2.2.1, bt255.2.2.2.1, bt255.2.2.2.2.1, t276)))))) = some (r1, r2, r3, r4, r5, r6) := h
 clear h
 replace H := Option.bind_eq_some_iff.mp H
 obtain ⟨⟨t255, t256, t257, t258, t259, t262⟩, A30, H⟩ := H
 replace H : ((slices_IndexFunc_Entry_g106.f t262 a1_0 a1_1).bind fun t266 => (if t266 < 0 then ((slices_Insert_Entry.f t262 (t262.length : Int) (([(⟨a1_0, a1_1⟩ : S59)] : List (S59)))).bind fun t270 => (some (t255, t256, t257, t258, t259, t270))) else ((slices_Insert_Entry.f t262 t266 (([(⟨a1_0, a1_1⟩ : S59)] : List (S59)))).bind fun t276 => (some (t255, t256, t257, t258, t259, t276))))) = some (r1, r2, r3, r4, r5, r6) := H
 have A3 := Aside0.mk A30
 clear A30
 replace H := Option.bind_eq_some_iff.mp H
 obtain ⟨t266, A40, H⟩ := H
 replace H : (if t266 < 0 then ((slices_Insert_Entry.f t262 (t262.length : Int) (([(⟨a1_0, a1_1⟩ : S59)] : List (S59)))).bind fun t270 => (some (t255, t256, t257, t258, t259, t270))) else ((slices_Insert_Entry.f t262 t266 (([(⟨a1_0, a1_1⟩ : S59)] : List (S59)))).bind fun t276 => (some (t255, t256, t257, t258, t259, t276)))) = some (r1, r2, r3, r4, r5, r6) := H
 have A4 := Aside0.mk A40
 clear A40
 by_cases c5 : t266 < 0
 ·rw [if_pos c5] at H
  have c5b0 : decide (t266 < 0) = true := decide_eq_true c5
  clear c5
  obtain ⟨y267, hy267⟩ : ∃ y_ : List (S59), y_ = (([(⟨a1_0, a1_1⟩ : S59)] : List (S59))) := ⟨_, rfl⟩
  replace H : ((slices_Insert_Entry.f t262 (t262.length : Int) y267).bind fun t270 => (some (t255, t256, t257, t258, t259, t270))) = some (r1, r2, r3, r4, r5, r6) := by first | (rw [hy267]; with_reducible exact H) | (have H2_ := (Option.bind_some _ _).symm.trans H; rw [hy267]; with_reducible exact H2_) | (have H2_ := (Option.bind_some _ _).symm.trans H; with_reducible exact H2_) | with_reducible exact H | (rw [hy267]; exact H) | exact H
  have Ny267 := Aside0.mk hy267
  clear hy267
  replace H := Option.bind_eq_some_iff.mp H
  obtain ⟨t270, A60, H⟩ := H
  replace H : (some (t255, t256, t257, t258, t259, t270)) = some (r1, r2, r3, r4, r5, r6) := H
  have A6 := Aside0.mk A60
  clear A60
  simp only [Option.some.injEq, Prod.mk.injEq] at H
  obtain ⟨rfl, rfl, rfl, rfl, rfl, rfl⟩ := H
  go_enter Try.func36, Try.ntmps36
  go_wp2_with (first | ((with_reducible refine gate_dst (N := 2) rfl ?_); refine box_event ?hg (N := 2) ?hd (cs := #[.int .i64 a0_0, .int .i64 a0_1, .int .i64 a0_2, .string a0_3, .slice A0_4 l0_4.length c0_4, .slice A0_5 l0_5.length c0_5]) (t := 49) ?hr ?_; (case hd => rfl); (case hg => rfl); (case hr => first | (go_simp; done) | (go_simp; rfl)); intro gb252 hg w7 hbox hb; have z_ := p_ (below_step tq_0 hb) <| p_ (hbox) <| p_ (gb_ hg tq_0) <| a_ (gb_ hg tq_0); clear HB; obtain ⟨HB, BK252, GW252, GE252⟩ := z_; clear hb hbox hg) | ((with_reducible refine gate_dst (N := 3) rfl ?_); refine box_event ?hg (N := 3) ?hd (cs := #[.int .i64 a1_0, .string a1_1]) (t := 59) ?hr ?_; (case hd => rfl); (case hg => rfl); (case hr => first | (go_simp; done) | (go_simp; rfl)); intro gb253 hg w8 hbox hb; have z_ := p_ (blk_below tq_26 hb) <| p_ (below_step tq_69 hb) <| p_ (hbox) <| p_ (gb_ hg tq_69) <| p_ (gb_ hg tq_69) <| p_ (ltne_ hg (blk_lt tq_26)) <| a_ (gtne_ hg (blk_lt tq_26)); clear BK252 HB; obtain ⟨BK252, HB, BK253, GW253, GE253, NB252_253, NB253_252⟩ := z_; clear hb hbox hg) | ((with_reducible refine gate_dst (N := 4) rfl ?_); refine box_event ?hg (N := 4) ?hd (cs := #[.int .i64 0, .int .i64 0, .int .i64 0, .string (⟨#[]⟩ : ByteArray), .slice none 0 0, .slice none 0 0]) (t := 49) ?hr ?_; (case hd => rfl); (case hg => rfl); (case hr => first | (go_simp; done) | (go_simp; rfl)); intro gb254 hg w9 hbox hb; have z_ := p_ (blk_below tq_26 hb) <| p_ (blk_below tq_25 hb) <| p_ (below_step tq_60 hb) <| p_ (hbox) <| p_ (gb_ hg tq_60) <| p_ (gb_ hg tq_60) <| p_ (ltne_ hg (blk_lt tq_26)) <| p_ (gtne_ hg (blk_lt tq_26)) <| p_ (ltne_ hg (blk_lt tq_25)) <| a_ (gtne_ hg (blk_lt tq_25)); clear BK252 BK253 HB; obtain ⟨BK252, BK253, HB, BK254, GW254, GE254, NB252_254, NB254_252, NB253_254, NB254_253⟩ := z_; clear hb hbox hg; have hnb10 := NB252_253.out; have hnc10 := NB253_252.out; have hnb11 := NB252_254.out; have hnc11 := NB254_252.out; have hcz12_0 := bc_ BK252.out 0; have hcz12_1 := bc_ BK252.out 1; have hcz12_2 := bc_ BK252.out 2; have hcz12_3 := bc_ BK252.out 3; have hcz12_4 := bc_ BK252.out 4; have hcz12_5 := bc_ BK252.out 5; have hfz12_0 := blk_frozen BK252.out 0; have hfz12_1 := blk_frozen BK252.out 1; have hfz12_2 := blk_frozen BK252.out 2; have hfz12_3 := blk_frozen BK252.out 3; have hfz12_4 := blk_frozen BK252.out 4; have hfz12_5 := blk_frozen BK252.out 5; have hnb13 := NB253_254.out; have hnc13 := NB254_253.out; have hcz14_0 := bc_ BK253.out 0; have hcz14_1 := bc_ BK253.out 1; have hfz14_0 := blk_frozen BK253.out 0; have hfz14_1 := blk_frozen BK253.out 1) | ((with_reducible refine gate_callee (f := 29) rfl ?_); refine goesL_ (some 10) rfl rfl Try.func29 (by kernel_rfl) rfl #[.agg #[.int .i64 a0_0, .int .i64 a0_1, .int .i64 a0_2, .string a0_3, .slice A0_4 l0_4.length c0_4, .slice A0_5 l0_5.length c0_5], .string a1_1] rfl tq_2 ?_; (with_reducible refine (impl_WithoutEntry.calls a0_0 a0_1 a0_2 a0_3 _ _ l0_4 _ _ l0_5 a1_1 t255 t256 t257 t258 t259 t262 _ ?side1 ?side2 ?side3 ?side4 A3.out).mono ?_); (case side1 => exact tq_15); (case side2 => exact HC0_4.out); (case side3 => exact tq_24); (case side4 => exact HC0_5.out); rintro e w15 ⟨v260, v263, rfl, ho0, ho1, hb⟩; refine ⟨_, rfl, ?_⟩; have z_ := p_ (Kd.R_lower ho0 (below_size tq_29)) <| p_ (Kd.R_lower (Kd.R_newB ho1 (g := gb253) (o := .cells #[.int .i64 a1_0, .string a1_1] 59 (0, 0)) tq_25) (below_size tq_29)) <| p_ (blk_below tq_26 hb) <| p_ (blk_below tq_25 hb) <| p_ (blk_below tq_45 hb) <| a_ (below_step tq_29 hb); clear BK252 BK253 BK254 HB; obtain ⟨HO261, HO264, BK252, BK253, BK254, HB⟩ := z_; (try clear hb); (try clear hb2); (try clear hk); (try clear hi); (try clear ho0); (try clear ho1)) | ((with_reducible refine gate_dst (N := 5) rfl ?_); refine box_event ?hg (N := 5) ?hd (cs := #[.int .i64 0, .int .i64 0, .int .i64 0, .string (⟨#[]⟩ : ByteArray), .slice none 0 0, .slice none 0 0]) (t := 49) ?hr ?_; (case hd => rfl); (case hg => rfl); (case hr => first | (go_simp; done) | (go_simp; rfl)); intro gb265 hg w16 hbox hb; have z_ := p_ (Kd.R_below tq_142 hb) <| p_ (Kd.R_below tq_96 hb) <| p_ (blk_below tq_26 hb) <| p_ (blk_below tq_25 hb) <| p_ (blk_below tq_45 hb) <| p_ (below_step tq_29 hb) <| p_ (hbox) <| p_ (gb_ hg tq_29) <| p_ (gb_ hg tq_29) <| p_ (ltne_ hg (blk_lt tq_26)) <| p_ (gtne_ hg (blk_lt tq_26)) <| p_ (ltne_ hg (blk_lt tq_25)) <| p_ (gtne_ hg (blk_lt tq_25)) <| p_ (ltne_ hg (blk_lt tq_45)) <| a_ (gtne_ hg (blk_lt tq_45)); clear HO261 HO264 BK252 BK253 BK254 HB; obtain ⟨HO261, HO264, BK252, BK253, BK254, HB, BK265, GW265, GE265, NB252_265, NB265_252, NB253_265, NB265_253, NB254_265, NB265_254⟩ := z_; clear hb hbox hg; have hnb17 := NB265_252.out; have hnc17 := NB252_265.out; have hnb18 := NB265_253.out; have hnc18 := NB253_265.out; have hnb19 := NB265_254.out; have hnc19 := NB254_265.out; have hcz20_0 := bc_ BK265.out 0; have hcz20_1 := bc_ BK265.out 1; have hcz20_2 := bc_ BK265.out 2; have hcz20_3 := bc_ BK265.out 3; have hcz20_4 := bc_ BK265.out 4; have hcz20_5 := bc_ BK265.out 5; have hfz20_0 := blk_frozen BK265.out 0; have hfz20_1 := blk_frozen BK265.out 1; have hfz20_2 := blk_frozen BK265.out 2; have hfz20_3 := blk_frozen BK265.out 3; have hfz20_4 := blk_frozen BK265.out 4; have hfz20_5 := blk_frozen BK265.out 5; obtain ⟨Ao21, co21, eo21⟩ := Kd.R_slice HO261.out; subst eo21; obtain ⟨Ao22, co22, eo22⟩ := Kd.R_slice HO264.out; subst eo22) | ((with_reducible refine gate_callee (f := 105) rfl ?_); refine goesL_ (some 14) rfl rfl Try.func105 (by kernel_rfl) rfl #[.slice Ao22 t262.length co22, .func (.func 106) #[] #[.pointer (some ⟨gb253, 0, none⟩)]] rfl tq_2 ?_; (with_reducible refine (slices_IndexFunc_Entry_g106.calls _ _ t262 gb253 a1_0 a1_1 t266 _ ?side1 ?side2 ?side3 A4.out).mono ?_); (case side1 => refine (Kd.R_reads' (e := 59) (base := w.heap.size) (ok := fun k_ => (True ∧ k_ ≠ gb253)) (n := t262.length) (c := co22) ?_).2.2; exact tq_89); (case side2 => exact (Kd.R_reads' HO264.out).2.1); (case side3 => (with_reducible repeat (first | refine blk_drewN ?_ _ | refine blk_drew ?_ | refine blk_alloc ?_ _)); refine blk_far ?_ NB253_265.out _; (with_reducible repeat (first | refine blk_drewN ?_ _ | refine blk_drew ?_ | refine blk_alloc ?_ _)); refine blk_far ?_ NB253_265.out _; (with_reducible repeat (first | refine blk_drewN ?_ _ | refine blk_drew ?_ | refine blk_alloc ?_ _)); refine blk_far ?_ NB253_265.out _; (with_reducible repeat (first | refine blk_drewN ?_ _ | refine blk_drew ?_ | refine blk_alloc ?_ _)); refine blk_far ?_ NB253_265.out _; (with_reducible repeat (first | refine blk_drewN ?_ _ | refine blk_drew ?_ | refine blk_alloc ?_ _)); refine blk_far ?_ NB253_265.out _; (with_reducible repeat (first | refine blk_drewN ?_ _ | refine blk_drew ?_ | refine blk_alloc ?_ _)); refine blk_far ?_ NB253_265.out _; (with_reducible repeat (first | refine blk_drewN ?_ _ | refine blk_drew ?_ | refine blk_alloc ?_ _)); exact BK253.out); rintro e w23 ⟨rfl, hb⟩; refine ⟨_, rfl, ?_⟩; have z_ := p_ (Kd.R_below (by (with_reducible repeat (first | apply Kd.R_alloc | apply Kd.R_drewN | apply Kd.R_drew)); exact (Kd.R_mono (Kd.R_far (p := ⟨gb265, 5, none⟩) (Kd.R_far (p := ⟨gb265, 4, none⟩) (Kd.R_far (p := ⟨gb265, 3, none⟩) (Kd.R_far (p := ⟨gb265, 2, none⟩) (Kd.R_far (p := ⟨gb265, 1, none⟩) (Kd.R_far (p := ⟨gb265, 0, none⟩) (Kd.R_types HO261.out BK265.out (by decide)) (fun _ hk => hk.2) (.int .i64 t255)) (fun _ hk => hk.2) (.int .i64 t256)) (fun _ hk => hk.2) (.int .i64 t257)) (fun _ hk => hk.2) (.string t258)) (fun _ hk => hk.2) (.slice Ao21 t259.length co21)) (fun _ hk => hk.2) (.slice Ao22 t262.length co22)) (fun _ h_ => h_.1))) hb) <| p_ (Kd.R_below tq_89 hb) <| p_ (blk_below (g := gb252) (o := .cells #[.int .i64 a0_0, .int .i64 a0_1, .int .i64 a0_2, .string a0_3, .slice A0_4 l0_4.length c0_4, .slice A0_5 l0_5.length c0_5] 49 (0, 0)) tq_63 hb) <| p_ (blk_below (g := gb253) (o := .cells #[.int .i64 a1_0, .string a1_1] 59 (0, 0)) tq_62 hb) <| p_ (blk_below (g := gb254) (o := .cells #[.int .i64 0, .int .i64 0, .int .i64 0, .string (⟨#[]⟩ : ByteArray), .slice none 0 0, .slice none 0 0] 49 (0, 0)) tq_61 hb) <| p_ (blk_below (g := gb265) (o := .cells #[.int .i64 t255, .int .i64 t256, .int .i64 t257, .string t258, .slice Ao21 t259.length co21, .slice Ao22 t262.length co22] 49 (0, 0)) (by (with_reducible repeat (first | refine blk_drewN ?_ _ | refine blk_drew ?_ | refine blk_alloc ?_ _)); refine blk_put (cs := #[.int .i64 t255, .int .i64 t256, .int .i64 t257, .string t258, .slice Ao21 t259.length co21, .slice none 0 0]) ?_ 5 _ rfl; (with_reducible repeat (first | refine blk_drewN ?_ _ | refine blk_drew ?_ | refine blk_alloc ?_ _)); refine blk_put (cs := #[.int .i64 t255, .int .i64 t256, .int .i64 t257, .string t258, .slice none 0 0, .slice none 0 0]) ?_ 4 _ rfl; (with_reducible repeat (first | refine blk_drewN ?_ _ | refine blk_drew ?_ | refine blk_alloc ?_ _)); refine blk_put (cs := #[.int .i64 t255, .int .i64 t256, .int .i64 t257, .string (⟨#[]⟩ : ByteArray), .slice none 0 0, .slice none 0 0]) ?_ 3 _ rfl; (with_reducible repeat (first | refine blk_drewN ?_ _ | refine blk_drew ?_ | refine blk_alloc ?_ _)); refine blk_put (cs := #[.int .i64 t255, .int .i64 t256, .int .i64 0, .string (⟨#[]⟩ : ByteArray), .slice none 0 0, .slice none 0 0]) ?_ 2 _ rfl; (with_reducible repeat (first | refine blk_drewN ?_ _ | refine blk_drew ?_ | refine blk_alloc ?_ _)); refine blk_put (cs := #[.int .i64 t255, .int .i64 0, .int .i64 0, .string (⟨#[]⟩ : ByteArray), .slice none 0 0, .slice none 0 0]) ?_ 1 _ rfl; (with_reducible repeat (first | refine blk_drewN ?_ _ | refine blk_drew ?_ | refine blk_alloc ?_ _)); refine blk_put (cs := #[.int .i64 0, .int .i64 0, .int .i64 0, .string (⟨#[]⟩ : ByteArray), .slice none 0 0, .slice none 0 0]) ?_ 0 _ rfl; (with_reducible repeat (first | refine blk_drewN ?_ _ | refine blk_drew ?_ | refine blk_alloc ?_ _)); exact BK265.out) hb) <| a_ (below_step tq_34 hb); clear HO261 HO264 BK252 BK253 BK254 BK265 HB; obtain ⟨HO261, HO264, BK252, BK253, BK254, BK265, HB⟩ := z_; (try clear hb); (try clear hb2); (try clear hk); (try clear hi); have hcz24_0 := bc_ BK265.out 0; have hcz24_1 := bc_ BK265.out 1; have hcz24_2 := bc_ BK265.out 2; have hcz24_3 := bc_ BK265.out 3; have hcz24_4 := bc_ BK265.out 4; have hcz24_5 := bc_ BK265.out 5; have hfz24_0 := blk_frozen BK265.out 0; have hfz24_1 := blk_frozen BK265.out 1; have hfz24_2 := blk_frozen BK265.out 2; have hfz24_3 := blk_frozen BK265.out 3; have hfz24_4 := blk_frozen BK265.out 4; have hfz24_5 := blk_frozen BK265.out 5; have hcz25_0 := bc_ BK253.out 0; have hcz25_1 := bc_ BK253.out 1; have hfz25_0 := blk_frozen BK253.out 0; have hfz25_1 := blk_frozen BK253.out 1) | ((with_reducible refine gate_dst (N := 24) rfl ?_); refine Kd.R_lit k59 _ 59 ?hg (N := 24) ?hd (xs := ([(⟨a1_0, a1_1⟩ : S59)] : List (S59))) (inner := [.int .i64 a1_0, .string a1_1]) (ok := fun _ => True) (okp := fun _ => True) ?hr ?hp (fun _ hk => hk) trivial (Below.refl _ _) (Nat.le_refl _) (by simp) ?_; (case hd => rfl); (case hg => rfl); (case hr => first | (go_simp; done) | (go_simp; rfl)); (case hp => exact tq_181); intro v268 w26 ho27 hb hg_ hnew_; clear hg_ hnew_; (first | rw [← Ny267.out] at ho27 | (simp only [Int.reduceToNat] at ho27; rw [← Ny267.out] at ho27)); have z_ := p_ (Kd.R_below tq_142 hb) <| p_ (Kd.R_elder' tq_96 (Kd.R_base ho27) hb) <| p_ (Kd.R_lower (Kd.R_newB (Kd.R_new' ho27 (Kd.R_lt tq_96)) (g := gb253) (o := .cells #[.int .i64 a1_0, .string a1_1] 59 (0, 0)) tq_25) (below_size tq_34)) <| p_ (blk_below tq_26 hb) <| p_ (blk_below tq_25 hb) <| p_ (blk_below tq_45 hb) <| p_ (blk_below tq_127 hb) <| a_ (below_step tq_34 hb); clear HO261 HO264 BK252 BK253 BK254 BK265 HB; obtain ⟨HO261, HO264, HO269, BK252, BK253, BK254, BK265, HB⟩ := z_; clear hb ho27; obtain ⟨Ao28, co28, eo28⟩ := Kd.R_slice HO269.out; subst eo28) | ((with_reducible refine gate_callee (f := 107) rfl ?_); refine goesL_ (some 25) rfl rfl Try.func107 (by kernel_rfl) rfl #[.slice Ao22 t262.length co22, .int .i64 (t262.length : Int), .slice Ao28 y267.length co28] rfl tq_2 ?_; (with_reducible refine (slices_Insert_Entry.calls (fun k_ => some k_ = (.slice Ao22 t262.length co22 : Value).ownBlock) (.slice Ao22 t262.length co22) t262 (t262.length : Int) (fun k_ => some k_ = (.slice Ao28 y267.length co28 : Value).ownBlock) (.slice Ao28 y267.length co28) y267 t270 w _ ?side1 ?side2 ?side3 ?side4 ?side5 A6.out).mono ?_); (case side1 => exact tq_151); (case side2 => exact Kd.R_tight rfl HO264.out); (case side3 => exact fun k_ e_ => (HO264.out.1 k_ e_.symm).2); (case side4 => exact Kd.R_tight rfl HO269.out); (case side5 => exact fun k_ e_ => (HO269.out.1 k_ e_.symm).1.2); rintro e w29 ⟨v271, rfl, ho0, hb, hkp⟩; refine ⟨_, rfl, ?_⟩; have z_ := p_ (blk_kept tq_26 hkp (fun hs_ => Or.elim hs_ (fun e_ => (fun e_ => (Kd.R_ne HO264.out BK252.out (by decide)) e_) e_) (fun e_ => (fun e_ => (Kd.R_ne HO269.out BK252.out (by decide)) e_) e_))) <| p_ (blk_kept tq_25 hkp (fun hs_ => Or.elim hs_ (fun e_ => (fun e_ => (Kd.R_away HO264.out (fun _ hk => hk.1.2)) e_) e_) (fun e_ => (fun e_ => (Kd.R_away HO269.out (fun _ hk => hk.2)) e_) e_))) <| p_ (blk_kept tq_45 hkp (fun hs_ => Or.elim hs_ (fun e_ => (fun e_ => (Kd.R_ne HO264.out BK254.out (by decide)) e_) e_) (fun e_ => (fun e_ => (Kd.R_ne HO269.out BK254.out (by decide)) e_) e_))) <| p_ (Kd.R_mono (ok' := fun k_ => True) (Kd.R_keptB ((Kd.R_apart' (Kd.R_apart' HO261.out (Kd.R_typed HO264.out) (by decide)) (Kd.R_typed HO269.out) (by decide))) hkp (fun k_ hk_ hs_ => Or.elim hs_ (fun e_ => (hk_.1.2) e_) (fun e_ => (hk_.2) e_))) (fun k_ hk_ => trivial)) <| p_ (blk_kept tq_127 hkp (fun hs_ => Or.elim hs_ (fun e_ => (fun e_ => (Kd.R_ne HO264.out BK265.out (by decide)) e_) e_) (fun e_ => (fun e_ => (Kd.R_ne HO269.out BK265.out (by decide)) e_) e_))) <| p_ (Kd.R_mono (ok' := fun k_ => k_ ≠ gb253) ho0 (fun k_ hk_ => Or.elim hk_ (fun hs_ => Or.elim hs_ (fun hs_ => fun e_ => (Kd.R_away HO264.out (fun _ hk => hk.1.2)) (by rw [← e_]; exact hs_)) (fun hs_ => fun e_ => (Kd.R_away HO269.out (fun _ hk => hk.2)) (by rw [← e_]; exact hs_))) (fun hn_ => (Kd.freshB (g := gb253) (o := .cells #[.int .i64 a1_0, .string a1_1] 59 (0, 0)) tq_25 k_ hn_)))) <| a_ (hb); clear BK252 BK253 BK254 HO261 BK265 HB HO264 HO269; obtain ⟨BK252, BK253, BK254, HO261, BK265, HO272, HB⟩ := z_; (try clear hb); (try clear hkp); (try clear ho0); obtain ⟨Ao30, co30, eo30⟩ := Kd.R_slice HO272.out; subst eo30; have hcz31_0 := bc_ BK265.out 0; have hcz31_1 := bc_ BK265.out 1; have hcz31_2 := bc_ BK265.out 2; have hcz31_3 := bc_ BK265.out 3; have hcz31_4 := bc_ BK265.out 4; have hcz31_5 := bc_ BK265.out 5; have hfz31_0 := blk_frozen BK265.out 0; have hfz31_1 := blk_frozen BK265.out 1; have hfz31_2 := blk_frozen BK265.out 2; have hfz31_3 := blk_frozen BK265.out 3; have hfz31_4 := blk_frozen BK265.out 4; have hfz31_5 := blk_frozen BK265.out 5; have hcz32_0 := bc_ BK254.out 0; have hcz32_1 := bc_ BK254.out 1; have hcz32_2 := bc_ BK254.out 2; have hcz32_3 := bc_ BK254.out 3; have hcz32_4 := bc_ BK254.out 4; have hcz32_5 := bc_ BK254.out 5; have hfz32_0 := blk_frozen BK254.out 0; have hfz32_1 := blk_frozen BK254.out 1; have hfz32_2 := blk_frozen BK254.out 2; have hfz32_3 := blk_frozen BK254.out 3; have hfz32_4 := blk_frozen BK254.out 4; have hfz32_5 := blk_frozen BK254.out 5))
  refine bodyPost_ret (results_cell_row rfl _ _ gb254 49 #[.int .i64 t255, .int .i64 t256, .int .i64 t257, .string t258, .slice Ao21 t259.length co21, .slice Ao30 t270.length co30] (0, 0) _ rfl (by (with_reducible repeat (first | refine blk_drewN ?_ _ | refine blk_drew ?_ | refine blk_alloc ?_ _)); refine blk_put (cs := #[.int .i64 t255, .int .i64 t256, .int .i64 t257, .string t258, .slice Ao21 t259.length co21, .slice none 0 0]) ?_ 5 _ rfl; (with_reducible repeat (first | refine blk_drewN ?_ _ | refine blk_drew ?_ | refine blk_alloc ?_ _)); refine blk_put (cs := #[.int .i64 t255, .int .i64 t256, .int .i64 t257, .string t258, .slice none 0 0, .slice none 0 0]) ?_ 4 _ rfl; (with_reducible repeat (first | refine blk_drewN ?_ _ | refine blk_drew ?_ | refine blk_alloc ?_ _)); refine blk_put (cs := #[.int .i64 t255, .int .i64 t256, .int .i64 t257, .string (⟨#[]⟩ : ByteArray), .slice none 0 0, .slice none 0 0]) ?_ 3 _ rfl; (with_reducible repeat (first | refine blk_drewN ?_ _ | refine blk_drew ?_ | refine blk_alloc ?_ _)); refine blk_put (cs := #[.int .i64 t255, .int .i64 t256, .int .i64 0, .string (⟨#[]⟩ : ByteArray), .slice none 0 0, .slice none 0 0]) ?_ 2 _ rfl; (with_reducible repeat (first | refine blk_drewN ?_ _ | refine blk_drew ?_ | refine blk_alloc ?_ _)); refine blk_put (cs := #[.int .i64 t255, .int .i64 0, .int .i64 0, .string (⟨#[]⟩ : ByteArray), .slice none 0 0, .slice none 0 0]) ?_ 1 _ rfl; (with_reducible repeat (first | refine blk_drewN ?_ _ | refine blk_drew ?_ | refine blk_alloc ?_ _)); refine blk_put (cs := #[.int .i64 0, .int .i64 0, .int .i64 0, .string (⟨#[]⟩ : ByteArray), .slice none 0 0, .slice none 0 0]) ?_ 0 _ rfl; (with_reducible repeat (first | refine blk_drewN ?_ _ | refine blk_drew ?_ | refine blk_alloc ?_ _)); refine blk_far ?_ NB254_265.out _; (with_reducible repeat (first | refine blk_drewN ?_ _ | refine blk_drew ?_ | refine blk_alloc ?_ _)); exact BK254.out) Try.underlying49 rfl (by kernel_rfl)) rfl ?_
  exact ⟨_, _, tq_7, (by (with_reducible repeat (first | apply Kd.R_alloc | apply Kd.R_drewN | apply Kd.R_drew)); exact Kd.R_mono (Kd.R_far (p := ⟨gb254, 5, none⟩) (Kd.R_far (p := ⟨gb254, 4, none⟩) (Kd.R_far (p := ⟨gb254, 3, none⟩) (Kd.R_far (p := ⟨gb254, 2, none⟩) (Kd.R_far (p := ⟨gb254, 1, none⟩) (Kd.R_far (p := ⟨gb254, 0, none⟩) (Kd.R_far (p := ⟨gb265, 5, none⟩) (Kd.R_types (Kd.R_types HO261.out BK265.out (by decide)) BK254.out (by decide)) (fun _ hk => hk.1.2) (.slice Ao30 t270.length co30)) (fun _ hk => hk.2) (.int .i64 t255)) (fun _ hk => hk.2) (.int .i64 t256)) (fun _ hk => hk.2) (.int .i64 t257)) (fun _ hk => hk.2) (.string t258)) (fun _ hk => hk.2) (.slice Ao21 t259.length co21)) (fun _ hk => hk.2) (.slice Ao30 t270.length co30)) (fun _ hk => trivial)), (by (with_reducible repeat (first | apply Kd.R_alloc | apply Kd.R_drewN | apply Kd.R_drew)); exact Kd.R_mono (Kd.R_far (p := ⟨gb254, 5, none⟩) (Kd.R_far (p := ⟨gb254, 4, none⟩) (Kd.R_far (p := ⟨gb254, 3, none⟩) (Kd.R_far (p := ⟨gb254, 2, none⟩) (Kd.R_far (p := ⟨gb254, 1, none⟩) (Kd.R_far (p := ⟨gb254, 0, none⟩) (Kd.R_far (p := ⟨gb265, 5, none⟩) (Kd.R_types (Kd.R_types HO272.out BK265.out (by decide)) BK254.out (by decide)) (fun _ hk => hk.1.2) (.slice Ao30 t270.length co30)) (fun _ hk => hk.2) (.int .i64 t255)) (fun _ hk => hk.2) (.int .i64 t256)) (fun _ hk => hk.2) (.int .i64 t257)) (fun _ hk => hk.2) (.string t258)) (fun _ hk => hk.2) (.slice Ao21 t259.length co21)) (fun _ hk => hk.2) (.slice Ao30 t270.length co30)) (fun _ hk => trivial)), tq_34⟩
 ·rw [if_neg c5] at H
  have c5b0 : decide (t266 < 0) = false := decide_eq_false c5
  clear c5
  obtain ⟨y273, hy273⟩ : ∃ y_ : List (S59), y_ = (([(⟨a1_0, a1_1⟩ : S59)] : List (S59))) := ⟨_, rfl⟩
  replace H : ((slices_Insert_Entry.f t262 t266 y273).bind fun t276 => (some (t255, t256, t257, t258, t259, t276))) = some (r1, r2, r3, r4, r5, r6) := by first | (rw [hy273]; with_reducible exact H) | (have H2_ := (Option.bind_some _ _).symm.trans H; rw [hy273]; with_reducible exact H2_) | (have H2_ := (Option.bind_some _ _).symm.trans H; with_reducible exact H2_) | with_reducible exact H | (rw [hy273]; exact H) | exact H
  have Ny273 := Aside0.mk hy273
  clear hy273
  replace H := Option.bind_eq_some_iff.mp H
  obtain ⟨t276, A330, H⟩ := H
  replace H : (some (t255, t256, t257, t258, t259, t276)) = some (r1, r2, r3, r4, r5, r6) := H
  have A33 := Aside0.mk A330
  clear A330
  simp only [Option.some.injEq, Prod.mk.injEq] at H
  obtain ⟨rfl, rfl, rfl, rfl, rfl, rfl⟩ := H
  go_enter Try.func36, Try.ntmps36
  go_wp2_with (first | ((with_reducible refine gate_dst (N := 2) rfl ?_); refine box_event ?hg (N := 2) ?hd (cs := #[.int .i64 a0_0, .int .i64 a0_1, .int .i64 a0_2, .string a0_3, .slice A0_4 l0_4.length c0_4, .slice A0_5 l0_5.length c0_5]) (t := 49) ?hr ?_; (case hd => rfl); (case hg => rfl); (case hr => first | (go_simp; done) | (go_simp; rfl)); intro gb252 hg w34 hbox hb; have z_ := p_ (below_step tq_0 hb) <| p_ (hbox) <| p_ (gb_ hg tq_0) <| a_ (gb_ hg tq_0); clear HB; obtain ⟨HB, BK252, GW252, GE252⟩ := z_; clear hb hbox hg) | ((with_reducible refine gate_dst (N := 3) rfl ?_); refine box_event ?hg (N := 3) ?hd (cs := #[.int .i64 a1_0, .string a1_1]) (t := 59) ?hr ?_; (case hd => rfl); (case hg => rfl); (case hr => first | (go_simp; done) | (go_simp; rfl)); intro gb253 hg w35 hbox hb; have z_ := p_ (blk_below tq_26 hb) <| p_ (below_step tq_69 hb) <| p_ (hbox) <| p_ (gb_ hg tq_69) <| p_ (gb_ hg tq_69) <| p_ (ltne_ hg (blk_lt tq_26)) <| a_ (gtne_ hg (blk_lt tq_26)); clear BK252 HB; obtain ⟨BK252, HB, BK253, GW253, GE253, NB252_253, NB253_252⟩ := z_; clear hb hbox hg) | ((with_reducible refine gate_dst (N := 4) rfl ?_); refine box_event ?hg (N := 4) ?hd (cs := #[.int .i64 0, .int .i64 0, .int .i64 0, .string (⟨#[]⟩ : ByteArray), .slice none 0 0, .slice none 0 0]) (t := 49) ?hr ?_; (case hd => rfl); (case hg => rfl); (case hr => first | (go_simp; done) | (go_simp; rfl)); intro gb254 hg w36 hbox hb; have z_ := p_ (blk_below tq_26 hb) <| p_ (blk_below tq_25 hb) <| p_ (below_step tq_60 hb) <| p_ (hbox) <| p_ (gb_ hg tq_60) <| p_ (gb_ hg tq_60) <| p_ (ltne_ hg (blk_lt tq_26)) <| p_ (gtne_ hg (blk_lt tq_26)) <| p_ (ltne_ hg (blk_lt tq_25)) <| a_ (gtne_ hg (blk_lt tq_25)); clear BK252 BK253 HB; obtain ⟨BK252, BK253, HB, BK254, GW254, GE254, NB252_254, NB254_252, NB253_254, NB254_253⟩ := z_; clear hb hbox hg; have hnb37 := NB252_253.out; have hnc37 := NB253_252.out; have hnb38 := NB252_254.out; have hnc38 := NB254_252.out; have hcz39_0 := bc_ BK252.out 0; have hcz39_1 := bc_ BK252.out 1; have hcz39_2 := bc_ BK252.out 2; have hcz39_3 := bc_ BK252.out 3; have hcz39_4 := bc_ BK252.out 4; have hcz39_5 := bc_ BK252.out 5; have hfz39_0 := blk_frozen BK252.out 0; have hfz39_1 := blk_frozen BK252.out 1; have hfz39_2 := blk_frozen BK252.out 2; have hfz39_3 := blk_frozen BK252.out 3; have hfz39_4 := blk_frozen BK252.out 4; have hfz39_5 := blk_frozen BK252.out 5; have hnb40 := NB253_254.out; have hnc40 := NB254_253.out; have hcz41_0 := bc_ BK253.out 0; have hcz41_1 := bc_ BK253.out 1; have hfz41_0 := blk_frozen BK253.out 0; have hfz41_1 := blk_frozen BK253.out 1) | ((with_reducible refine gate_callee (f := 29) rfl ?_); refine goesL_ (some 10) rfl rfl Try.func29 (by kernel_rfl) rfl #[.agg #[.int .i64 a0_0, .int .i64 a0_1, .int .i64 a0_2, .string a0_3, .slice A0_4 l0_4.length c0_4, .slice A0_5 l0_5.length c0_5], .string a1_1] rfl tq_2 ?_; (with_reducible refine (impl_WithoutEntry.calls a0_0 a0_1 a0_2 a0_3 _ _ l0_4 _ _ l0_5 a1_1 t255 t256 t257 t258 t259 t262 _ ?side1 ?side2 ?side3 ?side4 A3.out).mono ?_); (case side1 => exact tq_15); (case side2 => exact HC0_4.out); (case side3 => exact tq_24); (case side4 => exact HC0_5.out); rintro e w42 ⟨v260, v263, rfl, ho0, ho1, hb⟩; refine ⟨_, rfl, ?_⟩; have z_ := p_ (Kd.R_lower ho0 (below_size tq_29)) <| p_ (Kd.R_lower (Kd.R_newB ho1 (g := gb253) (o := .cells #[.int .i64 a1_0, .string a1_1] 59 (0, 0)) tq_25) (below_size tq_29)) <| p_ (blk_below tq_26 hb) <| p_ (blk_below tq_25 hb) <| p_ (blk_below tq_45 hb) <| a_ (below_step tq_29 hb); clear BK252 BK253 BK254 HB; obtain ⟨HO261, HO264, BK252, BK253, BK254, HB⟩ := z_; (try clear hb); (try clear hb2); (try clear hk); (try clear hi); (try clear ho0); (try clear ho1)) | ((with_reducible refine gate_dst (N := 5) rfl ?_); refine box_event ?hg (N := 5) ?hd (cs := #[.int .i64 0, .int .i64 0, .int .i64 0, .string (⟨#[]⟩ : ByteArray), .slice none 0 0, .slice none 0 0]) (t := 49) ?hr ?_; (case hd => rfl); (case hg => rfl); (case hr => first | (go_simp; done) | (go_simp; rfl)); intro gb265 hg w43 hbox hb; have z_ := p_ (Kd.R_below tq_142 hb) <| p_ (Kd.R_below tq_96 hb) <| p_ (blk_below tq_26 hb) <| p_ (blk_below tq_25 hb) <| p_ (blk_below tq_45 hb) <| p_ (below_step tq_29 hb) <| p_ (hbox) <| p_ (gb_ hg tq_29) <| p_ (gb_ hg tq_29) <| p_ (ltne_ hg (blk_lt tq_26)) <| p_ (gtne_ hg (blk_lt tq_26)) <| p_ (ltne_ hg (blk_lt tq_25)) <| p_ (gtne_ hg (blk_lt tq_25)) <| p_ (ltne_ hg (blk_lt tq_45)) <| a_ (gtne_ hg (blk_lt tq_45)); clear HO261 HO264 BK252 BK253 BK254 HB; obtain ⟨HO261, HO264, BK252, BK253, BK254, HB, BK265, GW265, GE265, NB252_265, NB265_252, NB253_265, NB265_253, NB254_265, NB265_254⟩ := z_; clear hb hbox hg; have hnb44 := NB265_252.out; have hnc44 := NB252_265.out; have hnb45 := NB265_253.out; have hnc45 := NB253_265.out; have hnb46 := NB265_254.out; have hnc46 := NB254_265.out; have hcz47_0 := bc_ BK265.out 0; have hcz47_1 := bc_ BK265.out 1; have hcz47_2 := bc_ BK265.out 2; have hcz47_3 := bc_ BK265.out 3; have hcz47_4 := bc_ BK265.out 4; have hcz47_5 := bc_ BK265.out 5; have hfz47_0 := blk_frozen BK265.out 0; have hfz47_1 := blk_frozen BK265.out 1; have hfz47_2 := blk_frozen BK265.out 2; have hfz47_3 := blk_frozen BK265.out 3; have hfz47_4 := blk_frozen BK265.out 4; have hfz47_5 := blk_frozen BK265.out 5; obtain ⟨Ao48, co48, eo48⟩ := Kd.R_slice HO261.out; subst eo48; obtain ⟨Ao49, co49, eo49⟩ := Kd.R_slice HO264.out; subst eo49) | ((with_reducible refine gate_callee (f := 105) rfl ?_); refine goesL_ (some 14) rfl rfl Try.func105 (by kernel_rfl) rfl #[.slice Ao49 t262.length co49, .func (.func 106) #[] #[.pointer (some ⟨gb253, 0, none⟩)]] rfl tq_2 ?_; (with_reducible refine (slices_IndexFunc_Entry_g106.calls _ _ t262 gb253 a1_0 a1_1 t266 _ ?side1 ?side2 ?side3 A4.out).mono ?_); (case side1 => refine (Kd.R_reads' (e := 59) (base := w.heap.size) (ok := fun k_ => (True ∧ k_ ≠ gb253)) (n := t262.length) (c := co49) ?_).2.2; exact tq_88); (case side2 => exact (Kd.R_reads' HO264.out).2.1); (case side3 => (with_reducible repeat (first | refine blk_drewN ?_ _ | refine blk_drew ?_ | refine blk_alloc ?_ _)); refine blk_far ?_ NB253_265.out _; (with_reducible repeat (first | refine blk_drewN ?_ _ | refine blk_drew ?_ | refine blk_alloc ?_ _)); refine blk_far ?_ NB253_265.out _; (with_reducible repeat (first | refine blk_drewN ?_ _ | refine blk_drew ?_ | refine blk_alloc ?_ _)); refine blk_far ?_ NB253_265.out _; (with_reducible repeat (first | refine blk_drewN ?_ _ | refine blk_drew ?_ | refine blk_alloc ?_ _)); refine blk_far ?_ NB253_265.out _; (with_reducible repeat (first | refine blk_drewN ?_ _ | refine blk_drew ?_ | refine blk_alloc ?_ _)); refine blk_far ?_ NB253_265.out _; (with_reducible repeat (first | refine blk_drewN ?_ _ | refine blk_drew ?_ | refine blk_alloc ?_ _)); refine blk_far ?_ NB253_265.out _; (with_reducible repeat (first | refine blk_drewN ?_ _ | refine blk_drew ?_ | refine blk_alloc ?_ _)); exact BK253.out); rintro e w50 ⟨rfl, hb⟩; refine ⟨_, rfl, ?_⟩; have z_ := p_ (Kd.R_below (by (with_reducible repeat (first | apply Kd.R_alloc | apply Kd.R_drewN | apply Kd.R_drew)); exact (Kd.R_mono (Kd.R_far (p := ⟨gb265, 5, none⟩) (Kd.R_far (p := ⟨gb265, 4, none⟩) (Kd.R_far (p := ⟨gb265, 3, none⟩) (Kd.R_far (p := ⟨gb265, 2, none⟩) (Kd.R_far (p := ⟨gb265, 1, none⟩) (Kd.R_far (p := ⟨gb265, 0, none⟩) (Kd.R_types HO261.out BK265.out (by decide)) (fun _ hk => hk.2) (.int .i64 t255)) (fun _ hk => hk.2) (.int .i64 t256)) (fun _ hk => hk.2) (.int .i64 t257)) (fun _ hk => hk.2) (.string t258)) (fun _ hk => hk.2) (.slice Ao48 t259.length co48)) (fun _ hk => hk.2) (.slice Ao49 t262.length co49)) (fun _ h_ => h_.1))) hb) <| p_ (Kd.R_below tq_88 hb) <| p_ (blk_below (g := gb252) (o := .cells #[.int .i64 a0_0, .int .i64 a0_1, .int .i64 a0_2, .string a0_3, .slice A0_4 l0_4.length c0_4, .slice A0_5 l0_5.length c0_5] 49 (0, 0)) tq_63 hb) <| p_ (blk_below (g := gb253) (o := .cells #[.int .i64 a1_0, .string a1_1] 59 (0, 0)) tq_62 hb) <| p_ (blk_below (g := gb254) (o := .cells #[.int .i64 0, .int .i64 0, .int .i64 0, .string (⟨#[]⟩ : ByteArray), .slice none 0 0, .slice none 0 0] 49 (0, 0)) tq_61 hb) <| p_ (blk_below (g := gb265) (o := .cells #[.int .i64 t255, .int .i64 t256, .int .i64 t257, .string t258, .slice Ao48 t259.length co48, .slice Ao49 t262.length co49] 49 (0, 0)) (by (with_reducible repeat (first | refine blk_drewN ?_ _ | refine blk_drew ?_ | refine blk_alloc ?_ _)); refine blk_put (cs := #[.int .i64 t255, .int .i64 t256, .int .i64 t257, .string t258, .slice Ao48 t259.length co48, .slice none 0 0]) ?_ 5 _ rfl; (with_reducible repeat (first | refine blk_drewN ?_ _ | refine blk_drew ?_ | refine blk_alloc ?_ _)); refine blk_put (cs := #[.int .i64 t255, .int .i64 t256, .int .i64 t257, .string t258, .slice none 0 0, .slice none 0 0]) ?_ 4 _ rfl; (with_reducible repeat (first | refine blk_drewN ?_ _ | refine blk_drew ?_ | refine blk_alloc ?_ _)); refine blk_put (cs := #[.int .i64 t255, .int .i64 t256, .int .i64 t257, .string (⟨#[]⟩ : ByteArray), .slice none 0 0, .slice none 0 0]) ?_ 3 _ rfl; (with_reducible repeat (first | refine blk_drewN ?_ _ | refine blk_drew ?_ | refine blk_alloc ?_ _)); refine blk_put (cs := #[.int .i64 t255, .int .i64 t256, .int .i64 0, .string (⟨#[]⟩ : ByteArray), .slice none 0 0, .slice none 0 0]) ?_ 2 _ rfl; (with_reducible repeat (first | refine blk_drewN ?_ _ | refine blk_drew ?_ | refine blk_alloc ?_ _)); refine blk_put (cs := #[.int .i64 t255, .int .i64 0, .int .i64 0, .string (⟨#[]⟩ : ByteArray), .slice none 0 0, .slice none 0 0]) ?_ 1 _ rfl; (with_reducible repeat (first | refine blk_drewN ?_ _ | refine blk_drew ?_ | refine blk_alloc ?_ _)); refine blk_put (cs := #[.int .i64 0, .int .i64 0, .int .i64 0, .string (⟨#[]⟩ : ByteArray), .slice none 0 0, .slice none 0 0]) ?_ 0 _ rfl; (with_reducible repeat (first | refine blk_drewN ?_ _ | refine blk_drew ?_ | refine blk_alloc ?_ _)); exact BK265.out) hb) <| a_ (below_step tq_34 hb); clear HO261 HO264 BK252 BK253 BK254 BK265 HB; obtain ⟨HO261, HO264, BK252, BK253, BK254, BK265, HB⟩ := z_; (try clear hb); (try clear hb2); (try clear hk); (try clear hi); have hcz51_0 := bc_ BK265.out 0; have hcz51_1 := bc_ BK265.out 1; have hcz51_2 := bc_ BK265.out 2; have hcz51_3 := bc_ BK265.out 3; have hcz51_4 := bc_ BK265.out 4; have hcz51_5 := bc_ BK265.out 5; have hfz51_0 := blk_frozen BK265.out 0; have hfz51_1 := blk_frozen BK265.out 1; have hfz51_2 := blk_frozen BK265.out 2; have hfz51_3 := blk_frozen BK265.out 3; have hfz51_4 := blk_frozen BK265.out 4; have hfz51_5 := blk_frozen BK265.out 5; have hcz52_0 := bc_ BK253.out 0; have hcz52_1 := bc_ BK253.out 1; have hfz52_0 := blk_frozen BK253.out 0; have hfz52_1 := blk_frozen BK253.out 1) | ((with_reducible refine gate_dst (N := 24) rfl ?_); refine Kd.R_lit k59 _ 59 ?hg (N := 24) ?hd (xs := ([(⟨a1_0, a1_1⟩ : S59)] : List (S59))) (inner := [.int .i64 a1_0, .string a1_1]) (ok := fun _ => True) (okp := fun _ => True) ?hr ?hp (fun _ hk => hk) trivial (Below.refl _ _) (Nat.le_refl _) (by simp) ?_; (case hd => rfl); (case hg => rfl); (case hr => first | (go_simp; done) | (go_simp; rfl)); (case hp => exact tq_181); intro v274 w53 ho54 hb hg_ hnew_; clear hg_ hnew_; (first | rw [← Ny273.out] at ho54 | (simp only [Int.reduceToNat] at ho54; rw [← Ny273.out] at ho54)); have z_ := p_ (Kd.R_below tq_142 hb) <| p_ (Kd.R_elder' tq_96 (Kd.R_base ho54) hb) <| p_ (Kd.R_lower (Kd.R_newB (Kd.R_new' ho54 (Kd.R_lt tq_96)) (g := gb253) (o := .cells #[.int .i64 a1_0, .string a1_1] 59 (0, 0)) tq_25) (below_size tq_34)) <| p_ (blk_below tq_26 hb) <| p_ (blk_below tq_25 hb) <| p_ (blk_below tq_45 hb) <| p_ (blk_below tq_127 hb) <| a_ (below_step tq_34 hb); clear HO261 HO264 BK252 BK253 BK254 BK265 HB; obtain ⟨HO261, HO264, HO275, BK252, BK253, BK254, BK265, HB⟩ := z_; clear hb ho54; obtain ⟨Ao55, co55, eo55⟩ := Kd.R_slice HO275.out; subst eo55) | ((with_reducible refine gate_callee (f := 107) rfl ?_); refine goesL_ (some 25) rfl rfl Try.func107 (by kernel_rfl) rfl #[.slice Ao49 t262.length co49, .int .i64 t266, .slice Ao55 y273.length co55] rfl tq_2 ?_; (with_reducible refine (slices_Insert_Entry.calls (fun k_ => some k_ = (.slice Ao49 t262.length co49 : Value).ownBlock) (.slice Ao49 t262.length co49) t262 t266 (fun k_ => some k_ = (.slice Ao55 y273.length co55 : Value).ownBlock) (.slice Ao55 y273.length co55) y273 t276 w _ ?side1 ?side2 ?side3 ?side4 ?side5 A33.out).mono ?_); (case side1 => exact tq_151); (case side2 => exact Kd.R_tight rfl HO264.out); (case side3 => exact fun k_ e_ => (HO264.out.1 k_ e_.symm).2); (case side4 => exact Kd.R_tight rfl HO275.out); (case side5 => exact fun k_ e_ => (HO275.out.1 k_ e_.symm).1.2); rintro e w56 ⟨v277, rfl, ho0, hb, hkp⟩; refine ⟨_, rfl, ?_⟩; have z_ := p_ (blk_kept tq_26 hkp (fun hs_ => Or.elim hs_ (fun e_ => (fun e_ => (Kd.R_ne HO264.out BK252.out (by decide)) e_) e_) (fun e_ => (fun e_ => (Kd.R_ne HO275.out BK252.out (by decide)) e_) e_))) <| p_ (blk_kept tq_25 hkp (fun hs_ => Or.elim hs_ (fun e_ => (fun e_ => (Kd.R_away HO264.out (fun _ hk => hk.1.2)) e_) e_) (fun e_ => (fun e_ => (Kd.R_away HO275.out (fun _ hk => hk.2)) e_) e_))) <| p_ (blk_kept tq_45 hkp (fun hs_ => Or.elim hs_ (fun e_ => (fun e_ => (Kd.R_ne HO264.out BK254.out (by decide)) e_) e_) (fun e_ => (fun e_ => (Kd.R_ne HO275.out BK254.out (by decide)) e_) e_))) <| p_ (Kd.R_mono (ok' := fun k_ => True) (Kd.R_keptB ((Kd.R_apart' (Kd.R_apart' HO261.out (Kd.R_typed HO264.out) (by decide)) (Kd.R_typed HO275.out) (by decide))) hkp (fun k_ hk_ hs_ => Or.elim hs_ (fun e_ => (hk_.1.2) e_) (fun e_ => (hk_.2) e_))) (fun k_ hk_ => trivial)) <| p_ (blk_kept tq_127 hkp (fun hs_ => Or.elim hs_ (fun e_ => (fun e_ => (Kd.R_ne HO264.out BK265.out (by decide)) e_) e_) (fun e_ => (fun e_ => (Kd.R_ne HO275.out BK265.out (by decide)) e_) e_))) <| p_ (Kd.R_mono (ok' := fun k_ => k_ ≠ gb253) ho0 (fun k_ hk_ => Or.elim hk_ (fun hs_ => Or.elim hs_ (fun hs_ => fun e_ => (Kd.R_away HO264.out (fun _ hk => hk.1.2)) (by rw [← e_]; exact hs_)) (fun hs_ => fun e_ => (Kd.R_away HO275.out (fun _ hk => hk.2)) (by rw [← e_]; exact hs_))) (fun hn_ => (Kd.freshB (g := gb253) (o := .cells #[.int .i64 a1_0, .string a1_1] 59 (0, 0)) tq_25 k_ hn_)))) <| a_ (hb); clear BK252 BK253 BK254 HO261 BK265 HB HO264 HO275; obtain ⟨BK252, BK253, BK254, HO261, BK265, HO278, HB⟩ := z_; (try clear hb); (try clear hkp); (try clear ho0); obtain ⟨Ao57, co57, eo57⟩ := Kd.R_slice HO278.out; subst eo57; have hcz58_0 := bc_ BK265.out 0; have hcz58_1 := bc_ BK265.out 1; have hcz58_2 := bc_ BK265.out 2; have hcz58_3 := bc_ BK265.out 3; have hcz58_4 := bc_ BK265.out 4; have hcz58_5 := bc_ BK265.out 5; have hfz58_0 := blk_frozen BK265.out 0; have hfz58_1 := blk_frozen BK265.out 1; have hfz58_2 := blk_frozen BK265.out 2; have hfz58_3 := blk_frozen BK265.out 3; have hfz58_4 := blk_frozen BK265.out 4; have hfz58_5 := blk_frozen BK265.out 5; have hcz59_0 := bc_ BK254.out 0; have hcz59_1 := bc_ BK254.out 1; have hcz59_2 := bc_ BK254.out 2; have hcz59_3 := bc_ BK254.out 3; have hcz59_4 := bc_ BK254.out 4; have hcz59_5 := bc_ BK254.out 5; have hfz59_0 := blk_frozen BK254.out 0; have hfz59_1 := blk_frozen BK254.out 1; have hfz59_2 := blk_frozen BK254.out 2; have hfz59_3 := blk_frozen BK254.out 3; have hfz59_4 := blk_frozen BK254.out 4; have hfz59_5 := blk_frozen BK254.out 5))
  refine bodyPost_ret (results_cell_row rfl _ _ gb254 49 #[.int .i64 t255, .int .i64 t256, .int .i64 t257, .string t258, .slice Ao48 t259.length co48, .slice Ao57 t276.length co57] (0, 0) _ rfl (by (with_reducible repeat (first | refine blk_drewN ?_ _ | refine blk_drew ?_ | refine blk_alloc ?_ _)); refine blk_put (cs := #[.int .i64 t255, .int .i64 t256, .int .i64 t257, .string t258, .slice Ao48 t259.length co48, .slice none 0 0]) ?_ 5 _ rfl; (with_reducible repeat (first | refine blk_drewN ?_ _ | refine blk_drew ?_ | refine blk_alloc ?_ _)); refine blk_put (cs := #[.int .i64 t255, .int .i64 t256, .int .i64 t257, .string t258, .slice none 0 0, .slice none 0 0]) ?_ 4 _ rfl; (with_reducible repeat (first | refine blk_drewN ?_ _ | refine blk_drew ?_ | refine blk_alloc ?_ _)); refine blk_put (cs := #[.int .i64 t255, .int .i64 t256, .int .i64 t257, .string (⟨#[]⟩ : ByteArray), .slice none 0 0, .slice none 0 0]) ?_ 3 _ rfl; (with_reducible repeat (first | refine blk_drewN ?_ _ | refine blk_drew ?_ | refine blk_alloc ?_ _)); refine blk_put (cs := #[.int .i64 t255, .int .i64 t256, .int .i64 0, .string (⟨#[]⟩ : ByteArray), .slice none 0 0, .slice none 0 0]) ?_ 2 _ rfl; (with_reducible repeat (first | refine blk_drewN ?_ _ | refine blk_drew ?_ | refine blk_alloc ?_ _)); refine blk_put (cs := #[.int .i64 t255, .int .i64 0, .int .i64 0, .string (⟨#[]⟩ : ByteArray), .slice none 0 0, .slice none 0 0]) ?_ 1 _ rfl; (with_reducible repeat (first | refine blk_drewN ?_ _ | refine blk_drew ?_ | refine blk_alloc ?_ _)); refine blk_put (cs := #[.int .i64 0, .int .i64 0, .int .i64 0, .string (⟨#[]⟩ : ByteArray), .slice none 0 0, .slice none 0 0]) ?_ 0 _ rfl; (with_reducible repeat (first | refine blk_drewN ?_ _ | refine blk_drew ?_ | refine blk_alloc ?_ _)); refine blk_far ?_ NB254_265.out _; (with_reducible repeat (first | refine blk_drewN ?_ _ | refine blk_drew ?_ | refine blk_alloc ?_ _)); exact BK254.out) Try.underlying49 rfl (by kernel_rfl)) rfl ?_
  exact ⟨_, _, tq_7, (by (with_reducible repeat (first | apply Kd.R_alloc | apply Kd.R_drewN | apply Kd.R_drew)); exact Kd.R_mono (Kd.R_far (p := ⟨gb254, 5, none⟩) (Kd.R_far (p := ⟨gb254, 4, none⟩) (Kd.R_far (p := ⟨gb254, 3, none⟩) (Kd.R_far (p := ⟨gb254, 2, none⟩) (Kd.R_far (p := ⟨gb254, 1, none⟩) (Kd.R_far (p := ⟨gb254, 0, none⟩) (Kd.R_far (p := ⟨gb265, 5, none⟩) (Kd.R_types (Kd.R_types HO261.out BK265.out (by decide)) BK254.out (by decide)) (fun _ hk => hk.1.2) (.slice Ao57 t276.length co57)) (fun _ hk => hk.2) (.int .i64 t255)) (fun _ hk => hk.2) (.int .i64 t256)) (fun _ hk => hk.2) (.int .i64 t257)) (fun _ hk => hk.2) (.string t258)) (fun _ hk => hk.2) (.slice Ao48 t259.length co48)) (fun _ hk => hk.2) (.slice Ao57 t276.length co57)) (fun _ hk => trivial)), (by (with_reducible repeat (first | apply Kd.R_alloc | apply Kd.R_drewN | apply Kd.R_drew)); exact Kd.R_mono (Kd.R_far (p := ⟨gb254, 5, none⟩) (Kd.R_far (p := ⟨gb254, 4, none⟩) (Kd.R_far (p := ⟨gb254, 3, none⟩) (Kd.R_far (p := ⟨gb254, 2, none⟩) (Kd.R_far (p := ⟨gb254, 1, none⟩) (Kd.R_far (p := ⟨gb254, 0, none⟩) (Kd.R_far (p := ⟨gb265, 5, none⟩) (Kd.R_types (Kd.R_types HO278.out BK265.out (by decide)) BK254.out (by decide)) (fun _ hk => hk.1.2) (.slice Ao57 t276.length co57)) (fun _ hk => hk.2) (.int .i64 t255)) (fun _ hk => hk.2) (.int .i64 t256)) (fun _ hk => hk.2) (.int .i64 t257)) (fun _ hk => hk.2) (.string t258)) (fun _ hk => hk.2) (.slice Ao48 t259.length co48)) (fun _ hk => hk.2) (.slice Ao57 t276.length co57)) (fun _ hk => trivial)), tq_34⟩

end Go.Proofs.Ytcdnfkoahajhhaa.PFnExactWithEntry
