/- Contracts of Go functions, written by a program of ours over the print of the kit: each says that the call returns what the Lean function beside it computes. Conditions: as each theorem states them. -/
import Derived.Test.YtjfhddenmnjgbaaDoorPkFnAnyInode
import Derived.Test.YtjfhddenmnjgbaaDoorPFnAnyInodex0
import Derived.Test.YtjfhddenmnjgbaaDoorPFnAnyInodex5
import Derived.Test.YtjfhddenmnjgbaaDoorPFnAnyInodex16
import Derived.Test.YtjfhddenmnjgbaaDoorPFnAnyInodex17
namespace Go.Proofs.YtjfhddenmnjgbaaDoor.PFnAnyInode
open Go.RowKit Go.Proofs.YtjfhddenmnjgbaaDoorW.PrintWords Go.Proofs.YtjfhddenmnjgbaaDoorW.PrintLast Go.Proofs.YtjfhddenmnjgbaaDoorW.PrintMore
attribute [local go_sem] max2_int min2_int max_two min_two max_three min_three max_four min_four setCell_drewN   -- for this text's walks alone
set_option linter.unusedVariables false
set_option linter.unusedSimpArgs false

/-! ### spec_l12Inode: function 62 -/
mutual
def spec_l12Inode.l0 : Nat → Int → Int → List Int → Int → Int → Int → Int → Int → ByteArray → List (S42) → Option (Int × Int × Int × ByteArray × (List (S42)) × (List (S47)) × Int × Int)
 | 0, _, _, _, _, _, _, _, _, _, _ => none
 | k + 1, x4, x5, x1000, x1001, x1002, x400000, x400001, x400002, x400003, x400004 => (spec_PagesFor.f x400001).bind fun t409 => (if x5 < t409 then ((spec_l12Rec.f k x1000 x1001 x1002).bind fun bt410 => (if x5 = 0 then (if x400004.length < 4398046511104 then (spec_l12Inode.l0 k bt410.1 (wrap64 (x5 + 1)) x1000 bt410.2.2.2.1 bt410.2.2.2.2 x400000 x400001 x400002 x400003 (x400004 ++ [(⟨wrap64 (1 + (Int.tmod (wrap64 ((wrap64 (3 * x5)) + bt410.1)) 12)), bt410.2.1, bt410.2.2.1⟩ : S42)])) else (none)) else (if x400004.length < 4398046511104 then (spec_l12Inode.l0 k x4 (wrap64 (x5 + 1)) x1000 bt410.2.2.2.1 bt410.2.2.2.2 x400000 x400001 x400002 x400003 (x400004 ++ [(⟨wrap64 (1 + (Int.tmod (wrap64 ((wrap64 (3 * x5)) + x4)) 12)), bt410.2.1, bt410.2.2.1⟩ : S42)])) else (none)))) else (some (x400000, x400001, x400002, x400003, x400004, ([] : List (S47)), x1001, x1002)))
def spec_l12Inode.l1 : Nat → List ByteArray → Int → List Int → Int → Int → Int → Int → Int → ByteArray → List (S47) → Option (Int × Int × Int × ByteArray × (List (S42)) × (List (S47)) × Int × Int)
 | 0, _, _, _, _, _, _, _, _, _, _ => none
 | k + 1, x7, x8, x1000, x1001, x1002, x400000, x400001, x400002, x400003, x400005 => if x8 < (x7.length : Int) then ((spec_l01Once.f x1000 x1001 x1002 3).bind fun bt425 => (if bt425.1 = true then ((spec_l01Below.f x1000 bt425.2.1 bt425.2.2 5).bind fun bt428 => (if 0 ≤ x8 then (if x400005.length < 5864062014805 then (spec_l12Inode.l1 k x7 (wrap64 (x8 + 1)) x1000 bt428.2.1 bt428.2.2 x400000 x400001 x400002 x400003 (x400005 ++ [(⟨wrap64 (1 + bt428.1), rdOf ByteArray.empty x7 x8⟩ : S47)])) else (none)) else (none))) else (spec_l12Inode.l1 k x7 (wrap64 (x8 + 1)) x1000 bt425.2.1 bt425.2.2 x400000 x400001 x400002 x400003 x400005))) else (some (x400000, x400001, x400002, x400003, ([] : List (S42)), x400005, x1001, x1002))
end
def spec_l12Inode.f (k : Nat) (s0_0 : List Int) (s0_1 : Int) (s0_2 : Int) : Option (Int × Int × Int × ByteArray × (List (S42)) × (List (S47)) × Int × Int) := (spec_l01Below.f s0_0 s0_1 s0_2 3).bind fun bt393 => ((spec_l01Below.f s0_0 bt393.2.1 bt393.2.2 9).bind fun bt396 => (if bt393.1 = 1 then ((spec_l01PickInt.f s0_0 bt396.2.1 bt396.2.2 (([0, 1, 31, 32, 33, 64, 100, 128] : List Int))).bind fun bt403 => ((spec_l01Text.f k s0_0 bt403.2.1 bt403.2.2 8).bind fun bt406 => (spec_l12Inode.l0 k 0 0 s0_0 bt406.2.1 bt406.2.2 bt393.1 bt403.1 bt396.1 bt406.1 ([] : List (S42))))) else (if bt393.1 = 2 then (spec_l12Inode.l1 k (([(⟨#[97]⟩ : ByteArray), (⟨#[97, 98]⟩ : ByteArray), (⟨#[98]⟩ : ByteArray), (⟨#[99]⟩ : ByteArray), (⟨#[100]⟩ : ByteArray), (⟨#[120, 49]⟩ : ByteArray)] : List ByteArray)) 0 s0_0 bt396.2.1 bt396.2.2 bt393.1 0 bt396.1 (⟨#[]⟩ : ByteArray) ([] : List (S47))) else (some (bt393.1, 0, bt396.1, (⟨#[]⟩ : ByteArray), ([] : List (S42)), ([] : List (S47)), bt396.2.1, bt396.2.2)))))
theorem spec_l12Inode.mono_l : ∀ k, (∀ y0 y1 y2 y3 y4 y5 y6 y7 y8 y9, LeO (spec_l12Inode.l0 k y0 y1 y2 y3 y4 y5 y6 y7 y8 y9) (spec_l12Inode.l0 (k + 1) y0 y1 y2 y3 y4 y5 y6 y7 y8 y9)) ∧ (∀ y0 y1 y2 y3 y4 y5 y6 y7 y8 y9, LeO (spec_l12Inode.l1 k y0 y1 y2 y3 y4 y5 y6 y7 y8 y9) (spec_l12Inode.l1 (k + 1) y0 y1 y2 y3 y4 y5 y6 y7 y8 y9))
 | 0 => ⟨fun _ _ _ _ _ _ _ _ _ _ r h => by simp [spec_l12Inode.l0] at h, fun _ _ _ _ _ _ _ _ _ _ r h => by simp [spec_l12Inode.l1] at h⟩
 | k + 1 => by
  obtain ⟨ih0, ih1⟩ := spec_l12Inode.mono_l k
  refine ⟨?_, ?_⟩
  ·intro y0 y1 y2 y3 y4 y5 y6 y7 y8 y9
   unfold spec_l12Inode.l0
   exact mo_7
  ·intro y0 y1 y2 y3 y4 y5 y6 y7 y8 y9
   unfold spec_l12Inode.l1
   exact mo_7
theorem spec_l12Inode.mono : ∀ a0 a1 a2 k, LeO (spec_l12Inode.f k a0 a1 a2) (spec_l12Inode.f (k + 1) a0 a1 a2) := by
 intro a0 a1 a2 k
 obtain ⟨ih0, ih1⟩ := spec_l12Inode.mono_l k
 unfold spec_l12Inode.f
 repeat' first
   | (with_reducible exact ih0 ..)
   | (with_reducible exact ih1 ..)
   | (with_reducible exact spec_l01Text.mono ..)
   | (with_reducible exact spec_l12Rec.mono ..)
   | (with_reducible exact LeO.refl _)
   | (with_reducible exact LeO.none _)
   | (with_reducible refine LeO.ite ?_ ?_)
   | (with_reducible refine LeO.bind ?_ (fun _ => ?_))
   | exact ih0 ..
   | exact ih1 ..
   | exact spec_l01Text.mono ..
   | exact spec_l12Rec.mono ..
   | exact LeO.none _
   | refine LeO.ite ?_ ?_
   | refine LeO.bind ?_ (fun _ => ?_)
def spec_l12Inode.T21 : Bool × List (List Nat × List Nat) := (true, [([], []), ([0], [0]), ([], []), ([2], [2]), ([3], [3]), ([], []), ([], []), ([5, 6], [5, 6]), ([7], [7]), ([4, 8], [4, 8]), ([9], [9]), ([1, 10, 3], [1, 10]), ([0, 1, 2, 3, 4, 5, 6, 7, 8, 9, 10, 11], []), ([12, 11, 11, 0, 1, 2, 3, 4, 5, 6, 7, 8, 9, 10, 11], [11, 12])])
def spec_l12Inode.B21 : List Nat := [0, 1, 0, 4, 12, 0, 0, 96, 224, 508, 1020, 2047, 4095, 8191]
theorem spec_l12Inode.tab21 : rtab .any (opsOf Tryd.f62 21) = spec_l12Inode.T21 := by kernel_rfl
theorem spec_l12Inode.bits21 : waitsOk spec_l12Inode.T21.2 spec_l12Inode.B21 = true := by kernel_rfl
set_option maxHeartbeats 8000000 in
set_option maxRecDepth 100000 in
theorem spec_l12Inode.calls (k : Nat) (g : Nat) (s0_0 : List Int) (s0_1 : Int) (s0_2 : Int) (r1 : Int) (r2 : Int) (r3 : Int) (r4 : ByteArray) (r5 : List (S42)) (r6 : List (S47)) (r7 : Int) (r8 : Int) (w0 w : World) (hI : IsS83 w0 w g s0_0 s0_1 s0_2) (hB : Below w0.heap.size w0 w) (h : spec_l12Inode.f k s0_0 s0_1 s0_2 = some (r1, r2, r3, r4, r5, r6, r7, r8)) :
  Calls Tryd.prog 62 #[.pointer (some ⟨g, 0, none⟩)] w fun e w' => ∃ v4_ v5_ : Value, e = .returned (.agg #[.int .i64 r1, .int .i64 r2, .int .i64 r3, .string r4, v4_, v5_]) ∧ Kd.R k42 42 w' w.heap.size (fun _ => True) v4_ r5 ∧ Kd.R k47 47 w' w.heap.size (fun _ => True) v5_ r6 ∧ IsS83 w0 w' g s0_0 r7 r8 ∧ Below w0.heap.size w0 w' ∧ KeepBut w w' g none := by
 have hu27 := Tryd.underlying27
 have hu42 := Tryd.underlying42
 have hu47 := Tryd.underlying47
 have HI0 := Aside0.mk hI
 have HK := Aside0.mk (KeepBut.refl w g none)
 have HL := Aside0.mk hB.size
 clear hI
 have HW0 := Aside0.mk hB.size
 have HB := Aside0.mk hB
 clear hB
 unfold spec_l12Inode.f at h
 have H := h
 clear h
 obtain ⟨⟨t393, t394, t395⟩, A2, H⟩ := bd_ H
 try dsimp -simprocs only at H
 obtain ⟨⟨t396, t397, t398⟩, A3, H⟩ := bd_ H
 try dsimp -simprocs only at H
 by_cases c4 : t393 = 1
 rotate_left
 ·rw [if_neg c4] at H
  have c4b0 := beq_eq_false_iff_ne.mpr c4
  have c4b1 := bne_iff_ne.mpr c4
  by_cases c59 : t393 = 2
  rotate_left
  ·rw [if_neg c59] at H
   have c59b0 := beq_eq_false_iff_ne.mpr c59
   have c59b1 := bne_iff_ne.mpr c59
   simp only [Option.some.injEq, Prod.mk.injEq] at H
   obtain ⟨rfl, rfl, rfl, rfl, rfl, rfl, rfl, rfl⟩ := H
   go_enter Tryd.func62, Tryd.ntmps62
   go_wp2_with (first | ((with_reducible refine gate_dst (N := 2) rfl ?_); refine be_ 2 (cs := #[.int .i64 0, .int .i64 0, .int .i64 0, .string (⟨#[]⟩ : ByteArray), .slice none 0 0, .slice none 0 0]) 27 ?_; intro gb392 hg w91 hbox hb; have z_ := p_ (IsS83.below tq_8 hb) <| p_ (KeepBut.trans tq_7 (KeepBut.of_below hb g none) (.inl rfl)) <| p_ (below_step tq_14 hb) <| p_ (hbox) <| p_ ((by rw [hg]; exact (keep_size (w := w) (g := g) (row := none) tq_7) : w.heap.size ≤ gb392)) <| p_ ((Nat.le_trans HW0.out (by rw [hg]; exact (keep_size (w := w) (g := g) (row := none) tq_7) : w.heap.size ≤ gb392) : w0.heap.size ≤ gb392)) <| p_ ((by rw [hg]; exact Nat.ne_of_lt (IsS83.lt (show IsS83 w0 _ g s0_0 s0_1 s0_2 from tq_8)) : g ≠ gb392)) <| a_ ((by rw [hg]; exact Nat.ne_of_gt (IsS83.lt (show IsS83 w0 _ g s0_0 s0_1 s0_2 from tq_8)) : gb392 ≠ g)); clear HI0 HK HB; obtain ⟨HI0, HK, HB, BK392, GW392, GE392, NB0_392, NB392_0⟩ := z_; clear hb hbox hg) | ((with_reducible refine gate_callee (f := 63) rfl ?_); refine goesL_ (some 10) rfl rfl Tryd.func63 (by kernel_rfl) rfl #[.pointer (some ⟨g, 0, none⟩), .int .i64 3] rfl tq_0 ?_; (with_reducible refine (spec_l01Below.calls g s0_0 s0_1 s0_2 3 t393 t394 t395 w0 _ ?side1 ?side2 A2.out).mono ?_); (case side1 => exact tq_28); (case side2 => exact tq_29); rintro e w92 ⟨rfl, hi, hb, hk⟩; refine ⟨_, rfl, ?_⟩; have z_ := p_ (KeepBut.blk hk (g' := gb392) (o := .cells #[.int .i64 0, .int .i64 0, .int .i64 0, .string (⟨#[]⟩ : ByteArray), .slice none 0 0, .slice none 0 0] 27 (0, 0)) (kb_ BK392) NB392_0.out (by simp)) <| p_ (KeepBut.trans tq_16 hk (.inl rfl)) <| p_ (hb) <| a_ (hi); clear BK392 HK HB HI0; obtain ⟨BK392, HK, HB, HI0⟩ := z_; (try clear hb); (try clear hk); (try clear hi)) | ((with_reducible refine gate_callee (f := 63) rfl ?_); refine goesL_ (some 12) rfl rfl Tryd.func63 (by kernel_rfl) rfl #[.pointer (some ⟨g, 0, none⟩), .int .i64 9] rfl tq_0 ?_; (with_reducible refine (spec_l01Below.calls g s0_0 t394 t395 9 t396 t397 t398 w0 _ ?side1 ?side2 A3.out).mono ?_); (case side1 => exact tq_28); (case side2 => exact tq_29); rintro e w93 ⟨rfl, hi, hb, hk⟩; refine ⟨_, rfl, ?_⟩; have z_ := p_ (KeepBut.blk hk (g' := gb392) (o := .cells #[.int .i64 0, .int .i64 0, .int .i64 0, .string (⟨#[]⟩ : ByteArray), .slice none 0 0, .slice none 0 0] 27 (0, 0)) (kb_ BK392) NB392_0.out (by simp)) <| p_ (KeepBut.trans tq_16 hk (.inl rfl)) <| p_ (hb) <| a_ (hi); clear BK392 HK HB HI0; obtain ⟨BK392, HK, HB, HI0⟩ := z_; (try clear hb); (try clear hk); (try clear hi)) | ((with_reducible refine gate_dst (N := 3) rfl ?_); refine be_ 3 (cs := #[.int .i64 0, .int .i64 0, .int .i64 0, .string (⟨#[]⟩ : ByteArray), .slice none 0 0, .slice none 0 0]) 27 ?_; intro gb399 hg w94 hbox hb; have z_ := p_ (IsS83.below tq_17 hb) <| p_ (blk_below (kb_ BK392) hb) <| p_ (KeepBut.trans tq_16 (KeepBut.of_below hb g none) (.inl rfl)) <| p_ (below_step tq_59 hb) <| p_ (hbox) <| p_ ((by rw [hg]; exact (keep_size (w := w) (g := g) (row := none) tq_16) : w.heap.size ≤ gb399)) <| p_ ((Nat.le_trans HW0.out (by rw [hg]; exact (keep_size (w := w) (g := g) (row := none) tq_16) : w.heap.size ≤ gb399) : w0.heap.size ≤ gb399)) <| p_ (ltne_ hg (blk_lt (kb_ BK392))) <| p_ (gtne_ hg (blk_lt (kb_ BK392))) <| p_ ((by rw [hg]; exact Nat.ne_of_lt (IsS83.lt (show IsS83 w0 _ g s0_0 t397 t398 from tq_17)) : g ≠ gb399)) <| a_ ((by rw [hg]; exact Nat.ne_of_gt (IsS83.lt (show IsS83 w0 _ g s0_0 t397 t398 from tq_17)) : gb399 ≠ g)); clear HI0 BK392 HK HB; obtain ⟨HI0, BK392, HK, HB, BK399, GW399, GE399, NB392_399, NB399_392, NB0_399, NB399_0⟩ := z_; clear hb hbox hg; obtain ⟨n399_392, n392_399, n399_0, n0_399⟩ := an4_ NB399_392 NB392_399 NB399_0 NB0_399; obtain ⟨hcz97_0, hcz97_1, hcz97_2, hcz97_3, hcz97_4, hcz97_5⟩ := bk6_ BK399.out; obtain ⟨hfz97_0, hfz97_1, hfz97_2, hfz97_3, hfz97_4, hfz97_5⟩ := bf6_ BK399.out; obtain ⟨n392_0, n0_392⟩ := an2_ NB392_0 NB0_392; obtain ⟨hcz99_0, hcz99_1, hcz99_2, hcz99_3, hcz99_4, hcz99_5⟩ := bk6_ BK392.out; obtain ⟨hfz99_0, hfz99_1, hfz99_2, hfz99_3, hfz99_4, hfz99_5⟩ := bf6_ BK392.out))
   refine bodyPost_ret (results_cell_row rfl _ _ gb392 27 #[.int .i64 t393, .int .i64 0, .int .i64 t396, .string (⟨#[]⟩ : ByteArray), .slice none 0 0, .slice none 0 0] (0, 0) _ rfl tb_ Tryd.underlying27 rfl (by kernel_rfl)) rfl ?_
   exact ⟨_, _, tq_2, tq_10, tq_10, tq_3, tq_12, tq_6⟩
  rw [if_pos c59] at H
  have c59b0 := beq_iff_eq.mpr c59
  have c59b1 := bne_eq_false_iff_eq.mpr c59
  clear c59
  obtain ⟨y422, hy422⟩ : ∃ y_ : List ByteArray, y_ = (([(⟨#[97]⟩ : ByteArray), (⟨#[97, 98]⟩ : ByteArray), (⟨#[98]⟩ : ByteArray), (⟨#[99]⟩ : ByteArray), (⟨#[100]⟩ : ByteArray), (⟨#[120, 49]⟩ : ByteArray)] : List ByteArray)) := ⟨_, rfl⟩
  replace H : (spec_l12Inode.l1 k y422 0 s0_0 t397 t398 t393 0 t396 (⟨#[]⟩ : ByteArray) ([] : List (S47))) = some (r1, r2, r3, r4, r5, r6, r7, r8) := by first | (rw [hy422]; with_reducible exact H) | (have H2_ := (Option.bind_some _ _).symm.trans H; rw [hy422]; with_reducible exact H2_) | (have H2_ := (Option.bind_some _ _).symm.trans H; with_reducible exact H2_) | with_reducible exact H | (rw [hy422]; exact H) | exact H
  have Ny422 := Aside0.mk hy422
  clear hy422
  have H' := Aside0.mk H
  clear H
  go_enter Tryd.func62, Tryd.ntmps62
  go_wp2_with (first | ((with_reducible refine gate_dst (N := 2) rfl ?_); refine be_ 2 (cs := #[.int .i64 0, .int .i64 0, .int .i64 0, .string (⟨#[]⟩ : ByteArray), .slice none 0 0, .slice none 0 0]) 27 ?_; intro gb392 hg w60 hbox hb; have z_ := p_ (IsS83.below tq_8 hb) <| p_ (KeepBut.trans tq_7 (KeepBut.of_below hb g none) (.inl rfl)) <| p_ (below_step tq_14 hb) <| p_ (hbox) <| p_ ((by rw [hg]; exact (keep_size (w := w) (g := g) (row := none) tq_7) : w.heap.size ≤ gb392)) <| p_ ((Nat.le_trans HW0.out (by rw [hg]; exact (keep_size (w := w) (g := g) (row := none) tq_7) : w.heap.size ≤ gb392) : w0.heap.size ≤ gb392)) <| p_ ((by rw [hg]; exact Nat.ne_of_lt (IsS83.lt (show IsS83 w0 _ g s0_0 s0_1 s0_2 from tq_8)) : g ≠ gb392)) <| a_ ((by rw [hg]; exact Nat.ne_of_gt (IsS83.lt (show IsS83 w0 _ g s0_0 s0_1 s0_2 from tq_8)) : gb392 ≠ g)); clear HI0 HK HB; obtain ⟨HI0, HK, HB, BK392, GW392, GE392, NB0_392, NB392_0⟩ := z_; clear hb hbox hg) | ((with_reducible refine gate_callee (f := 63) rfl ?_); refine goesL_ (some 10) rfl rfl Tryd.func63 (by kernel_rfl) rfl #[.pointer (some ⟨g, 0, none⟩), .int .i64 3] rfl tq_0 ?_; (with_reducible refine (spec_l01Below.calls g s0_0 s0_1 s0_2 3 t393 t394 t395 w0 _ ?side1 ?side2 A2.out).mono ?_); (case side1 => exact tq_28); (case side2 => exact tq_29); rintro e w61 ⟨rfl, hi, hb, hk⟩; refine ⟨_, rfl, ?_⟩; have z_ := p_ (KeepBut.blk hk (g' := gb392) (o := .cells #[.int .i64 0, .int .i64 0, .int .i64 0, .string (⟨#[]⟩ : ByteArray), .slice none 0 0, .slice none 0 0] 27 (0, 0)) (kb_ BK392) NB392_0.out (by simp)) <| p_ (KeepBut.trans tq_16 hk (.inl rfl)) <| p_ (hb) <| a_ (hi); clear BK392 HK HB HI0; obtain ⟨BK392, HK, HB, HI0⟩ := z_; (try clear hb); (try clear hk); (try clear hi)) | ((with_reducible refine gate_callee (f := 63) rfl ?_); refine goesL_ (some 12) rfl rfl Tryd.func63 (by kernel_rfl) rfl #[.pointer (some ⟨g, 0, none⟩), .int .i64 9] rfl tq_0 ?_; (with_reducible refine (spec_l01Below.calls g s0_0 t394 t395 9 t396 t397 t398 w0 _ ?side1 ?side2 A3.out).mono ?_); (case side1 => exact tq_28); (case side2 => exact tq_29); rintro e w62 ⟨rfl, hi, hb, hk⟩; refine ⟨_, rfl, ?_⟩; have z_ := p_ (KeepBut.blk hk (g' := gb392) (o := .cells #[.int .i64 0, .int .i64 0, .int .i64 0, .string (⟨#[]⟩ : ByteArray), .slice none 0 0, .slice none 0 0] 27 (0, 0)) (kb_ BK392) NB392_0.out (by simp)) <| p_ (KeepBut.trans tq_16 hk (.inl rfl)) <| p_ (hb) <| a_ (hi); clear BK392 HK HB HI0; obtain ⟨BK392, HK, HB, HI0⟩ := z_; (try clear hb); (try clear hk); (try clear hi)) | ((with_reducible refine gate_dst (N := 3) rfl ?_); refine be_ 3 (cs := #[.int .i64 0, .int .i64 0, .int .i64 0, .string (⟨#[]⟩ : ByteArray), .slice none 0 0, .slice none 0 0]) 27 ?_; intro gb399 hg w63 hbox hb; have z_ := p_ (IsS83.below tq_17 hb) <| p_ (blk_below (kb_ BK392) hb) <| p_ (KeepBut.trans tq_16 (KeepBut.of_below hb g none) (.inl rfl)) <| p_ (below_step tq_59 hb) <| p_ (hbox) <| p_ ((by rw [hg]; exact (keep_size (w := w) (g := g) (row := none) tq_16) : w.heap.size ≤ gb399)) <| p_ ((Nat.le_trans HW0.out (by rw [hg]; exact (keep_size (w := w) (g := g) (row := none) tq_16) : w.heap.size ≤ gb399) : w0.heap.size ≤ gb399)) <| p_ (ltne_ hg (blk_lt (kb_ BK392))) <| p_ (gtne_ hg (blk_lt (kb_ BK392))) <| p_ ((by rw [hg]; exact Nat.ne_of_lt (IsS83.lt (show IsS83 w0 _ g s0_0 t397 t398 from tq_17)) : g ≠ gb399)) <| a_ ((by rw [hg]; exact Nat.ne_of_gt (IsS83.lt (show IsS83 w0 _ g s0_0 t397 t398 from tq_17)) : gb399 ≠ g)); clear HI0 BK392 HK HB; obtain ⟨HI0, BK392, HK, HB, BK399, GW399, GE399, NB392_399, NB399_392, NB0_399, NB399_0⟩ := z_; clear hb hbox hg; obtain ⟨n399_392, n392_399, n399_0, n0_399⟩ := an4_ NB399_392 NB392_399 NB399_0 NB0_399; obtain ⟨hcz66_0, hcz66_1, hcz66_2, hcz66_3, hcz66_4, hcz66_5⟩ := bk6_ BK399.out; obtain ⟨hfz66_0, hfz66_1, hfz66_2, hfz66_3, hfz66_4, hfz66_5⟩ := bf6_ BK399.out) | ((with_reducible refine gate_dst (N := 53) rfl ?_); refine Kd.R_lit Kd.string _ 9 ?hg (N := 53) ?hd (xs := ([(⟨#[97]⟩ : ByteArray), (⟨#[97, 98]⟩ : ByteArray), (⟨#[98]⟩ : ByteArray), (⟨#[99]⟩ : ByteArray), (⟨#[100]⟩ : ByteArray), (⟨#[120, 49]⟩ : ByteArray)] : List ByteArray)) (inner := [.string (⟨#[97]⟩ : ByteArray), .string (⟨#[97, 98]⟩ : ByteArray), .string (⟨#[98]⟩ : ByteArray), .string (⟨#[99]⟩ : ByteArray), .string (⟨#[100]⟩ : ByteArray), .string (⟨#[120, 49]⟩ : ByteArray)]) (ok := fun _ => True) (okp := fun _ => True) ?hr ?hp (fun _ hk => hk) trivial (Below.refl _ _) (Nat.le_refl _) (by simp) ?_; (case hd => rfl); (case hg => rfl); (case hr => first | (go_simp; done) | (go_simp; rfl)); (case hp => exact (Reps.one (show Kd.M Kd.string _ _ _ (⟨#[97]⟩ : ByteArray) [.string (⟨#[97]⟩ : ByteArray)] from rfl) (Reps.one (show Kd.M Kd.string _ _ _ (⟨#[97, 98]⟩ : ByteArray) [.string (⟨#[97, 98]⟩ : ByteArray)] from rfl) (Reps.one (show Kd.M Kd.string _ _ _ (⟨#[98]⟩ : ByteArray) [.string (⟨#[98]⟩ : ByteArray)] from rfl) (Reps.one (show Kd.M Kd.string _ _ _ (⟨#[99]⟩ : ByteArray) [.string (⟨#[99]⟩ : ByteArray)] from rfl) (Reps.one (show Kd.M Kd.string _ _ _ (⟨#[100]⟩ : ByteArray) [.string (⟨#[100]⟩ : ByteArray)] from rfl) (Reps.one (show Kd.M Kd.string _ _ _ (⟨#[120, 49]⟩ : ByteArray) [.string (⟨#[120, 49]⟩ : ByteArray)] from rfl) (Reps.none _ _)))))))); intro v423 w67 ho68 hb hg_ hnew_; clear hg_ hnew_; (first | rw [← Ny422.out] at ho68 | (simp only [Int.reduceToNat] at ho68; rw [← Ny422.out] at ho68)); have z_ := p_ (Kd.R_lower ho68 (keep_size (w := w) (g := g) (row := none) tq_6)) <| p_ (IsS83.below (show IsS83 w0 ((((((w63.setCell ⟨gb399, 0, none⟩ (.int .i64 t393)).setCell ⟨gb399, 1, none⟩ (.int .i64 0)).setCell ⟨gb399, 2, none⟩ (.int .i64 t396)).setCell ⟨gb399, 3, none⟩ (.string (⟨#[]⟩ : ByteArray))).setCell ⟨gb399, 4, none⟩ (.slice none 0 0)).setCell ⟨gb399, 5, none⟩ (.slice none 0 0)) g s0_0 t397 t398 from tq_3) hb) <| p_ (blk_below (g := gb392) (o := .cells #[.int .i64 0, .int .i64 0, .int .i64 0, .string (⟨#[]⟩ : ByteArray), .slice none 0 0, .slice none 0 0] 27 (0, 0)) tq_30 hb) <| p_ (blk_below (g := gb399) (o := .cells #[.int .i64 t393, .int .i64 0, .int .i64 t396, .string (⟨#[]⟩ : ByteArray), .slice none 0 0, .slice none 0 0] 27 (0, 0)) tq_18 hb) <| p_ (KeepBut.trans tq_6 (KeepBut.of_below hb g none) (.inl rfl)) <| a_ (below_step tq_12 hb); clear HI0 BK392 BK399 HK HB; obtain ⟨HO424, HI0, BK392, BK399, HK, HB⟩ := z_; clear hb ho68))
  go_loopg [8] k (fun kq v8 w' => ∃ (x8_1 : Int) (x1001_1 : Int) (x1002_1 : Int) (x400005_1 : List (S47)) (u400005 : Value), v8 = .int .i64 x8_1 ∧ Aside0 (spec_l12Inode.l1 kq y422 x8_1 s0_0 x1001_1 x1002_1 t393 0 t396 (⟨#[]⟩ : ByteArray) x400005_1 = some (r1, r2, r3, r4, r5, r6, r7, r8)) ∧ Aside0 (kq ≤ k) ∧ Aside0 (Kd.R Kd.string 9 w' w.heap.size (fun _ => True) v423 y422) ∧ Aside0 (Kd.R k47 47 w' w.heap.size (fun _ => True) u400005 x400005_1) ∧ Aside0 (w'.heap[gb392]? = some (.cells #[.int .i64 0, .int .i64 0, .int .i64 0, .string (⟨#[]⟩ : ByteArray), (.slice none 0 0), (.slice none 0 0)] 27 (0, 0))) ∧ Aside0 (w'.heap[gb399]? = some (.cells #[.int .i64 t393, .int .i64 0, .int .i64 t396, .string (⟨#[]⟩ : ByteArray), (.slice none 0 0), u400005] 27 (0, 0))) ∧ Aside0 (IsS83 w0 w' g s0_0 x1001_1 x1002_1) ∧ Aside0 (KeepBut w w' g none) ∧ Aside0 (Below w0.heap.size w0 w'))
  case atStart => exact ⟨(0), (t397), (t398), (([] : List (S47))), (.slice none 0 0), tq_4, H', ⟨Nat.le_refl _⟩, ⟨(raR_ HO424)⟩, ⟨tq_10⟩, ⟨(kb_ BK392)⟩, ⟨(kb_ BK399)⟩, ⟨tq_3⟩, ⟨tq_6⟩, ⟨tq_12⟩⟩
  case round =>
  clear H'
  try clear c1; try clear c2; try clear p2; try clear c3; try clear c4; try clear c4b0; try clear c4b1; try clear c5; try clear c6; try clear p6; try clear c7; try clear c8; try clear c11; try clear c12; try clear c22; try clear c22b0; try clear c24; try clear c24b0; try clear c24b1; try clear c25; try clear c26; try clear c27; try clear c31; try clear c32; try clear c33; try clear c39; try clear c40; try clear c41; try clear c45; try clear c46; try clear c47; try clear c51; try clear c53; try clear c54; try clear c56; try clear c59; try clear c59b0; try clear c59b1; try clear c62; try clear c63; try clear c64; try clear p64; try clear c65; try clear hcz13_0 hcz13_1 hcz13_2 hcz13_3 hcz13_4 hcz13_5; try clear hcz18_0 hcz18_1 hcz18_2 hcz18_3 hcz18_4 hcz18_5; try clear hcz20_0 hcz20_1 hcz20_2 hcz20_3 hcz20_4 hcz20_5; try clear hcz28_0 hcz28_1 hcz28_2 hcz28_3 hcz28_4 hcz28_5; try clear hcz34_0 hcz34_1 hcz34_2; try clear hcz35_0 hcz35_1 hcz35_2 hcz35_3 hcz35_4 hcz35_5; try clear hcz38_0 hcz38_1 hcz38_2 hcz38_3 hcz38_4 hcz38_5; try clear hcz42_0 hcz42_1 hcz42_2 hcz42_3 hcz42_4 hcz42_5; try clear hcz48_0 hcz48_1 hcz48_2; try clear hcz49_0 hcz49_1 hcz49_2 hcz49_3 hcz49_4 hcz49_5; try clear hcz52_0 hcz52_1 hcz52_2 hcz52_3 hcz52_4 hcz52_5; try clear hcz55_0 hcz55_1 hcz55_2 hcz55_3 hcz55_4 hcz55_5; try clear hcz57_0 hcz57_1 hcz57_2 hcz57_3 hcz57_4 hcz57_5; try clear hcz66_0 hcz66_1 hcz66_2 hcz66_3 hcz66_4 hcz66_5; try clear hfz13_0 hfz13_1 hfz13_2 hfz13_3 hfz13_4 hfz13_5; try clear hfz18_0 hfz18_1 hfz18_2 hfz18_3 hfz18_4 hfz18_5; try clear hfz20_0 hfz20_1 hfz20_2 hfz20_3 hfz20_4 hfz20_5; try clear hfz28_0 hfz28_1 hfz28_2 hfz28_3 hfz28_4 hfz28_5; try clear hfz34_0 hfz34_1 hfz34_2; try clear hfz35_0 hfz35_1 hfz35_2 hfz35_3 hfz35_4 hfz35_5; try clear hfz38_0 hfz38_1 hfz38_2 hfz38_3 hfz38_4 hfz38_5; try clear hfz42_0 hfz42_1 hfz42_2 hfz42_3 hfz42_4 hfz42_5; try clear hfz48_0 hfz48_1 hfz48_2; try clear hfz49_0 hfz49_1 hfz49_2 hfz49_3 hfz49_4 hfz49_5; try clear hfz52_0 hfz52_1 hfz52_2 hfz52_3 hfz52_4 hfz52_5; try clear hfz55_0 hfz55_1 hfz55_2 hfz55_3 hfz55_4 hfz55_5; try clear hfz57_0 hfz57_1 hfz57_2 hfz57_3 hfz57_4 hfz57_5; try clear hfz66_0 hfz66_1 hfz66_2 hfz66_3 hfz66_4 hfz66_5; try clear p2
  obtain ⟨x8_1, x1001_1, x1002_1, x400005_1, u400005, rfl, HA, HK1, HO_7, HO_400005, BK392, BK399, HI0, HK, HB⟩ := hrel
  cases gk with
  | zero => exact absurd HA.out (by simp [spec_l12Inode.l1])
  | succ k1 =>
  have H := HA.out
  clear HA
  simp only [spec_l12Inode.l1] at H
  by_cases c69 : x8_1 < (y422.length : Int)
  rotate_left
  ·rw [if_neg c69] at H
   have c69b0 := decide_eq_false c69
   clear c69
   simp only [Option.some.injEq, Prod.mk.injEq] at H
   obtain ⟨rfl, rfl, rfl, rfl, rfl, rfl, rfl, rfl⟩ := H
   obtain ⟨Ao84, co84, eo84⟩ := Kd.R_slice HO_7.out
   subst eo84
   obtain ⟨hcz87_0, hcz87_1, hcz87_2, hcz87_3, hcz87_4, hcz87_5⟩ := bk6_ BK399.out
   obtain ⟨hfz87_0, hfz87_1, hfz87_2, hfz87_3, hfz87_4, hfz87_5⟩ := bf6_ BK399.out
   obtain ⟨n392_0, n0_392⟩ := an2_ NB392_0 NB0_392
   obtain ⟨hcz89_0, hcz89_1, hcz89_2, hcz89_3, hcz89_4, hcz89_5⟩ := bk6_ BK392.out
   obtain ⟨hfz89_0, hfz89_1, hfz89_2, hfz89_3, hfz89_4, hfz89_5⟩ := bf6_ BK392.out
   obtain ⟨Ao90, co90, eo90⟩ := Kd.R_slice HO_400005.out
   subst eo90
   go_wp2
   refine bodyPost_ret (results_cell_row rfl _ _ gb392 27 #[.int .i64 t393, .int .i64 0, .int .i64 t396, .string (⟨#[]⟩ : ByteArray), .slice none 0 0, .slice Ao90 x400005_1.length co90] (0, 0) _ rfl tb_ Tryd.underlying27 rfl (by kernel_rfl)) rfl ?_
   exact ⟨_, _, tq_2, tq_10, (by (with_reducible repeat (first | apply Kd.R_alloc | apply Kd.R_drewN | apply Kd.R_drew)); exact Kd.R_mono (rR_ (rR_ (rR_ (rR_ (rR_ (rR_ (Kd.R_types HO_400005.out BK392.out (by decide)))))))) (fun _ hk => trivial)), tq_3, tq_12, tq_6⟩
  rw [if_pos c69] at H
  have c69b0 := decide_eq_true c69
  clear c69
  obtain ⟨⟨t425, t426, t427⟩, A70, H⟩ := bd_ H
  try dsimp -simprocs only at H
  by_cases c71 : t425 = true
  rotate_left
  ·replace c71 := Bool.eq_false_iff.mpr c71
   subst c71
   rw [if_neg nf_] at H
   have H' := Aside0.mk H
   clear H
   obtain ⟨Ao82, co82, eo82⟩ := Kd.R_slice HO_7.out
   subst eo82
   go_wp2_with (first | ((with_reducible refine gate_callee (f := 84) rfl ?_); refine goesL_ (some 61) rfl rfl Tryd.func84 (by kernel_rfl) rfl #[.pointer (some ⟨g, 0, none⟩), .int .i64 3] rfl tq_0 ?_; (with_reducible refine (spec_l01Once.calls g s0_0 x1001_1 x1002_1 3 false t426 t427 w0 _ ?side1 ?side2 A70.out).mono ?_); (case side1 => exact tq_21); (case side2 => exact tq_22); rintro e w83 ⟨rfl, hi, hb, hk⟩; refine ⟨_, rfl, ?_⟩; have z_ := p_ (Kd.R_mono (Kd.R_keep (IsS83.apart (show IsS83 w0 _ g s0_0 x1001_1 x1002_1 from tq_3) (raR_ HO_7) (by decide)) hk (fun _ h => h.2)) (fun _ h => h.1)) <| p_ (Kd.R_mono (Kd.R_keep (IsS83.apart (show IsS83 w0 _ g s0_0 x1001_1 x1002_1 from tq_3) (raR_ HO_400005) (by decide)) hk (fun _ h => h.2)) (fun _ h => h.1)) <| p_ (KeepBut.blk hk (g' := gb392) (o := .cells #[.int .i64 0, .int .i64 0, .int .i64 0, .string (⟨#[]⟩ : ByteArray), .slice none 0 0, .slice none 0 0] 27 (0, 0)) (kb_ BK392) NB392_0.out (by simp)) <| p_ (KeepBut.blk hk (g' := gb399) (o := .cells #[.int .i64 t393, .int .i64 0, .int .i64 t396, .string (⟨#[]⟩ : ByteArray), .slice none 0 0, u400005] 27 (0, 0)) (kb_ BK399) NB399_0.out (by simp)) <| p_ (KeepBut.trans tq_6 hk (.inl rfl)) <| p_ (hb) <| a_ (hi); clear HO_7 HO_400005 BK392 BK399 HK HB HI0; obtain ⟨HO_7, HO_400005, BK392, BK399, HK, HB, HI0⟩ := z_; (try clear hb); (try clear hk); (try clear hi)))
   go_roundg k1
   case measure => have := HK1.out; omega
   case rel => exact ⟨(wrap64 (x8_1 + 1)), (t426), (t427), (x400005_1), (u400005), tq_4, H', ⟨tq_56⟩, ⟨(raR_ HO_7)⟩, ⟨(raR_ HO_400005)⟩, ⟨(kb_ BK392)⟩, ⟨(kb_ BK399)⟩, ⟨tq_3⟩, ⟨tq_6⟩, ⟨tq_12⟩⟩
  subst c71
  rw [if_pos rfl] at H
  obtain ⟨⟨t428, t429, t430⟩, A72, H⟩ := bd_ H
  try dsimp -simprocs only at H
  obtain ⟨c73, H⟩ := fc_ H
  have c73b0 := decide_eq_true c73
  clear c73
  obtain ⟨c74, H⟩ := fc_ H
  have LMc74 := Aside0.mk c74
  clear c74
  obtain ⟨y432, hy432⟩ : ∃ y_ : List (S47), y_ = (x400005_1 ++ [(⟨wrap64 (1 + t428), rdOf ByteArray.empty y422 x8_1⟩ : S47)]) := ⟨_, rfl⟩
  replace H : (spec_l12Inode.l1 k1 y422 (wrap64 (x8_1 + 1)) s0_0 t429 t430 t393 0 t396 (⟨#[]⟩ : ByteArray) y432) = some (r1, r2, r3, r4, r5, r6, r7, r8) := by first | (rw [hy432]; with_reducible exact H) | (have H2_ := (Option.bind_some _ _).symm.trans H; rw [hy432]; with_reducible exact H2_) | (have H2_ := (Option.bind_some _ _).symm.trans H; with_reducible exact H2_) | with_reducible exact H | (rw [hy432]; exact H) | exact H
  have Ny432 := Aside0.mk hy432
  clear hy432
  have H' := Aside0.mk H
  clear H
  obtain ⟨Ao75, co75, eo75⟩ := Kd.R_slice HO_7.out
  subst eo75
  try go_wp2_with (first | ((with_reducible refine gate_callee (f := 84) rfl ?_); refine goesL_ (some 61) rfl rfl Tryd.func84 (by kernel_rfl) rfl #[.pointer (some ⟨g, 0, none⟩), .int .i64 3] rfl tq_0 ?_; (with_reducible refine (spec_l01Once.calls g s0_0 x1001_1 x1002_1 3 true t426 t427 w0 _ ?side1 ?side2 A70.out).mono ?_); (case side1 => exact tq_21); (case side2 => exact tq_22); rintro e w76 ⟨rfl, hi, hb, hk⟩; refine ⟨_, rfl, ?_⟩; have z_ := p_ (Kd.R_mono (Kd.R_keep (IsS83.apart (show IsS83 w0 _ g s0_0 x1001_1 x1002_1 from tq_3) (raR_ HO_7) (by decide)) hk (fun _ h => h.2)) (fun _ h => h.1)) <| p_ (Kd.R_mono (Kd.R_keep (IsS83.apart (show IsS83 w0 _ g s0_0 x1001_1 x1002_1 from tq_3) (raR_ HO_400005) (by decide)) hk (fun _ h => h.2)) (fun _ h => h.1)) <| p_ (KeepBut.blk hk (g' := gb392) (o := .cells #[.int .i64 0, .int .i64 0, .int .i64 0, .string (⟨#[]⟩ : ByteArray), .slice none 0 0, .slice none 0 0] 27 (0, 0)) (kb_ BK392) NB392_0.out (by simp)) <| p_ (KeepBut.blk hk (g' := gb399) (o := .cells #[.int .i64 t393, .int .i64 0, .int .i64 t396, .string (⟨#[]⟩ : ByteArray), .slice none 0 0, u400005] 27 (0, 0)) (kb_ BK399) NB399_0.out (by simp)) <| p_ (KeepBut.trans tq_6 hk (.inl rfl)) <| p_ (hb) <| a_ (hi); clear HO_7 HO_400005 BK392 BK399 HK HB HI0; obtain ⟨HO_7, HO_400005, BK392, BK399, HK, HB, HI0⟩ := z_; (try clear hb); (try clear hk); (try clear hi)))
  have z_ := p_ (Kd.R_drew HO_7.out) <| p_ (Kd.R_drew HO_400005.out) <| p_ (blk_drew BK392.out) <| p_ (blk_drew BK399.out) <| p_ (IsS83.drew HI0.out) <| p_ (keep_drew HK.out) <| a_ (below_drew1 HB.out)
  clear HO_7 HO_400005 BK392 BK399 HI0 HK HB
  obtain ⟨HO_7, HO_400005, BK392, BK399, HI0, HK, HB⟩ := z_
  have p431 : 0 ≤ (x8_1 : Int) := of_decide_eq_true tq_1
  have q431 : x8_1 < (y422.length : Int) := of_decide_eq_true tq_1
  obtain ⟨ad431, e431, hx431_0⟩ := Kd.at_string (Kd.R_reads' HO_7.out).2.2 x8_1 p431 q431
  cases e431
  replace p431 := eq_true p431
  replace q431 := eq_true q431
  refine start_ (n := 14) (S := fun w' => w'.cell? ⟨gb399, 0, none⟩ = some (.int .i64 t393) ∧ w'.cell? ⟨gb399, 1, none⟩ = some (.int .i64 0) ∧ w'.cell? ⟨gb399, 2, none⟩ = some (.int .i64 t396) ∧ w'.cell? ⟨gb399, 3, none⟩ = some (.string (⟨#[]⟩ : ByteArray)) ∧ w'.cell? ⟨gb399, 4, none⟩ = some (.slice none 0 0) ∧ w'.cell? ⟨gb399, 5, none⟩ = some (u400005) ∧ w'.cell? (ad431.add (x8_1).toNat) = some (.string (rdOf ByteArray.empty y422 x8_1))) (ds := [11, 13]) bq_151 (by kernel_rfl) rfl rfl (bc6_ BK399.out (hx431_0)) (fun hHeld => ?_); refine with_tabW spec_l12Inode.tab21 spec_l12Inode.bits21 (fun HT_ HW_ => ?_)
  generalize w76.drew = w77 at HO_7 HO_400005 BK392 BK399 HI0 HK HB hx431_0 hHeld ⊢
  refine yr_ 0 62 bq_152 HT_ ?_
  refine yr_ 2 64 #[true, false, true, false, false, false, false, false, false, false, false, false, false, false] HT_ ?_
  refine yr_ 5 67 #[true, false, true, false, false, true, false, false, false, false, false, false, false, false] HT_ ?_
  refine yr_ 6 68 #[true, false, true, false, false, true, true, false, false, false, false, false, false, false] HT_ ?_
  refine yr_ 7 69 #[true, false, true, false, false, true, true, true, false, false, false, false, false, false] HT_ ?_
  refine tr_ 1 63 #[true, true, true, false, false, true, true, true, false, false, false, false, false, false] HT_ HW_ hHeld ?_
  refine tr_ 8 70 #[true, true, true, false, false, true, true, true, true, false, false, false, false, false] HT_ HW_ hHeld ?_
  refine one_ (i := 3) (N := some 65) #[true, true, true, true, false, true, true, true, true, false, false, false, false, false] rfl rfl (one_of HT_.out (by kernel_rfl)) (by decide) (fun K hK => ?_)
  refine goes_ Tryd.func63 (by kernel_rfl) rfl #[.pointer (some ⟨g, 0, none⟩), .int .i64 5] (by rfl) rfl rfl tq_0 ?_
  with_reducible refine (spec_l01Below.calls g s0_0 t426 t427 5 t428 t429 t430 w0 _ ?side1 ?side2 A72.out).mono ?_
  (case side1 => exact tq_21)
  (case side2 => exact tq_22)
  rintro e w78 ⟨rfl, hi, hb, hk⟩
  have HS6_ := keep_cell hk (hHeld.2.2.2.2.2.2) (by first | (rw [add_block]; exact Kd.own_blk (IsS83.own_ne HI0.out HO_7.out (by decide))) | (show (Addr.add _ _).block ≠ _; rw [add_block]; exact Kd.own_blk (IsS83.own_ne HI0.out HO_7.out (by decide))) | exact Kd.own_blk (IsS83.own_ne HI0.out HO_7.out (by decide)))
  refine ⟨_, rfl, ?_⟩
  have z_ := p_ (Kd.R_mono (Kd.R_keep (IsS83.apart (show IsS83 w0 _ g s0_0 t426 t427 from tq_3) (raR_ HO_7) (by decide)) hk (fun _ h => h.2)) (fun _ h => h.1)) <| p_ (Kd.R_mono (Kd.R_keep (IsS83.apart (show IsS83 w0 _ g s0_0 t426 t427 from tq_3) (raR_ HO_400005) (by decide)) hk (fun _ h => h.2)) (fun _ h => h.1)) <| p_ (KeepBut.blk hk (g' := gb392) (o := .cells #[.int .i64 0, .int .i64 0, .int .i64 0, .string (⟨#[]⟩ : ByteArray), .slice none 0 0, .slice none 0 0] 27 (0, 0)) (kb_ BK392) NB392_0.out (by simp)) <| p_ (KeepBut.blk hk (g' := gb399) (o := .cells #[.int .i64 t393, .int .i64 0, .int .i64 t396, .string (⟨#[]⟩ : ByteArray), .slice none 0 0, u400005] 27 (0, 0)) (kb_ BK399) NB399_0.out (by simp)) <| p_ (KeepBut.trans tq_6 hk (.inl rfl)) <| p_ (hb) <| a_ (hi)
  clear HO_7 HO_400005 BK392 BK399 HK HB HI0
  obtain ⟨HO_7, HO_400005, BK392, BK399, HK, HB, HI0⟩ := z_
  (try clear hb)
  (try clear hk)
  (try clear hi)
  refine hK.out _ _ (bc6_ BK399.out (HS6_)) (fun hHeld => ?_)
  clear hK K
  refine nm_ (some 65) ?_
  refine yr_ 4 66 bq_153 HT_ ?_
  refine yr_ 9 71 bq_154 HT_ ?_
  refine one_ (i := 10) (N := some 72) bq_155 rfl rfl (one_of HT_.out (by kernel_rfl)) (by decide) (fun K hK => ?_)
  refine value_ (w1 := ?_) (v := ?_) (by rfl) rfl ?_ ?_
  rotate_left 2
  ·go_simp
   constructor
   ·rfl
   ·rfl
  refine hK.out _ _ ⟨(blk_cell (blk_alloc BK399.out _) 0).trans rfl, (blk_cell (blk_alloc BK399.out _) 1).trans rfl, (blk_cell (blk_alloc BK399.out _) 2).trans rfl, (blk_cell (blk_alloc BK399.out _) 3).trans rfl, (blk_cell (blk_alloc BK399.out _) 4).trans rfl, (blk_cell (blk_alloc BK399.out _) 5).trans rfl, (World.cell?_alloc_lt _ _ _ (World.block_lt_of_cell? _ _ (hHeld.2.2.2.2.2.2))).trans (hHeld.2.2.2.2.2.2)⟩ (fun hHeld => ?_)
  clear hK K
  refine nm_ (some 72) ?_
  refine last_ (i := 11) (N := some 73) bq_156 rfl rfl (one_of HT_.out (by kernel_rfl)) (by decide) (fun K hK => ?_)
  refine Kd.R_append_step k47 w.heap.size (by rfl) (.tmp 63) (.tmp 72) 25 47 (.agg #[(.int .i64 0), (.string ⟨#[]⟩)]) 24 rfl Tryd.underlying25 info47 rfl (by decide) (by omega) u400005 x400005_1 (⟨wrap64 (1 + t428), rdOf ByteArray.empty y422 x8_1⟩ : S47) [.int .i64 (wrap64 (1 + t428)), .string (rdOf ByteArray.empty y422 x8_1)] (fun _ => True) (fun _ => False) rfl rfl ?aP (fun _ hk => hk.elim) ?aF ?aO (Below.refl _ _) ?aS ?aL ?_
  (case aP => exact k47_mkM _ _ _ (⟨wrap64 (1 + t428), rdOf ByteArray.empty y422 x8_1⟩ : S47))
  (case aF => exact (fun _ _ => trivial))
  (case aO => exact (raR_ HO_400005))
  (case aS => exact (keep_size (w := w) (g := g) (row := none) tq_6))
  (case aL => have := LMc74.out; omega)
  intro v433 w79 ho hb hg hat
  rw [← Ny432.out] at ho
  have z_ := p_ (Kd.R_over' (raR_ HO_7) (Kd.R_typed (raR_ HO_400005)) (by decide) hg) <| p_ (blk_grown (g := gb392) (o := .cells #[.int .i64 0, .int .i64 0, .int .i64 0, .string (⟨#[]⟩ : ByteArray), .slice none 0 0, .slice none 0 0] 27 (0, 0)) (kb_ BK392) hg (Kd.R_ne HO_400005.out BK392.out (by decide))) <| p_ (blk_grown (g := gb399) (o := .cells #[.int .i64 t393, .int .i64 0, .int .i64 t396, .string (⟨#[]⟩ : ByteArray), .slice none 0 0, u400005] 27 (0, 0)) (kb_ BK399) hg (Kd.R_ne HO_400005.out BK399.out (by decide))) <| p_ (IsS83.grown (show IsS83 w0 _ g s0_0 t429 t430 from tq_3) hg (IsS83.own_ne HI0.out HO_400005.out (by decide))) <| p_ (below_weaken tq_12 HL.out hb) <| p_ (KeepBut.trans tq_6 (KeepBut.of_grown hg g) (Kd.R_base2 HO_400005.out)) <| a_ (ho)
  clear HO_7 BK392 BK399 HI0 HB HK HO_400005
  obtain ⟨HO_7, BK392, BK399, HI0, HB, HK, HO434⟩ := z_
  clear ho hb hg hat
  obtain ⟨Ao80, co80, eo80⟩ := Kd.R_slice HO434.out
  (first | subst eo80 | (injection eo80 with f1_ f2_ f3_; have f4_ := f1_.symm; have f5_ := f3_.symm; clear f1_ f2_ f3_; subst f4_; subst f5_))
  refine hK.out _ _ ?_
  clear hK K
  refine nm_ (some 73) ?_
  refine yr_ 12 74 bq_157 HT_ ?_
  refine last_ (i := 13) (N := none) bq_158 rfl rfl (one_of HT_.out (by kernel_rfl)) (by decide) (fun K hK => ?_)
  have hs81 : w79.cell? ⟨gb399, 5, none⟩ = some (u400005) := (blk_cell BK399.out 5).trans rfl
  have hfs81 := blk_frozen BK399.out 5
  refine skip_ (w1 := ?_) (by rfl) rfl ?_ ?_
  rotate_left
  ·go_simp
   rfl
  refine hK.out _ _ ?_
  clear hK K
  refine done_ (done_of HT_.out (by kernel_rfl)) ?_
  try go_wp2
  go_roundg k1
  case measure => have := HK1.out; omega
  case rel => exact ⟨(wrap64 (x8_1 + 1)), (t429), (t430), (y432), (.slice Ao80 y432.length co80), tq_4, H', ⟨tq_56⟩, ⟨(by (with_reducible repeat (first | apply Kd.R_alloc | apply Kd.R_drewN | apply Kd.R_drew)); exact Kd.R_mono (rR_ (Kd.R_types HO_7.out BK399.out (by decide))) (fun _ hk => trivial))⟩, ⟨(by (with_reducible repeat (first | apply Kd.R_alloc | apply Kd.R_drewN | apply Kd.R_drew)); exact Kd.R_mono (rR_ (Kd.R_types HO434.out BK399.out (by decide))) (fun _ hk => trivial))⟩, ⟨tb_⟩, ⟨tb_⟩, ⟨tq_3⟩, ⟨tq_6⟩, ⟨tq_12⟩⟩
 rw [if_pos c4] at H
 have c4b0 := beq_iff_eq.mpr c4
 have c4b1 := bne_eq_false_iff_eq.mpr c4
 clear c4
 obtain ⟨y400, hy400⟩ : ∃ y_ : List Int, y_ = (([0, 1, 31, 32, 33, 64, 100, 128] : List Int)) := ⟨_, rfl⟩
 replace H : ((spec_l01PickInt.f s0_0 t397 t398 y400).bind fun bt403 => ((spec_l01Text.f k s0_0 bt403.2.1 bt403.2.2 8).bind fun bt406 => (spec_l12Inode.l0 k 0 0 s0_0 bt406.2.1 bt406.2.2 t393 bt403.1 t396 bt406.1 ([] : List (S42))))) = some (r1, r2, r3, r4, r5, r6, r7, r8) := by first | (rw [hy400]; with_reducible exact H) | (have H2_ := (Option.bind_some _ _).symm.trans H; rw [hy400]; with_reducible exact H2_) | (have H2_ := (Option.bind_some _ _).symm.trans H; with_reducible exact H2_) | with_reducible exact H | (rw [hy400]; exact H) | exact H
 have Ny400 := Aside0.mk hy400
 clear hy400
 obtain ⟨⟨t403, t404, t405⟩, A5, H⟩ := bd_ H
 try dsimp -simprocs only at H
 obtain ⟨⟨t406, t407, t408⟩, A6, H⟩ := bd_ H
 try dsimp -simprocs only at H
 have H' := Aside0.mk H
 clear H
 go_enter Tryd.func62, Tryd.ntmps62
 go_wp2_with (first | ((with_reducible refine gate_dst (N := 2) rfl ?_); refine be_ 2 (cs := #[.int .i64 0, .int .i64 0, .int .i64 0, .string (⟨#[]⟩ : ByteArray), .slice none 0 0, .slice none 0 0]) 27 ?_; intro gb392 hg w7 hbox hb; have z_ := p_ (IsS83.below tq_8 hb) <| p_ (KeepBut.trans tq_7 (KeepBut.of_below hb g none) (.inl rfl)) <| p_ (below_step tq_14 hb) <| p_ (hbox) <| p_ ((by rw [hg]; exact (keep_size (w := w) (g := g) (row := none) tq_7) : w.heap.size ≤ gb392)) <| p_ ((Nat.le_trans HW0.out (by rw [hg]; exact (keep_size (w := w) (g := g) (row := none) tq_7) : w.heap.size ≤ gb392) : w0.heap.size ≤ gb392)) <| p_ ((by rw [hg]; exact Nat.ne_of_lt (IsS83.lt (show IsS83 w0 _ g s0_0 s0_1 s0_2 from tq_8)) : g ≠ gb392)) <| a_ ((by rw [hg]; exact Nat.ne_of_gt (IsS83.lt (show IsS83 w0 _ g s0_0 s0_1 s0_2 from tq_8)) : gb392 ≠ g)); clear HI0 HK HB; obtain ⟨HI0, HK, HB, BK392, GW392, GE392, NB0_392, NB392_0⟩ := z_; clear hb hbox hg) | ((with_reducible refine gate_callee (f := 63) rfl ?_); refine goesL_ (some 10) rfl rfl Tryd.func63 (by kernel_rfl) rfl #[.pointer (some ⟨g, 0, none⟩), .int .i64 3] rfl tq_0 ?_; (with_reducible refine (spec_l01Below.calls g s0_0 s0_1 s0_2 3 t393 t394 t395 w0 _ ?side1 ?side2 A2.out).mono ?_); (case side1 => exact tq_28); (case side2 => exact tq_29); rintro e w8 ⟨rfl, hi, hb, hk⟩; refine ⟨_, rfl, ?_⟩; have z_ := p_ (KeepBut.blk hk (g' := gb392) (o := .cells #[.int .i64 0, .int .i64 0, .int .i64 0, .string (⟨#[]⟩ : ByteArray), .slice none 0 0, .slice none 0 0] 27 (0, 0)) (kb_ BK392) NB392_0.out (by simp)) <| p_ (KeepBut.trans tq_16 hk (.inl rfl)) <| p_ (hb) <| a_ (hi); clear BK392 HK HB HI0; obtain ⟨BK392, HK, HB, HI0⟩ := z_; (try clear hb); (try clear hk); (try clear hi)) | ((with_reducible refine gate_callee (f := 63) rfl ?_); refine goesL_ (some 12) rfl rfl Tryd.func63 (by kernel_rfl) rfl #[.pointer (some ⟨g, 0, none⟩), .int .i64 9] rfl tq_0 ?_; (with_reducible refine (spec_l01Below.calls g s0_0 t394 t395 9 t396 t397 t398 w0 _ ?side1 ?side2 A3.out).mono ?_); (case side1 => exact tq_28); (case side2 => exact tq_29); rintro e w9 ⟨rfl, hi, hb, hk⟩; refine ⟨_, rfl, ?_⟩; have z_ := p_ (KeepBut.blk hk (g' := gb392) (o := .cells #[.int .i64 0, .int .i64 0, .int .i64 0, .string (⟨#[]⟩ : ByteArray), .slice none 0 0, .slice none 0 0] 27 (0, 0)) (kb_ BK392) NB392_0.out (by simp)) <| p_ (KeepBut.trans tq_16 hk (.inl rfl)) <| p_ (hb) <| a_ (hi); clear BK392 HK HB HI0; obtain ⟨BK392, HK, HB, HI0⟩ := z_; (try clear hb); (try clear hk); (try clear hi)) | ((with_reducible refine gate_dst (N := 3) rfl ?_); refine be_ 3 (cs := #[.int .i64 0, .int .i64 0, .int .i64 0, .string (⟨#[]⟩ : ByteArray), .slice none 0 0, .slice none 0 0]) 27 ?_; intro gb399 hg w10 hbox hb; have z_ := p_ (IsS83.below tq_17 hb) <| p_ (blk_below (kb_ BK392) hb) <| p_ (KeepBut.trans tq_16 (KeepBut.of_below hb g none) (.inl rfl)) <| p_ (below_step tq_59 hb) <| p_ (hbox) <| p_ ((by rw [hg]; exact (keep_size (w := w) (g := g) (row := none) tq_16) : w.heap.size ≤ gb399)) <| p_ ((Nat.le_trans HW0.out (by rw [hg]; exact (keep_size (w := w) (g := g) (row := none) tq_16) : w.heap.size ≤ gb399) : w0.heap.size ≤ gb399)) <| p_ (ltne_ hg (blk_lt (kb_ BK392))) <| p_ (gtne_ hg (blk_lt (kb_ BK392))) <| p_ ((by rw [hg]; exact Nat.ne_of_lt (IsS83.lt (show IsS83 w0 _ g s0_0 t397 t398 from tq_17)) : g ≠ gb399)) <| a_ ((by rw [hg]; exact Nat.ne_of_gt (IsS83.lt (show IsS83 w0 _ g s0_0 t397 t398 from tq_17)) : gb399 ≠ g)); clear HI0 BK392 HK HB; obtain ⟨HI0, BK392, HK, HB, BK399, GW399, GE399, NB392_399, NB399_392, NB0_399, NB399_0⟩ := z_; clear hb hbox hg; obtain ⟨n399_392, n392_399, n399_0, n0_399⟩ := an4_ NB399_392 NB392_399 NB399_0 NB0_399; obtain ⟨hcz13_0, hcz13_1, hcz13_2, hcz13_3, hcz13_4, hcz13_5⟩ := bk6_ BK399.out; obtain ⟨hfz13_0, hfz13_1, hfz13_2, hfz13_3, hfz13_4, hfz13_5⟩ := bf6_ BK399.out) | ((with_reducible refine gate_dst (N := 19) rfl ?_); refine Kd.R_lit (Kd.int .i64) _ 3 ?hg (N := 19) ?hd (xs := ([0, 1, 31, 32, 33, 64, 100, 128] : List Int)) (inner := [.int .i64 0, .int .i64 1, .int .i64 31, .int .i64 32, .int .i64 33, .int .i64 64, .int .i64 100, .int .i64 128]) (ok := fun _ => True) (okp := fun _ => True) ?hr ?hp (fun _ hk => hk) trivial (Below.refl _ _) (Nat.le_refl _) (by simp) ?_; (case hd => rfl); (case hg => rfl); (case hr => first | (go_simp; done) | (go_simp; rfl)); (case hp => exact (Reps.one (show Kd.M (Kd.int .i64) _ _ _ 0 [.int .i64 0] from rfl) (Reps.one (show Kd.M (Kd.int .i64) _ _ _ 1 [.int .i64 1] from rfl) (Reps.one (show Kd.M (Kd.int .i64) _ _ _ 31 [.int .i64 31] from rfl) (Reps.one (show Kd.M (Kd.int .i64) _ _ _ 32 [.int .i64 32] from rfl) (Reps.one (show Kd.M (Kd.int .i64) _ _ _ 33 [.int .i64 33] from rfl) (Reps.one (show Kd.M (Kd.int .i64) _ _ _ 64 [.int .i64 64] from rfl) (Reps.one (show Kd.M (Kd.int .i64) _ _ _ 100 [.int .i64 100] from rfl) (Reps.one (show Kd.M (Kd.int .i64) _ _ _ 128 [.int .i64 128] from rfl) (Reps.none _ _)))))))))); intro v401 w14 ho15 hb hg_ hnew_; clear hg_ hnew_; (first | rw [← Ny400.out] at ho15 | (simp only [Int.reduceToNat] at ho15; rw [← Ny400.out] at ho15)); have z_ := p_ (Kd.R_lower ho15 (keep_size (w := w) (g := g) (row := none) tq_6)) <| p_ (IsS83.below (show IsS83 w0 ((((((w10.setCell ⟨gb399, 0, none⟩ (.int .i64 t393)).setCell ⟨gb399, 1, none⟩ (.int .i64 0)).setCell ⟨gb399, 2, none⟩ (.int .i64 t396)).setCell ⟨gb399, 3, none⟩ (.string (⟨#[]⟩ : ByteArray))).setCell ⟨gb399, 4, none⟩ (.slice none 0 0)).setCell ⟨gb399, 5, none⟩ (.slice none 0 0)) g s0_0 t397 t398 from tq_3) hb) <| p_ (blk_below (g := gb392) (o := .cells #[.int .i64 0, .int .i64 0, .int .i64 0, .string (⟨#[]⟩ : ByteArray), .slice none 0 0, .slice none 0 0] 27 (0, 0)) tq_30 hb) <| p_ (blk_below (g := gb399) (o := .cells #[.int .i64 t393, .int .i64 0, .int .i64 t396, .string (⟨#[]⟩ : ByteArray), .slice none 0 0, .slice none 0 0] 27 (0, 0)) tq_18 hb) <| p_ (KeepBut.trans tq_6 (KeepBut.of_below hb g none) (.inl rfl)) <| a_ (below_step tq_12 hb); clear HI0 BK392 BK399 HK HB; obtain ⟨HO402, HI0, BK392, BK399, HK, HB⟩ := z_; clear hb ho15; obtain ⟨Ao16, co16, eo16⟩ := Kd.R_slice HO402.out; subst eo16) | ((with_reducible refine gate_callee (f := 72) rfl ?_); refine goesL_ (some 20) rfl rfl Tryd.func72 (by kernel_rfl) rfl #[.pointer (some ⟨g, 0, none⟩), .slice Ao16 y400.length co16] rfl tq_0 ?_; (with_reducible refine (spec_l01PickInt.calls g s0_0 t397 t398 _ _ y400 t403 t404 t405 w0 _ ?side1 ?side2 ?side3 ?side4 ?side5 A5.out).mono ?_); (case side1 => exact tq_21); (case side2 => exact tq_22); (case side3 => repeat (first | exact (Kd.R_reads' HO402.out).2.2 | (with_reducible refine Kd.C_alloc ?_ _) | (with_reducible refine Kd.C_drewN ?_ _) | (with_reducible refine Kd.C_drew ?_))); (case side4 => exact (Kd.R_reads' HO402.out).2.1); (case side5 => exact far_slice (IsS83.own_ne HI0.out HO402.out (by decide))); rintro e w17 ⟨rfl, hi, hb, hk⟩; refine ⟨_, rfl, ?_⟩; have z_ := p_ (KeepBut.blk hk (g' := gb392) (o := .cells #[.int .i64 0, .int .i64 0, .int .i64 0, .string (⟨#[]⟩ : ByteArray), .slice none 0 0, .slice none 0 0] 27 (0, 0)) (kb_ BK392) NB392_0.out (by simp)) <| p_ (KeepBut.blk hk (g' := gb399) (o := .cells #[.int .i64 t393, .int .i64 0, .int .i64 t396, .string (⟨#[]⟩ : ByteArray), .slice none 0 0, .slice none 0 0] 27 (0, 0)) (kb_ BK399) NB399_0.out (by simp)) <| p_ (Kd.R_mono (Kd.R_keep (IsS83.apart (show IsS83 w0 _ g s0_0 t397 t398 from tq_3) (raR_ HO402) (by decide)) hk (fun _ h => h.2)) (fun _ h => h.1)) <| p_ (KeepBut.trans tq_6 hk (.inl rfl)) <| p_ (hb) <| a_ (hi); clear BK392 BK399 HO402 HK HB HI0; obtain ⟨BK392, BK399, HO402, HK, HB, HI0⟩ := z_; (try clear hb); (try clear hk); (try clear hi); obtain ⟨hcz18_0, hcz18_1, hcz18_2, hcz18_3, hcz18_4, hcz18_5⟩ := bk6_ BK399.out; obtain ⟨hfz18_0, hfz18_1, hfz18_2, hfz18_3, hfz18_4, hfz18_5⟩ := bf6_ BK399.out) | ((with_reducible refine gate_callee (f := 75) rfl ?_); refine goesL_ (some 23) rfl rfl Tryd.func75 (by kernel_rfl) rfl #[.pointer (some ⟨g, 0, none⟩), .int .i64 8] rfl tq_0 ?_; (with_reducible refine (spec_l01Text.calls k g s0_0 t404 t405 8 t406 t407 t408 w0 _ ?side1 ?side2 A6.out).mono ?_); (case side1 => exact tq_21); (case side2 => exact tq_22); rintro e w19 ⟨rfl, hi, hb, hk⟩; refine ⟨_, rfl, ?_⟩; have z_ := p_ (KeepBut.blk hk (g' := gb392) (o := .cells #[.int .i64 0, .int .i64 0, .int .i64 0, .string (⟨#[]⟩ : ByteArray), .slice none 0 0, .slice none 0 0] 27 (0, 0)) (by (with_reducible repeat (first | refine blk_drewN ?_ _ | refine blk_drew ?_ | refine blk_alloc ?_ _)); refine blk_far ?_ NB392_399.out _; (with_reducible repeat (first | refine blk_drewN ?_ _ | refine blk_drew ?_ | refine blk_alloc ?_ _)); exact BK392.out) NB392_0.out (by simp)) <| p_ (KeepBut.blk hk (g' := gb399) (o := .cells #[.int .i64 t393, .int .i64 t403, .int .i64 t396, .string (⟨#[]⟩ : ByteArray), .slice none 0 0, .slice none 0 0] 27 (0, 0)) (by (with_reducible repeat (first | refine blk_drewN ?_ _ | refine blk_drew ?_ | refine blk_alloc ?_ _)); refine blk_put (cs := #[.int .i64 t393, .int .i64 0, .int .i64 t396, .string (⟨#[]⟩ : ByteArray), .slice none 0 0, .slice none 0 0]) ?_ 1 _ rfl; (with_reducible repeat (first | refine blk_drewN ?_ _ | refine blk_drew ?_ | refine blk_alloc ?_ _)); exact BK399.out) NB399_0.out (by simp)) <| p_ (Kd.R_mono (Kd.R_keep (IsS83.apart (show IsS83 w0 _ g s0_0 t404 t405 from tq_3) (by (with_reducible repeat (first | apply Kd.R_alloc | apply Kd.R_drewN | apply Kd.R_drew)); exact (Kd.R_mono (rR_ (Kd.R_types HO402.out BK399.out (by decide))) (fun _ h_ => h_.1))) (by decide)) hk (fun _ h => h.2)) (fun _ h => h.1)) <| p_ (KeepBut.trans tq_6 hk (.inl rfl)) <| p_ (hb) <| a_ (hi); clear BK392 BK399 HO402 HK HB HI0; obtain ⟨BK392, BK399, HO402, HK, HB, HI0⟩ := z_; (try clear hb); (try clear hk); (try clear hi); obtain ⟨hcz20_0, hcz20_1, hcz20_2, hcz20_3, hcz20_4, hcz20_5⟩ := bk6_ BK399.out; obtain ⟨hfz20_0, hfz20_1, hfz20_2, hfz20_3, hfz20_4, hfz20_5⟩ := bf6_ BK399.out))
 go_loopg [4, 5] k (fun kq v4 v5 w' => ∃ (x4_1 : Int) (x5_1 : Int) (x1001_1 : Int) (x1002_1 : Int) (x400004_1 : List (S42)) (u400004 : Value), v4 = .int .i64 x4_1 ∧ v5 = .int .i64 x5_1 ∧ Aside0 (spec_l12Inode.l0 kq x4_1 x5_1 s0_0 x1001_1 x1002_1 t393 t403 t396 t406 x400004_1 = some (r1, r2, r3, r4, r5, r6, r7, r8)) ∧ Aside0 (kq ≤ k) ∧ Aside0 (Kd.R k42 42 w' w.heap.size (fun _ => True) u400004 x400004_1) ∧ Aside0 (w'.heap[gb392]? = some (.cells #[.int .i64 0, .int .i64 0, .int .i64 0, .string (⟨#[]⟩ : ByteArray), (.slice none 0 0), (.slice none 0 0)] 27 (0, 0))) ∧ Aside0 (w'.heap[gb399]? = some (.cells #[.int .i64 t393, .int .i64 t403, .int .i64 t396, .string t406, u400004, (.slice none 0 0)] 27 (0, 0))) ∧ Aside0 (IsS83 w0 w' g s0_0 x1001_1 x1002_1) ∧ Aside0 (KeepBut w w' g none) ∧ Aside0 (Below w0.heap.size w0 w'))
 case atStart => exact ⟨(0), (0), (t407), (t408), (([] : List (S42))), (.slice none 0 0), tq_4, tq_4, H', ⟨Nat.le_refl _⟩, ⟨tq_10⟩, ⟨tb_⟩, ⟨tb_⟩, ⟨tq_3⟩, ⟨tq_6⟩, ⟨tq_12⟩⟩
 case round =>
 clear H'
 try clear c1; try clear p2; try clear c4; try clear c4b0; try clear c4b1; try clear c6; try clear c7; try clear c11; try clear c12; try clear hcz13_0 hcz13_1 hcz13_2 hcz13_3 hcz13_4 hcz13_5; try clear hcz18_0 hcz18_1 hcz18_2 hcz18_3 hcz18_4 hcz18_5; try clear hcz20_0 hcz20_1 hcz20_2 hcz20_3 hcz20_4 hcz20_5; try clear hfz13_0 hfz13_1 hfz13_2 hfz13_3 hfz13_4 hfz13_5; try clear hfz18_0 hfz18_1 hfz18_2 hfz18_3 hfz18_4 hfz18_5; try clear hfz20_0 hfz20_1 hfz20_2 hfz20_3 hfz20_4 hfz20_5
 obtain ⟨x4_1, x5_1, x1001_1, x1002_1, x400004_1, u400004, rfl, rfl, HA, HK1, HO_400004, BK392, BK399, HI0, HK, HB⟩ := hrel
 cases gk with
 | zero => exact absurd HA.out (by simp [spec_l12Inode.l0])
 | succ k1 =>
 have H := HA.out
 clear HA
 simp only [spec_l12Inode.l0] at H
 obtain ⟨t409, A21, H⟩ := bd_ H
 by_cases c22 : x5_1 < t409
 rotate_left
 ·rw [if_neg c22] at H
  have c22b0 := decide_eq_false c22
  clear c22
  simp only [Option.some.injEq, Prod.mk.injEq] at H
  obtain ⟨rfl, rfl, rfl, rfl, rfl, rfl, rfl, rfl⟩ := H
  obtain ⟨hcz55_0, hcz55_1, hcz55_2, hcz55_3, hcz55_4, hcz55_5⟩ := bk6_ BK399.out
  obtain ⟨hfz55_0, hfz55_1, hfz55_2, hfz55_3, hfz55_4, hfz55_5⟩ := bf6_ BK399.out
  go_wp2_with (first | ((with_reducible refine gate_callee (f := 51) rfl ?_); refine goesL_ (some 28) rfl rfl Tryd.func51 (by kernel_rfl) rfl #[.int .i64 t403] rfl tq_0 ?_; (with_reducible refine (spec_PagesFor.calls t403 t409 _ A21.out).mono ?_); rintro e w' ⟨rfl, ⟨nd, rfl⟩⟩; refine ⟨_, rfl, ?_⟩; (try (rw [drewN_self wr]; generalize hq_ : World.drewN wr _ = wr; have z_ := q_ (⟨(by rw [← hq_]; exact (raR_ HO_400004))⟩ : Aside0 (Kd.R k42 42 wr w.heap.size (fun k_ => True) u400004 x400004_1)) <| q_ (⟨(by rw [← hq_]; exact (kb_ BK392))⟩ : Aside0 (wr.heap[gb392]? = some (.cells #[.int .i64 0, .int .i64 0, .int .i64 0, .string (⟨#[]⟩ : ByteArray), .slice none 0 0, .slice none 0 0] 27 (0, 0)))) <| q_ (⟨(by rw [← hq_]; exact (kb_ BK399))⟩ : Aside0 (wr.heap[gb399]? = some (.cells #[.int .i64 t393, .int .i64 t403, .int .i64 t396, .string t406, u400004, .slice none 0 0] 27 (0, 0)))) <| q_ (⟨(by rw [← hq_]; exact tq_3)⟩ : Aside0 (IsS83 w0 wr g s0_0 x1001_1 x1002_1)) <| q_ (⟨(by rw [← hq_]; exact tq_6)⟩ : Aside0 (KeepBut w wr g none)) <| (⟨(by rw [← hq_]; exact tq_12)⟩ : Aside0 (Below w0.heap.size w0 wr)); clear HO_400004 BK392 BK399 HI0 HK HB hq_; obtain ⟨HO_400004, BK392, BK399, HI0, HK, HB⟩ := z_)); obtain ⟨hcz55_0, hcz55_1, hcz55_2, hcz55_3, hcz55_4, hcz55_5⟩ := bk6_ BK399.out; obtain ⟨hfz55_0, hfz55_1, hfz55_2, hfz55_3, hfz55_4, hfz55_5⟩ := bf6_ BK399.out; obtain ⟨n392_0, n0_392⟩ := an2_ NB392_0 NB0_392; obtain ⟨hcz57_0, hcz57_1, hcz57_2, hcz57_3, hcz57_4, hcz57_5⟩ := bk6_ BK392.out; obtain ⟨hfz57_0, hfz57_1, hfz57_2, hfz57_3, hfz57_4, hfz57_5⟩ := bf6_ BK392.out; obtain ⟨Ao58, co58, eo58⟩ := Kd.R_slice HO_400004.out; subst eo58))
  refine bodyPost_ret (results_cell_row rfl _ _ gb392 27 #[.int .i64 t393, .int .i64 t403, .int .i64 t396, .string t406, .slice Ao58 x400004_1.length co58, .slice none 0 0] (0, 0) _ rfl tb_ Tryd.underlying27 rfl (by kernel_rfl)) rfl ?_
  exact ⟨_, _, tq_2, (by (with_reducible repeat (first | apply Kd.R_alloc | apply Kd.R_drewN | apply Kd.R_drew)); exact Kd.R_mono (rR_ (rR_ (rR_ (rR_ (rR_ (rR_ (Kd.R_types HO_400004.out BK392.out (by decide)))))))) (fun _ hk => trivial)), tq_10, tq_3, tq_12, tq_6⟩
 rw [if_pos c22] at H
 have c22b0 := decide_eq_true c22
 clear c22
 obtain ⟨⟨t410, t411, t412, t413, t414⟩, A23, H⟩ := bd_ H
 try dsimp -simprocs only at H
 by_cases c24 : x5_1 = 0
 rotate_left
 ·rw [if_neg c24] at H
  have c24b0 := beq_eq_false_iff_ne.mpr c24
  have c24b1 := bne_iff_ne.mpr c24
  obtain ⟨c39, H⟩ := fc_ H
  have LMc39 := Aside0.mk c39
  clear c39
  obtain ⟨y419, hy419⟩ : ∃ y_ : List (S42), y_ = (x400004_1 ++ [(⟨wrap64 (1 + (Int.tmod (wrap64 ((wrap64 (3 * x5_1)) + x4_1)) 12)), t411, t412⟩ : S42)]) := ⟨_, rfl⟩
  replace H : (spec_l12Inode.l0 k1 x4_1 (wrap64 (x5_1 + 1)) s0_0 t413 t414 t393 t403 t396 t406 y419) = some (r1, r2, r3, r4, r5, r6, r7, r8) := by first | (rw [hy419]; with_reducible exact H) | (have H2_ := (Option.bind_some _ _).symm.trans H; rw [hy419]; with_reducible exact H2_) | (have H2_ := (Option.bind_some _ _).symm.trans H; with_reducible exact H2_) | with_reducible exact H | (rw [hy419]; exact H) | exact H
  have Ny419 := Aside0.mk hy419
  clear hy419
  have H' := Aside0.mk H
  clear H
  obtain ⟨hcz42_0, hcz42_1, hcz42_2, hcz42_3, hcz42_4, hcz42_5⟩ := bk6_ BK399.out
  obtain ⟨hfz42_0, hfz42_1, hfz42_2, hfz42_3, hfz42_4, hfz42_5⟩ := bf6_ BK399.out
  go_wp2_with (first | ((with_reducible refine gate_callee (f := 51) rfl ?_); refine goesL_ (some 28) rfl rfl Tryd.func51 (by kernel_rfl) rfl #[.int .i64 t403] rfl tq_0 ?_; (with_reducible refine (spec_PagesFor.calls t403 t409 _ A21.out).mono ?_); rintro e w' ⟨rfl, ⟨nd, rfl⟩⟩; refine ⟨_, rfl, ?_⟩; (try (rw [drewN_self wr]; generalize hq_ : World.drewN wr _ = wr; have z_ := q_ (⟨(by rw [← hq_]; exact (raR_ HO_400004))⟩ : Aside0 (Kd.R k42 42 wr w.heap.size (fun k_ => True) u400004 x400004_1)) <| q_ (⟨(by rw [← hq_]; exact (kb_ BK392))⟩ : Aside0 (wr.heap[gb392]? = some (.cells #[.int .i64 0, .int .i64 0, .int .i64 0, .string (⟨#[]⟩ : ByteArray), .slice none 0 0, .slice none 0 0] 27 (0, 0)))) <| q_ (⟨(by rw [← hq_]; exact (kb_ BK399))⟩ : Aside0 (wr.heap[gb399]? = some (.cells #[.int .i64 t393, .int .i64 t403, .int .i64 t396, .string t406, u400004, .slice none 0 0] 27 (0, 0)))) <| q_ (⟨(by rw [← hq_]; exact tq_3)⟩ : Aside0 (IsS83 w0 wr g s0_0 x1001_1 x1002_1)) <| q_ (⟨(by rw [← hq_]; exact tq_6)⟩ : Aside0 (KeepBut w wr g none)) <| (⟨(by rw [← hq_]; exact tq_12)⟩ : Aside0 (Below w0.heap.size w0 wr)); clear HO_400004 BK392 BK399 HI0 HK HB hq_; obtain ⟨HO_400004, BK392, BK399, HI0, HK, HB⟩ := z_)); obtain ⟨hcz42_0, hcz42_1, hcz42_2, hcz42_3, hcz42_4, hcz42_5⟩ := bk6_ BK399.out; obtain ⟨hfz42_0, hfz42_1, hfz42_2, hfz42_3, hfz42_4, hfz42_5⟩ := bf6_ BK399.out) | ((with_reducible refine gate_callee (f := 83) rfl ?_); refine goesL_ (some 33) rfl rfl Tryd.func83 (by kernel_rfl) rfl #[.pointer (some ⟨g, 0, none⟩)] rfl tq_0 ?_; (with_reducible refine (spec_l12Rec.calls k1 g s0_0 x1001_1 x1002_1 t410 t411 t412 t413 t414 w0 _ ?side1 ?side2 A23.out).mono ?_); (case side1 => exact tq_21); (case side2 => exact tq_22); rintro e w43 ⟨rfl, hi, hb, hk⟩; refine ⟨_, rfl, ?_⟩; have z_ := p_ (Kd.R_mono (Kd.R_keep (IsS83.apart (show IsS83 w0 _ g s0_0 x1001_1 x1002_1 from tq_3) (raR_ HO_400004) (by decide)) hk (fun _ h => h.2)) (fun _ h => h.1)) <| p_ (KeepBut.blk hk (g' := gb392) (o := .cells #[.int .i64 0, .int .i64 0, .int .i64 0, .string (⟨#[]⟩ : ByteArray), .slice none 0 0, .slice none 0 0] 27 (0, 0)) (kb_ BK392) NB392_0.out (by simp)) <| p_ (KeepBut.blk hk (g' := gb399) (o := .cells #[.int .i64 t393, .int .i64 t403, .int .i64 t396, .string t406, u400004, .slice none 0 0] 27 (0, 0)) (kb_ BK399) NB399_0.out (by simp)) <| p_ (KeepBut.trans tq_6 hk (.inl rfl)) <| p_ (hb) <| a_ (hi); clear HO_400004 BK392 BK399 HK HB HI0; obtain ⟨HO_400004, BK392, BK399, HK, HB, HI0⟩ := z_; (try clear hb); (try clear hk); (try clear hi)) | ((with_reducible refine gate_dst (N := 6) rfl ?_); refine be_ 6 (cs := #[.int .i64 0, .int .i64 0, .string (⟨#[]⟩ : ByteArray)]) 42 ?_; intro gb415 hg w44 hbox hb; have z_ := p_ (Kd.R_below (Kd.R_elderB (raR_ HO_400004) gb415 (Nat.le_of_eq hg.symm)) hb) <| p_ (blk_below (kb_ BK392) hb) <| p_ (blk_below (kb_ BK399) hb) <| p_ (IsS83.below tq_3 hb) <| p_ (KeepBut.trans tq_6 (KeepBut.of_below hb g none) (.inl rfl)) <| p_ (below_step tq_12 hb) <| p_ (hbox) <| p_ ((by rw [hg]; exact (keep_size (w := w) (g := g) (row := none) tq_6) : w.heap.size ≤ gb415)) <| p_ ((Nat.le_trans HW0.out (by rw [hg]; exact (keep_size (w := w) (g := g) (row := none) tq_6) : w.heap.size ≤ gb415) : w0.heap.size ≤ gb415)) <| p_ (ltne_ hg (blk_lt (kb_ BK392))) <| p_ (gtne_ hg (blk_lt (kb_ BK392))) <| p_ (ltne_ hg (blk_lt (kb_ BK399))) <| p_ (gtne_ hg (blk_lt (kb_ BK399))) <| p_ ((by rw [hg]; exact Nat.ne_of_lt (IsS83.lt (show IsS83 w0 _ g s0_0 t413 t414 from tq_3)) : g ≠ gb415)) <| a_ ((by rw [hg]; exact Nat.ne_of_gt (IsS83.lt (show IsS83 w0 _ g s0_0 t413 t414 from tq_3)) : gb415 ≠ g)); clear HO_400004 BK392 BK399 HI0 HK HB; obtain ⟨HO_400004, BK392, BK399, HI0, HK, HB, BK415, GW415, GE415, NB392_415, NB415_392, NB399_415, NB415_399, NB0_415, NB415_0⟩ := z_; clear hb hbox hg; obtain ⟨n415_392, n392_415, n415_399, n399_415, n415_0, n0_415⟩ := an6_ NB415_392 NB392_415 NB415_399 NB399_415 NB415_0 NB0_415; obtain ⟨hcz48_0, hcz48_1, hcz48_2⟩ := bk3_ BK415.out; obtain ⟨hfz48_0, hfz48_1, hfz48_2⟩ := bf3_ BK415.out; obtain ⟨hcz49_0, hcz49_1, hcz49_2, hcz49_3, hcz49_4, hcz49_5⟩ := bk6_ BK399.out; obtain ⟨hfz49_0, hfz49_1, hfz49_2, hfz49_3, hfz49_4, hfz49_5⟩ := bf6_ BK399.out) | ((with_reducible refine gate_builtin (b := .append) (xs := #[.tmp 46, .tmp 48]) rfl ?_); at_builtin; refine Kd.R_append k42 w.heap.size rfl (.tmp 46) (.tmp 48) 24 42 (.agg #[(.int .i64 0), (.int .i64 0), (.string ⟨#[]⟩)]) 32 rfl Tryd.underlying24 info42 rfl (by decide) (by omega) u400004 x400004_1 (⟨wrap64 (1 + (Int.tmod (wrap64 ((wrap64 (3 * x5_1)) + x4_1)) 12)), t411, t412⟩ : S42) [.int .i64 (wrap64 (1 + (Int.tmod (wrap64 ((wrap64 (3 * x5_1)) + x4_1)) 12))), .int .i64 t411, .string t412] (fun k_ => k_ ≠ gb415) (fun _ => False) rfl (by first | (go_simp; done) | (go_simp; rfl)) ?aP (fun _ hk => hk.elim) ?aF ?aO (Below.refl _ _) ?aS ?aL ?_; (case aP => exact k42_mkM _ _ _ (⟨wrap64 (1 + (Int.tmod (wrap64 ((wrap64 (3 * x5_1)) + x4_1)) 12)), t411, t412⟩ : S42)); (case aF => exact (fun k_ hk => Kd.freshB (g := gb415) (o := .cells #[.int .i64 (wrap64 (1 + (Int.tmod (wrap64 ((wrap64 (3 * x5_1)) + x4_1)) 12))), .int .i64 t411, .string t412] 42 (0, 0)) tb_ k_ hk)); (case aO => exact tq_72); (case aS => exact (keep_size (w := w) (g := g) (row := none) tq_23)); (case aL => have := LMc39.out; omega); intro v420 w50 ho hb hg hat; rw [← Ny419.out] at ho; have z_ := p_ (blk_grown (g := gb392) (o := .cells #[.int .i64 0, .int .i64 0, .int .i64 0, .string (⟨#[]⟩ : ByteArray), .slice none 0 0, .slice none 0 0] 27 (0, 0)) tq_40 hg (Kd.R_ne HO_400004.out BK392.out (by decide))) <| p_ (blk_grown (g := gb399) (o := .cells #[.int .i64 t393, .int .i64 t403, .int .i64 t396, .string t406, u400004, .slice none 0 0] 27 (0, 0)) tq_39 hg (Kd.R_ne HO_400004.out BK399.out (by decide))) <| p_ (IsS83.grown (show IsS83 w0 _ g s0_0 t413 t414 from tq_32) hg (IsS83.own_ne HI0.out HO_400004.out (by decide))) <| p_ (blk_grown (g := gb415) (o := .cells #[.int .i64 (wrap64 (1 + (Int.tmod (wrap64 ((wrap64 (3 * x5_1)) + x4_1)) 12))), .int .i64 t411, .string t412] 42 (0, 0)) tq_31 hg (Kd.R_away HO_400004.out (fun _ hk => hk.2))) <| p_ (below_weaken tq_34 HL.out hb) <| p_ (KeepBut.trans tq_23 (KeepBut.of_grown hg g) (Kd.R_base2 HO_400004.out)) <| a_ (ho); clear BK392 BK399 HI0 BK415 HB HK HO_400004; obtain ⟨BK392, BK399, HI0, BK415, HB, HK, HO421⟩ := z_; clear ho hb hg hat; obtain ⟨Ao51, co51, eo51⟩ := Kd.R_slice HO421.out; subst eo51; obtain ⟨hcz52_0, hcz52_1, hcz52_2, hcz52_3, hcz52_4, hcz52_5⟩ := bk6_ BK399.out; obtain ⟨hfz52_0, hfz52_1, hfz52_2, hfz52_3, hfz52_4, hfz52_5⟩ := bf6_ BK399.out))
  go_roundg k1
  case measure => have := HK1.out; omega
  case rel => exact ⟨(x4_1), (wrap64 (x5_1 + 1)), (t413), (t414), (y419), (.slice Ao51 y419.length co51), tq_4, tq_4, H', ⟨tq_56⟩, ⟨(by (with_reducible repeat (first | apply Kd.R_alloc | apply Kd.R_drewN | apply Kd.R_drew)); exact Kd.R_mono (rR_ (Kd.R_types HO421.out BK399.out (by decide))) (fun _ hk => trivial))⟩, ⟨tb_⟩, ⟨tb_⟩, ⟨tq_32⟩, ⟨tq_23⟩, ⟨tq_34⟩⟩
 rw [if_pos c24] at H
 have c24b0 := beq_iff_eq.mpr c24
 have c24b1 := bne_eq_false_iff_eq.mpr c24
 clear c24
 obtain ⟨c25, H⟩ := fc_ H
 have LMc25 := Aside0.mk c25
 clear c25
 obtain ⟨y416, hy416⟩ : ∃ y_ : List (S42), y_ = (x400004_1 ++ [(⟨wrap64 (1 + (Int.tmod (wrap64 ((wrap64 (3 * x5_1)) + t410)) 12)), t411, t412⟩ : S42)]) := ⟨_, rfl⟩
 replace H : (spec_l12Inode.l0 k1 t410 (wrap64 (x5_1 + 1)) s0_0 t413 t414 t393 t403 t396 t406 y416) = some (r1, r2, r3, r4, r5, r6, r7, r8) := by first | (rw [hy416]; with_reducible exact H) | (have H2_ := (Option.bind_some _ _).symm.trans H; rw [hy416]; with_reducible exact H2_) | (have H2_ := (Option.bind_some _ _).symm.trans H; with_reducible exact H2_) | with_reducible exact H | (rw [hy416]; exact H) | exact H
 have Ny416 := Aside0.mk hy416
 clear hy416
 have H' := Aside0.mk H
 clear H
 obtain ⟨hcz28_0, hcz28_1, hcz28_2, hcz28_3, hcz28_4, hcz28_5⟩ := bk6_ BK399.out
 obtain ⟨hfz28_0, hfz28_1, hfz28_2, hfz28_3, hfz28_4, hfz28_5⟩ := bf6_ BK399.out
 go_wp2_with (first | ((with_reducible refine gate_callee (f := 51) rfl ?_); refine goesL_ (some 28) rfl rfl Tryd.func51 (by kernel_rfl) rfl #[.int .i64 t403] rfl tq_0 ?_; (with_reducible refine (spec_PagesFor.calls t403 t409 _ A21.out).mono ?_); rintro e w' ⟨rfl, ⟨nd, rfl⟩⟩; refine ⟨_, rfl, ?_⟩; (try (rw [drewN_self wr]; generalize hq_ : World.drewN wr _ = wr; have z_ := q_ (⟨(by rw [← hq_]; exact (raR_ HO_400004))⟩ : Aside0 (Kd.R k42 42 wr w.heap.size (fun k_ => True) u400004 x400004_1)) <| q_ (⟨(by rw [← hq_]; exact (kb_ BK392))⟩ : Aside0 (wr.heap[gb392]? = some (.cells #[.int .i64 0, .int .i64 0, .int .i64 0, .string (⟨#[]⟩ : ByteArray), .slice none 0 0, .slice none 0 0] 27 (0, 0)))) <| q_ (⟨(by rw [← hq_]; exact (kb_ BK399))⟩ : Aside0 (wr.heap[gb399]? = some (.cells #[.int .i64 t393, .int .i64 t403, .int .i64 t396, .string t406, u400004, .slice none 0 0] 27 (0, 0)))) <| q_ (⟨(by rw [← hq_]; exact tq_3)⟩ : Aside0 (IsS83 w0 wr g s0_0 x1001_1 x1002_1)) <| q_ (⟨(by rw [← hq_]; exact tq_6)⟩ : Aside0 (KeepBut w wr g none)) <| (⟨(by rw [← hq_]; exact tq_12)⟩ : Aside0 (Below w0.heap.size w0 wr)); clear HO_400004 BK392 BK399 HI0 HK HB hq_; obtain ⟨HO_400004, BK392, BK399, HI0, HK, HB⟩ := z_)); obtain ⟨hcz28_0, hcz28_1, hcz28_2, hcz28_3, hcz28_4, hcz28_5⟩ := bk6_ BK399.out; obtain ⟨hfz28_0, hfz28_1, hfz28_2, hfz28_3, hfz28_4, hfz28_5⟩ := bf6_ BK399.out) | ((with_reducible refine gate_callee (f := 83) rfl ?_); refine goesL_ (some 33) rfl rfl Tryd.func83 (by kernel_rfl) rfl #[.pointer (some ⟨g, 0, none⟩)] rfl tq_0 ?_; (with_reducible refine (spec_l12Rec.calls k1 g s0_0 x1001_1 x1002_1 t410 t411 t412 t413 t414 w0 _ ?side1 ?side2 A23.out).mono ?_); (case side1 => exact tq_21); (case side2 => exact tq_22); rintro e w29 ⟨rfl, hi, hb, hk⟩; refine ⟨_, rfl, ?_⟩; have z_ := p_ (Kd.R_mono (Kd.R_keep (IsS83.apart (show IsS83 w0 _ g s0_0 x1001_1 x1002_1 from tq_3) (raR_ HO_400004) (by decide)) hk (fun _ h => h.2)) (fun _ h => h.1)) <| p_ (KeepBut.blk hk (g' := gb392) (o := .cells #[.int .i64 0, .int .i64 0, .int .i64 0, .string (⟨#[]⟩ : ByteArray), .slice none 0 0, .slice none 0 0] 27 (0, 0)) (kb_ BK392) NB392_0.out (by simp)) <| p_ (KeepBut.blk hk (g' := gb399) (o := .cells #[.int .i64 t393, .int .i64 t403, .int .i64 t396, .string t406, u400004, .slice none 0 0] 27 (0, 0)) (kb_ BK399) NB399_0.out (by simp)) <| p_ (KeepBut.trans tq_6 hk (.inl rfl)) <| p_ (hb) <| a_ (hi); clear HO_400004 BK392 BK399 HK HB HI0; obtain ⟨HO_400004, BK392, BK399, HK, HB, HI0⟩ := z_; (try clear hb); (try clear hk); (try clear hi)) | ((with_reducible refine gate_dst (N := 6) rfl ?_); refine be_ 6 (cs := #[.int .i64 0, .int .i64 0, .string (⟨#[]⟩ : ByteArray)]) 42 ?_; intro gb415 hg w30 hbox hb; have z_ := p_ (Kd.R_below (Kd.R_elderB (raR_ HO_400004) gb415 (Nat.le_of_eq hg.symm)) hb) <| p_ (blk_below (kb_ BK392) hb) <| p_ (blk_below (kb_ BK399) hb) <| p_ (IsS83.below tq_3 hb) <| p_ (KeepBut.trans tq_6 (KeepBut.of_below hb g none) (.inl rfl)) <| p_ (below_step tq_12 hb) <| p_ (hbox) <| p_ ((by rw [hg]; exact (keep_size (w := w) (g := g) (row := none) tq_6) : w.heap.size ≤ gb415)) <| p_ ((Nat.le_trans HW0.out (by rw [hg]; exact (keep_size (w := w) (g := g) (row := none) tq_6) : w.heap.size ≤ gb415) : w0.heap.size ≤ gb415)) <| p_ (ltne_ hg (blk_lt (kb_ BK392))) <| p_ (gtne_ hg (blk_lt (kb_ BK392))) <| p_ (ltne_ hg (blk_lt (kb_ BK399))) <| p_ (gtne_ hg (blk_lt (kb_ BK399))) <| p_ ((by rw [hg]; exact Nat.ne_of_lt (IsS83.lt (show IsS83 w0 _ g s0_0 t413 t414 from tq_3)) : g ≠ gb415)) <| a_ ((by rw [hg]; exact Nat.ne_of_gt (IsS83.lt (show IsS83 w0 _ g s0_0 t413 t414 from tq_3)) : gb415 ≠ g)); clear HO_400004 BK392 BK399 HI0 HK HB; obtain ⟨HO_400004, BK392, BK399, HI0, HK, HB, BK415, GW415, GE415, NB392_415, NB415_392, NB399_415, NB415_399, NB0_415, NB415_0⟩ := z_; clear hb hbox hg; obtain ⟨n415_392, n392_415, n415_399, n399_415, n415_0, n0_415⟩ := an6_ NB415_392 NB392_415 NB415_399 NB399_415 NB415_0 NB0_415; obtain ⟨hcz34_0, hcz34_1, hcz34_2⟩ := bk3_ BK415.out; obtain ⟨hfz34_0, hfz34_1, hfz34_2⟩ := bf3_ BK415.out; obtain ⟨hcz35_0, hcz35_1, hcz35_2, hcz35_3, hcz35_4, hcz35_5⟩ := bk6_ BK399.out; obtain ⟨hfz35_0, hfz35_1, hfz35_2, hfz35_3, hfz35_4, hfz35_5⟩ := bf6_ BK399.out) | ((with_reducible refine gate_builtin (b := .append) (xs := #[.tmp 46, .tmp 48]) rfl ?_); at_builtin; refine Kd.R_append k42 w.heap.size rfl (.tmp 46) (.tmp 48) 24 42 (.agg #[(.int .i64 0), (.int .i64 0), (.string ⟨#[]⟩)]) 32 rfl Tryd.underlying24 info42 rfl (by decide) (by omega) u400004 x400004_1 (⟨wrap64 (1 + (Int.tmod (wrap64 ((wrap64 (3 * x5_1)) + t410)) 12)), t411, t412⟩ : S42) [.int .i64 (wrap64 (1 + (Int.tmod (wrap64 ((wrap64 (3 * x5_1)) + t410)) 12))), .int .i64 t411, .string t412] (fun k_ => k_ ≠ gb415) (fun _ => False) rfl (by first | (go_simp; done) | (go_simp; rfl)) ?aP (fun _ hk => hk.elim) ?aF ?aO (Below.refl _ _) ?aS ?aL ?_; (case aP => exact k42_mkM _ _ _ (⟨wrap64 (1 + (Int.tmod (wrap64 ((wrap64 (3 * x5_1)) + t410)) 12)), t411, t412⟩ : S42)); (case aF => exact (fun k_ hk => Kd.freshB (g := gb415) (o := .cells #[.int .i64 (wrap64 (1 + (Int.tmod (wrap64 ((wrap64 (3 * x5_1)) + t410)) 12))), .int .i64 t411, .string t412] 42 (0, 0)) tb_ k_ hk)); (case aO => exact tq_72); (case aS => exact (keep_size (w := w) (g := g) (row := none) tq_23)); (case aL => have := LMc25.out; omega); intro v417 w36 ho hb hg hat; rw [← Ny416.out] at ho; have z_ := p_ (blk_grown (g := gb392) (o := .cells #[.int .i64 0, .int .i64 0, .int .i64 0, .string (⟨#[]⟩ : ByteArray), .slice none 0 0, .slice none 0 0] 27 (0, 0)) tq_40 hg (Kd.R_ne HO_400004.out BK392.out (by decide))) <| p_ (blk_grown (g := gb399) (o := .cells #[.int .i64 t393, .int .i64 t403, .int .i64 t396, .string t406, u400004, .slice none 0 0] 27 (0, 0)) tq_39 hg (Kd.R_ne HO_400004.out BK399.out (by decide))) <| p_ (IsS83.grown (show IsS83 w0 _ g s0_0 t413 t414 from tq_32) hg (IsS83.own_ne HI0.out HO_400004.out (by decide))) <| p_ (blk_grown (g := gb415) (o := .cells #[.int .i64 (wrap64 (1 + (Int.tmod (wrap64 ((wrap64 (3 * x5_1)) + t410)) 12))), .int .i64 t411, .string t412] 42 (0, 0)) tq_31 hg (Kd.R_away HO_400004.out (fun _ hk => hk.2))) <| p_ (below_weaken tq_34 HL.out hb) <| p_ (KeepBut.trans tq_23 (KeepBut.of_grown hg g) (Kd.R_base2 HO_400004.out)) <| a_ (ho); clear BK392 BK399 HI0 BK415 HB HK HO_400004; obtain ⟨BK392, BK399, HI0, BK415, HB, HK, HO418⟩ := z_; clear ho hb hg hat; obtain ⟨Ao37, co37, eo37⟩ := Kd.R_slice HO418.out; subst eo37; obtain ⟨hcz38_0, hcz38_1, hcz38_2, hcz38_3, hcz38_4, hcz38_5⟩ := bk6_ BK399.out; obtain ⟨hfz38_0, hfz38_1, hfz38_2, hfz38_3, hfz38_4, hfz38_5⟩ := bf6_ BK399.out))
 go_roundg k1
 case measure => have := HK1.out; omega
 case rel => exact ⟨(t410), (wrap64 (x5_1 + 1)), (t413), (t414), (y416), (.slice Ao37 y416.length co37), tq_4, tq_4, H', ⟨tq_56⟩, ⟨(by (with_reducible repeat (first | apply Kd.R_alloc | apply Kd.R_drewN | apply Kd.R_drew)); exact Kd.R_mono (rR_ (Kd.R_types HO418.out BK399.out (by decide))) (fun _ hk => trivial))⟩, ⟨tb_⟩, ⟨tb_⟩, ⟨tq_32⟩, ⟨tq_23⟩, ⟨tq_34⟩⟩

end Go.Proofs.YtjfhddenmnjgbaaDoor.PFnAnyInode
