/- Contracts of Go functions, written by a program of ours over the print of the kit: each says that the call returns what the Lean function beside it computes. Conditions: as each theorem states them. -/
import Derived.Test.YtljnnmpfeningaaPkFnViews
import Derived.Test.YtljnnmpfeningaaPFnViewsx0
import Derived.Test.YtljnnmpfeningaaPFnViewsx4
import Derived.Test.YtljnnmpfeningaaPFnViewsx6
import Derived.Test.YtljnnmpfeningaaPFnViewsx7
import Derived.Test.YtljnnmpfeningaaPFnViewsx8
namespace Go.Proofs.Ytljnnmpfeningaa.PFnViews
open Go.RowKit Go.Proofs.YtljnnmpfeningaaW.PrintWords Go.Proofs.YtljnnmpfeningaaW.PrintLast Go.Proofs.YtljnnmpfeningaaW.PrintMore
attribute [local go_sem] max2_int min2_int max_two min_two max_three min_three max_four min_four   -- for this text's walks alone
set_option linter.unusedVariables false
set_option linter.unusedSimpArgs false

/-! ### spec_l17Rename: function 131 -/
def spec_l17Rename.j0 : Nat → Int → Bool → List (S44) → Int → ByteArray → ByteArray → Int → Int → ByteArray → List (S44) → Option ((List (S44)) × Int × ByteArray × Int × Bool × List ByteArray)
 | 0, _, _, _, _, _, _, _, _, _, _ => none
 | k + 1, x7, x40, x340000, x341000, x341001, x341002, x341003, x341004, x341005, x347000 => if x40 = true then ((spec_l17Fails.f x7).bind fun bt365 => (some (x347000, bt365.1, bt365.2.1, bt365.2.2.1, bt365.2.2.2.1, bt365.2.2.2.2))) else ((spec_MovedItems.f k x340000 x341001 x341002).bind fun t372 => (some (t372, 0, (⟨#[]⟩ : ByteArray), 0, false, ([] : List ByteArray))))
def spec_l17Rename.f (k : Nat) (l0_0 : List (S44)) (a1_0 : Int) (a1_1 : ByteArray) (a1_2 : ByteArray) (a1_3 : Int) (a1_4 : Int) (a1_5 : ByteArray) : Option ((List (S44)) × Int × ByteArray × Int × Bool × List ByteArray) := (spec_l17Same.f l0_0).bind fun t343 => (if a1_1.toList = ([47] : List UInt8) then ((spec_l17Fails.f 9).bind fun bt347 => (some (t343, bt347.1, bt347.2.1, bt347.2.2.1, bt347.2.2.2.1, bt347.2.2.2.2))) else ((spec_IsUnder.f k a1_2 a1_1).bind fun t354 => (if t354 = true then ((spec_l17Fails.f 11).bind fun bt355 => (some (t343, bt355.1, bt355.2.1, bt355.2.2.1, bt355.2.2.2.1, bt355.2.2.2.2))) else ((spec_PlaceFor.f k l0_0 a1_2).bind fun t362 => (if t362 = 0 then (spec_l17Rename.j0 k t362 false l0_0 a1_0 a1_1 a1_2 a1_3 a1_4 a1_5 t343) else (if t362 = 7 then ((spec_ParentOf.f k a1_2).bind fun t363 => ((spec_ParentOf.f k a1_1).bind fun t364 => (spec_l17Rename.j0 k t362 (t363.toList != t364.toList) l0_0 a1_0 a1_1 a1_2 a1_3 a1_4 a1_5 t343))) else (spec_l17Rename.j0 k t362 true l0_0 a1_0 a1_1 a1_2 a1_3 a1_4 a1_5 t343)))))))
theorem spec_l17Rename.mono_l : ∀ k, (∀ y0 y1 y2 y3 y4 y5 y6 y7 y8 y9, LeO (spec_l17Rename.j0 k y0 y1 y2 y3 y4 y5 y6 y7 y8 y9) (spec_l17Rename.j0 (k + 1) y0 y1 y2 y3 y4 y5 y6 y7 y8 y9))
 | 0 => fun _ _ _ _ _ _ _ _ _ _ r h => by simp [spec_l17Rename.j0] at h
 | k + 1 => by
  have ih0 := spec_l17Rename.mono_l k
  ·intro y0 y1 y2 y3 y4 y5 y6 y7 y8 y9
   unfold spec_l17Rename.j0
   repeat' first
   | (with_reducible exact ih0 ..)
   | (with_reducible exact spec_IsUnder.mono ..)
   | (with_reducible exact spec_MovedItems.mono ..)
   | (with_reducible exact spec_ParentOf.mono ..)
   | (with_reducible exact spec_PlaceFor.mono ..)
   | (with_reducible exact LeO.refl _)
   | (with_reducible exact LeO.none _)
   | (with_reducible refine LeO.ite ?_ ?_)
   | (with_reducible refine LeO.bind ?_ (fun _ => ?_))
   | exact ih0 ..
   | exact spec_IsUnder.mono ..
   | exact spec_MovedItems.mono ..
   | exact spec_ParentOf.mono ..
   | exact spec_PlaceFor.mono ..
   | exact LeO.none _
   | refine LeO.ite ?_ ?_
   | refine LeO.bind ?_ (fun _ => ?_)
theorem spec_l17Rename.mono : ∀ a0 a1 a2 a3 a4 a5 a6 k, LeO (spec_l17Rename.f k a0 a1 a2 a3 a4 a5 a6) (spec_l17Rename.f (k + 1) a0 a1 a2 a3 a4 a5 a6) := by
 intro a0 a1 a2 a3 a4 a5 a6 k
 have ih0 := spec_l17Rename.mono_l k
 unfold spec_l17Rename.f
 repeat' first
   | (with_reducible exact ih0 ..)
   | (with_reducible exact spec_IsUnder.mono ..)
   | (with_reducible exact spec_MovedItems.mono ..)
   | (with_reducible exact spec_ParentOf.mono ..)
   | (with_reducible exact spec_PlaceFor.mono ..)
   | (with_reducible exact LeO.refl _)
   | (with_reducible exact LeO.none _)
   | (with_reducible refine LeO.ite ?_ ?_)
   | (with_reducible refine LeO.bind ?_ (fun _ => ?_))
   | exact ih0 ..
   | exact spec_IsUnder.mono ..
   | exact spec_MovedItems.mono ..
   | exact spec_ParentOf.mono ..
   | exact spec_PlaceFor.mono ..
   | exact LeO.none _
   | refine LeO.ite ?_ ?_
   | refine LeO.bind ?_ (fun _ => ?_)
def spec_l17Rename.T7 : Bool × List (List Nat × List Nat) := (true, [([], []), ([0], [0]), ([1], [1]), ([2], [2]), ([3, 2], [2, 3]), ([4, 2, 2], [2, 4]), ([5], [5]), ([6, 5], [5, 6]), ([7, 5, 5], [5, 7]), ([5], [5]), ([9, 5], [5, 9]), ([10, 8, 5], [5, 10]), ([8, 11, 5], [5, 8, 11]), ([5, 12, 2], [2, 5, 12]), ([2, 13], [2, 13])])
def spec_l17Rename.B7 : List Nat := [0, 1, 3, 7, 15, 31, 63, 127, 255, 63, 575, 2047, 4095, 8191, 16383]
theorem spec_l17Rename.tab7 : rtab .any (opsOf Try.f131 7) = spec_l17Rename.T7 := by kernel_rfl
theorem spec_l17Rename.bits7 : waitsOk spec_l17Rename.T7.2 spec_l17Rename.B7 = true := by kernel_rfl
set_option maxHeartbeats 8000000 in
set_option maxRecDepth 100000 in
theorem spec_l17Rename.calls (k : Nat) (A0_0 : Option Addr) (c0_0 : Nat) (l0_0 : List (S44)) (a1_0 : Int) (a1_1 : ByteArray) (a1_2 : ByteArray) (a1_3 : Int) (a1_4 : Int) (a1_5 : ByteArray) (r1 : List (S44)) (r2 : Int) (r3 : ByteArray) (r4 : Int) (r5 : Bool) (r6 : List ByteArray) (w : World) (hr0_0 : Kd.C k44 w A0_0 l0_0.length l0_0) (hc0_0 : l0_0.length ≤ c0_0) (h : spec_l17Rename.f k l0_0 a1_0 a1_1 a1_2 a1_3 a1_4 a1_5 = some (r1, r2, r3, r4, r5, r6)) :
  Calls Try.prog 131 #[.agg #[.slice A0_0 l0_0.length c0_0], .agg #[.int .i64 a1_0, .string a1_1, .string a1_2, .int .i64 a1_3, .int .i64 a1_4, .string a1_5]] w fun e w' => ∃ v0_ v5_ : Value, e = .returned (.tuple #[.agg #[v0_], .agg #[.int .i64 r2, .string r3, .int .i64 r4, .bool r5, v5_]]) ∧ Kd.R k44 44 w' w.heap.size (fun _ => True) v0_ r1 ∧ Kd.R Kd.string 9 w' w.heap.size (fun _ => True) v5_ r6 ∧ Below w.heap.size w w' := by
 have hu42 := Try.underlying42
 have hu133 := Try.underlying133
 have hu129 := Try.underlying129
 have HR0_0 := Aside0.mk hr0_0
 have HC0_0 := Aside0.mk hc0_0
 clear hr0_0 hc0_0
 have HB := Aside0.mk (Below.refl w.heap.size w)
 unfold spec_l17Rename.f at h
 have H := h
 clear h
 obtain ⟨t343, A3, H⟩ := bd_ H
 have HC4 := Aside0.mk H
 clear H
 go_enter Try.func131, Try.ntmps131
 go_upto_if 12 with (first | ((with_reducible refine gate_dst (N := 2) rfl ?_); refine be_ 2 (cs := #[.slice A0_0 l0_0.length c0_0]) 42 ?_; intro gb339 hg w5 hbox hb; have z_ := bx0_ th_ hb hbox hg; clear HB; obtain ⟨HB, BK339, GW339, GE339⟩ := z_; clear hb hbox hg) | ((with_reducible refine gate_dst (N := 3) rfl ?_); refine be_ 3 (cs := #[.int .i64 a1_0, .string a1_1, .string a1_2, .int .i64 a1_3, .int .i64 a1_4, .string a1_5]) 133 ?_; intro gb340 hg w6 hbox hb; have z_ := bx1_ (kb_ BK339) th_ hb hbox hg; clear BK339 HB; obtain ⟨BK339, HB, BK340, GW340, GE340, NB339_340, NB340_339⟩ := z_; clear hb hbox hg) | ((with_reducible refine gate_dst (N := 4) rfl ?_); refine be_ 4 (cs := #[.slice none 0 0]) 42 ?_; intro gb341 hg w7 hbox hb; have z_ := bx2_ (kb_ BK339) (kb_ BK340) th_ hb hbox hg; clear BK339 BK340 HB; obtain ⟨BK339, BK340, HB, BK341, GW341, GE341, NB339_341, NB341_339, NB340_341, NB341_340⟩ := z_; clear hb hbox hg) | ((with_reducible refine gate_dst (N := 5) rfl ?_); refine be_ 5 (cs := #[.int .i64 0, .string (⟨#[]⟩ : ByteArray), .int .i64 0, .bool false, .slice none 0 0]) 129 ?_; intro gb342 hg w8 hbox hb; have z_ := bx3_ (kb_ BK339) (kb_ BK340) (kb_ BK341) th_ hb hbox hg; clear BK339 BK340 BK341 HB; obtain ⟨BK339, BK340, BK341, HB, BK342, GW342, GE342, NB339_342, NB342_339, NB340_342, NB342_340, NB341_342, NB342_341⟩ := z_; clear hb hbox hg; obtain ⟨n339_340, n340_339, n339_341, n341_339, n339_342, n342_339⟩ := an6_ NB339_340 NB340_339 NB339_341 NB341_339 NB339_342 NB342_339; have hcz12_0 := bc_ BK339.out 0; have hfz12_0 := blk_frozen BK339.out 0) | ((with_reducible refine gate_callee (f := 123) rfl ?_); refine goesL_ (some 9) rfl rfl Try.func123 (by kernel_rfl) rfl #[.agg #[.slice A0_0 l0_0.length c0_0]] rfl tq_0 ?_; (with_reducible refine (spec_l17Same.calls _ _ l0_0 t343 _ ?side1 ?side2 A3.out).mono ?_); (case side1 => exact tq_10); (case side2 => exact HC0_0.out); rintro e w13 ⟨v344, rfl, ho0, hb⟩; refine ⟨_, rfl, ?_⟩; have z_ := p_ (Kd.R_lower ho0 (below_size th_)) <| bw4_ (kb_ BK339) (kb_ BK340) (kb_ BK341) (kb_ BK342) th_ hb; clear BK339 BK340 BK341 BK342 HB; obtain ⟨HO345, BK339, BK340, BK341, BK342, HB⟩ := z_; (try clear hb); (try clear ho0)) | ((with_reducible refine gate_dst (N := 6) rfl ?_); refine be_ 6 (cs := #[.slice none 0 0]) 42 ?_; intro gb346 hg w14 hbox hb; have z_ := p_ (Kd.R_below (raR_ HO345) hb) <| bx4_ (kb_ BK339) (kb_ BK340) (kb_ BK341) (kb_ BK342) th_ hb hbox hg; clear HO345 BK339 BK340 BK341 BK342 HB; obtain ⟨HO345, BK339, BK340, BK341, BK342, HB, BK346, GW346, GE346, NB339_346, NB346_339, NB340_346, NB346_340, NB341_346, NB346_341, NB342_346, NB346_342⟩ := z_; clear hb hbox hg; obtain ⟨Ao15, co15, eo15⟩ := Kd.R_slice HO345.out; subst eo15; obtain ⟨n346_339, n339_346, n346_340, n340_346, n346_341, n341_346, n346_342, n342_346⟩ := an8_ NB346_339 NB339_346 NB346_340 NB340_346 NB346_341 NB341_346 NB346_342 NB342_346; have hcz20_0 := bc_ BK346.out 0; have hfz20_0 := blk_frozen BK346.out 0; obtain ⟨n340_341, n341_340, n340_342, n342_340⟩ := an4_ NB340_341 NB341_340 NB340_342 NB342_340; obtain ⟨hcz23_0, hcz23_1, hcz23_2, hcz23_3, hcz23_4, hcz23_5⟩ := bk6_ BK340.out; obtain ⟨hfz23_0, hfz23_1, hfz23_2, hfz23_3, hfz23_4, hfz23_5⟩ := bf6_ BK340.out))
 (try simp only [Act.put, List.setIfInBounds_toArray, List.set_cons_zero, List.set_cons_succ])
 (try clear n339_340 n339_341 n339_342 n339_346 n340_339 n340_341 n340_342 n340_346 n341_339 n341_340 n341_346 n342_339 n342_340 n342_346 n346_339 n346_340 n346_341 n346_342)
 (try clear hcz12_0)
 (try clear hcz20_0)
 (try clear hcz23_0 hcz23_1 hcz23_2 hcz23_3 hcz23_4 hcz23_5)
 (try clear hfz12_0)
 (try clear hfz20_0)
 (try clear hfz23_0 hfz23_1 hfz23_2 hfz23_3 hfz23_4 hfz23_5)
 have H := HC4.out
 clear HC4
 by_cases c24 : a1_1.toList = ([47] : List UInt8)
 ·rw [if_pos c24] at H
  have c24b0 := beq_iff_eq.mpr c24
  have c24b1 := bne_eq_false_iff_eq.mpr c24
  clear c24
  (first | rw [c24b0] | (simp only [i64_w, i32_w]; rw [c24b0]) | skip)
  obtain ⟨⟨t347, t348, t349, t350, t351⟩, A25, H⟩ := bd_ H
  try dsimp -simprocs only at H
  simp only [Option.some.injEq, Prod.mk.injEq] at H
  obtain ⟨rfl, rfl, rfl, rfl, rfl, rfl⟩ := H
  try go_wp2
  have n0_ : Aside0 (Kd.R k44 44 (w14.setCell ⟨gb346, 0, none⟩ (.slice Ao15 t343.length co15)) w.heap.size (fun _ => True) (.slice Ao15 t343.length co15) t343) := ⟨(by (with_reducible repeat (first | apply Kd.R_alloc | apply Kd.R_drewN | apply Kd.R_drew)); exact Kd.R_mono (rR_ (Kd.R_types HO345.out BK346.out (by decide))) (fun _ hk => trivial))⟩
  have n1_ : Aside0 ((w14.setCell ⟨gb346, 0, none⟩ (.slice Ao15 t343.length co15)).heap[gb339]? = some (.cells #[.slice A0_0 l0_0.length c0_0] 42 (0, 0))) := ⟨tb_⟩
  have n2_ : Aside0 ((w14.setCell ⟨gb346, 0, none⟩ (.slice Ao15 t343.length co15)).heap[gb340]? = some (.cells #[.int .i64 a1_0, .string a1_1, .string a1_2, .int .i64 a1_3, .int .i64 a1_4, .string a1_5] 133 (0, 0))) := ⟨tb_⟩
  have n3_ : Aside0 ((w14.setCell ⟨gb346, 0, none⟩ (.slice Ao15 t343.length co15)).heap[gb341]? = some (.cells #[.slice none 0 0] 42 (0, 0))) := ⟨tb_⟩
  have n4_ : Aside0 ((w14.setCell ⟨gb346, 0, none⟩ (.slice Ao15 t343.length co15)).heap[gb342]? = some (.cells #[.int .i64 0, .string (⟨#[]⟩ : ByteArray), .int .i64 0, .bool false, .slice none 0 0] 129 (0, 0))) := ⟨tb_⟩
  have n5_ : Aside0 ((w14.setCell ⟨gb346, 0, none⟩ (.slice Ao15 t343.length co15)).heap[gb346]? = some (.cells #[.slice Ao15 t343.length co15] 42 (0, 0))) := ⟨tb_⟩
  have n6_ : Aside0 (Below w.heap.size w (w14.setCell ⟨gb346, 0, none⟩ (.slice Ao15 t343.length co15))) := ⟨th_⟩
  (try clear HO345)
  (try clear BK339)
  (try clear BK340)
  (try clear BK341)
  (try clear BK342)
  (try clear BK346)
  (try clear HB)
  generalize (w14.setCell ⟨gb346, 0, none⟩ (.slice Ao15 t343.length co15)) = w26 at n0_ n1_ n2_ n3_ n4_ n5_ n6_ ⊢
  have HO345 := n0_
  have BK339 := n1_
  have BK340 := n2_
  have BK341 := n3_
  have BK342 := n4_
  have BK346 := n5_
  have HB := n6_
  clear n0_ n1_ n2_ n3_ n4_ n5_ n6_
  have z_ := p_ (Kd.R_drew HO345.out) <| dw5_ BK339 BK340 BK341 BK342 BK346 HB
  clear HO345 BK339 BK340 BK341 BK342 BK346 HB
  obtain ⟨HO345, BK339, BK340, BK341, BK342, BK346, HB⟩ := z_
  refine start_ (n := 4) (S := fun w' => w'.cell? ⟨gb346, 0, none⟩ = some (.slice Ao15 t343.length co15)) (ds := []) bq_1 (by kernel_rfl) rfl rfl ((blk_cell BK346.out 0).trans rfl) (fun hHeld => ?_)
  generalize w26.drew = w27 at HO345 BK339 BK340 BK341 BK342 BK346 HB hHeld ⊢
  refine take_ (i := 0) (N := some 13) (v := ?_) (a' := ?_) bq_2 rfl rfl (by kernel_rfl) (fun _ _ _ h => h) (Or.inl ⟨(by rfl), ?_⟩) hHeld ?_ ?_
  rotate_left
  ·intro w' s0
   go_simp
   with_reducible rfl
  rotate_left
  ·simp only [Act.put, List.setIfInBounds_toArray, List.set_cons_zero, List.set_cons_succ, i64_w, i32_w]
   rfl
  refine one_ (i := 1) (N := some 14) bq_3 rfl rfl (by kernel_rfl) (by decide) (fun K hK => ?_)
  refine goes_ Try.func125 (by kernel_rfl) rfl #[.int .i64 9] (by rfl) rfl rfl tq_0 ?_
  with_reducible refine (spec_l17Fails.calls 9 t347 t348 t349 t350 t351 _ A25.out).mono ?_
  rintro e w28 ⟨v352, rfl, ho0, hb⟩
  refine ⟨_, rfl, ?_⟩
  have z_ := p_ (Kd.R_below (raR_ HO345) hb) <| p_ (Kd.R_lower ho0 (below_size th_)) <| bw5_ (kb_ BK339) (kb_ BK340) (kb_ BK341) (kb_ BK342) (kb_ BK346) th_ hb
  clear HO345 BK339 BK340 BK341 BK342 BK346 HB
  obtain ⟨HO345, HO353, BK339, BK340, BK341, BK342, BK346, HB⟩ := z_
  (try clear hb)
  (try clear ho0)
  obtain ⟨Ao34, co34, eo34⟩ := Kd.R_slice HO353.out
  (first | subst eo34 | (injection eo34 with f1_ f2_ f3_; have f4_ := f1_.symm; have f5_ := f3_.symm; clear f1_ f2_ f3_; subst f4_; subst f5_))
  refine hK.out _ _ ((blk_cell BK346.out 0).trans rfl) (fun hHeld => ?_)
  clear hK K
  refine nm_ (some 14) ?_
  refine one_ (i := 2) (N := none) bq_4 rfl rfl (by kernel_rfl) (by decide) (fun K hK => ?_)
  have hs29 : w28.cell? ⟨gb341, 0, none⟩ = some (.slice none 0 0) := (blk_cell BK341.out 0).trans rfl
  have hfs29 := blk_frozen BK341.out 0
  obtain ⟨n339_341, n340_341, n342_341, n346_341, n341_339, n341_340, n341_342, n341_346⟩ := an8_ NB339_341 NB340_341 NB342_341 NB346_341 NB341_339 NB341_340 NB341_342 NB341_346
  refine skip_ (w1 := ?_) (by rfl) rfl ?_ ?_
  rotate_left
  ·go_simp
   rfl
  refine hK.out _ _ ((cf_ NB346_341 hHeld)) (fun hHeld => ?_)
  clear hK K
  refine one_ (i := 3) (N := none) bq_5 rfl rfl (by kernel_rfl) (by decide) (fun K hK => ?_)
  have hs30 : w28.cell? ⟨gb342, 0, none⟩ = some (.int .i64 0) := (blk_cell BK342.out 0).trans rfl
  have hfs30 := blk_frozen BK342.out 0
  obtain ⟨n339_342, n340_342, n346_342, n342_339, n342_340, n342_346⟩ := an6_ NB339_342 NB340_342 NB346_342 NB342_339 NB342_340 NB342_346
  have hs31 : w28.cell? ⟨gb342, 1, none⟩ = some (.string (⟨#[]⟩ : ByteArray)) := (blk_cell BK342.out 1).trans rfl
  have hfs31 := blk_frozen BK342.out 1
  have hs32 : w28.cell? ⟨gb342, 2, none⟩ = some (.int .i64 0) := (blk_cell BK342.out 2).trans rfl
  have hfs32 := blk_frozen BK342.out 2
  have hs33 : w28.cell? ⟨gb342, 3, none⟩ = some (.bool false) := (blk_cell BK342.out 3).trans rfl
  have hfs33 := blk_frozen BK342.out 3
  have hs35 : w28.cell? ⟨gb342, 4, none⟩ = some (.slice none 0 0) := (blk_cell BK342.out 4).trans rfl
  have hfs35 := blk_frozen BK342.out 4
  refine skip_ (w1 := ?_) (by rfl) rfl ?_ ?_
  rotate_left
  ·go_simp
   rfl
  refine hK.out _ _ ((cf_ NB346_342 (cf_ NB346_342 (cf_ NB346_342 (cf_ NB346_342 (cf_ NB346_342 hHeld)))))) (fun hHeld => ?_)
  clear hK K
  refine done_ (by kernel_rfl) ?_
  try go_wp2
  refine bodyPost_ret (results_cc rfl _ _ gb341 gb342 42 129 #[.slice Ao15 t343.length co15] #[.int .i64 t347, .string t348, .int .i64 t349, .bool t350, .slice Ao34 t351.length co34] (0, 0) (0, 0) _ _ rfl tb_ Try.underlying42 rfl (by kernel_rfl) rfl tb_ Try.underlying129 rfl (by kernel_rfl)) rfl ?_
  exact ⟨_, _, tq_1, tq_89, (by (with_reducible repeat (first | apply Kd.R_alloc | apply Kd.R_drewN | apply Kd.R_drew)); exact Kd.R_mono (rR_ (rR_ (rR_ (rR_ (rR_ (rR_ (Kd.R_types (Kd.R_types HO353.out BK341.out (by decide)) BK342.out (by decide)) (fun _ hk => hk.1.2))))))) (fun _ hk => trivial)), th_⟩
 rw [if_neg c24] at H
 have c24b0 := beq_eq_false_iff_ne.mpr c24
 have c24b1 := bne_iff_ne.mpr c24
 (first | rw [c24b0] | (simp only [i64_w, i32_w]; rw [c24b0]) | skip)
 obtain ⟨t354, A36, H⟩ := bd_ H
 have HC37 := Aside0.mk H
 clear H
 obtain ⟨n340_339, n339_340, n340_341, n341_340, n340_342, n342_340, n340_346, n346_340⟩ := an8_ NB340_339 NB339_340 NB340_341 NB341_340 NB340_342 NB342_340 NB340_346 NB346_340
 obtain ⟨hcz42_0, hcz42_1, hcz42_2, hcz42_3, hcz42_4, hcz42_5⟩ := bk6_ BK340.out
 obtain ⟨hfz42_0, hfz42_1, hfz42_2, hfz42_3, hfz42_4, hfz42_5⟩ := bf6_ BK340.out
 go_upto_if 19 with (first | ((with_reducible refine gate_callee (f := 143) rfl ?_); refine goesL_ (some 19) rfl rfl Try.func143 (by kernel_rfl) rfl #[.string a1_2, .string a1_1] rfl tq_0 ?_; (with_reducible refine (spec_IsUnder.calls k a1_2 a1_1 t354 _ A36.out).mono ?_); rintro e w43 ⟨rfl, hb⟩; refine ⟨_, rfl, ?_⟩; have z_ := p_ (Kd.R_below (by (with_reducible repeat (first | apply Kd.R_alloc | apply Kd.R_drewN | apply Kd.R_drew)); exact (Kd.R_mono (rR_ (Kd.R_types HO345.out BK346.out (by decide))) (fun _ h_ => h_.1))) hb) <| p_ (blk_below (g := gb339) (o := .cells #[.slice A0_0 l0_0.length c0_0] 42 (0, 0)) (by (with_reducible repeat (first | refine blk_drewN ?_ _ | refine blk_drew ?_ | refine blk_alloc ?_ _)); refine blk_far ?_ NB339_346.out _; (with_reducible repeat (first | refine blk_drewN ?_ _ | refine blk_drew ?_ | refine blk_alloc ?_ _)); exact BK339.out) hb) <| p_ (blk_below (g := gb340) (o := .cells #[.int .i64 a1_0, .string a1_1, .string a1_2, .int .i64 a1_3, .int .i64 a1_4, .string a1_5] 133 (0, 0)) (by (with_reducible repeat (first | refine blk_drewN ?_ _ | refine blk_drew ?_ | refine blk_alloc ?_ _)); refine blk_far ?_ NB340_346.out _; (with_reducible repeat (first | refine blk_drewN ?_ _ | refine blk_drew ?_ | refine blk_alloc ?_ _)); exact BK340.out) hb) <| p_ (blk_below (g := gb341) (o := .cells #[.slice none 0 0] 42 (0, 0)) (by (with_reducible repeat (first | refine blk_drewN ?_ _ | refine blk_drew ?_ | refine blk_alloc ?_ _)); refine blk_far ?_ NB341_346.out _; (with_reducible repeat (first | refine blk_drewN ?_ _ | refine blk_drew ?_ | refine blk_alloc ?_ _)); exact BK341.out) hb) <| p_ (blk_below (g := gb342) (o := .cells #[.int .i64 0, .string (⟨#[]⟩ : ByteArray), .int .i64 0, .bool false, .slice none 0 0] 129 (0, 0)) (by (with_reducible repeat (first | refine blk_drewN ?_ _ | refine blk_drew ?_ | refine blk_alloc ?_ _)); refine blk_far ?_ NB342_346.out _; (with_reducible repeat (first | refine blk_drewN ?_ _ | refine blk_drew ?_ | refine blk_alloc ?_ _)); exact BK342.out) hb) <| p_ (blk_below (g := gb346) (o := .cells #[.slice Ao15 t343.length co15] 42 (0, 0)) (by (with_reducible repeat (first | refine blk_drewN ?_ _ | refine blk_drew ?_ | refine blk_alloc ?_ _)); refine blk_put (cs := #[.slice none 0 0]) ?_ 0 _ rfl; (with_reducible repeat (first | refine blk_drewN ?_ _ | refine blk_drew ?_ | refine blk_alloc ?_ _)); exact BK346.out) hb) <| a_ (below_step th_ hb); clear HO345 BK339 BK340 BK341 BK342 BK346 HB; obtain ⟨HO345, BK339, BK340, BK341, BK342, BK346, HB⟩ := z_; (try clear hb); (try clear hk)))
 (try simp only [Act.put, List.setIfInBounds_toArray, List.set_cons_zero, List.set_cons_succ])
 (try clear n339_340 n340_339 n340_341 n340_342 n340_346 n341_340 n342_340 n346_340)
 (try clear hcz42_0 hcz42_1 hcz42_2 hcz42_3 hcz42_4 hcz42_5)
 (try clear hfz42_0 hfz42_1 hfz42_2 hfz42_3 hfz42_4 hfz42_5)
 have H := HC37.out
 clear HC37
 by_cases c44 : t354 = true
 ·subst c44
  rw [if_pos rfl] at H
  obtain ⟨⟨t355, t356, t357, t358, t359⟩, A45, H⟩ := bd_ H
  try dsimp -simprocs only at H
  simp only [Option.some.injEq, Prod.mk.injEq] at H
  obtain ⟨rfl, rfl, rfl, rfl, rfl, rfl⟩ := H
  try go_wp2
  have z_ := p_ (Kd.R_drew HO345.out) <| dw5_ BK339 BK340 BK341 BK342 BK346 HB
  clear HO345 BK339 BK340 BK341 BK342 BK346 HB
  obtain ⟨HO345, BK339, BK340, BK341, BK342, BK346, HB⟩ := z_
  refine start_ (n := 4) (S := fun w' => w'.cell? ⟨gb346, 0, none⟩ = some (.slice Ao15 t343.length co15)) (ds := []) bq_1 (by kernel_rfl) rfl rfl ((blk_cell BK346.out 0).trans rfl) (fun hHeld => ?_)
  generalize w43.drew = w46 at HO345 BK339 BK340 BK341 BK342 BK346 HB hHeld ⊢
  refine take_ (i := 0) (N := some 20) (v := ?_) (a' := ?_) bq_2 rfl rfl (by kernel_rfl) (fun _ _ _ h => h) (Or.inl ⟨(by rfl), ?_⟩) hHeld ?_ ?_
  rotate_left
  ·intro w' s0
   go_simp
   with_reducible rfl
  rotate_left
  ·simp only [Act.put, List.setIfInBounds_toArray, List.set_cons_zero, List.set_cons_succ, i64_w, i32_w]
   rfl
  refine one_ (i := 1) (N := some 21) bq_3 rfl rfl (by kernel_rfl) (by decide) (fun K hK => ?_)
  refine goes_ Try.func125 (by kernel_rfl) rfl #[.int .i64 11] (by rfl) rfl rfl tq_0 ?_
  with_reducible refine (spec_l17Fails.calls 11 t355 t356 t357 t358 t359 _ A45.out).mono ?_
  rintro e w47 ⟨v360, rfl, ho0, hb⟩
  refine ⟨_, rfl, ?_⟩
  have z_ := p_ (Kd.R_below (raR_ HO345) hb) <| p_ (Kd.R_lower ho0 (below_size th_)) <| bw5_ (kb_ BK339) (kb_ BK340) (kb_ BK341) (kb_ BK342) (kb_ BK346) th_ hb
  clear HO345 BK339 BK340 BK341 BK342 BK346 HB
  obtain ⟨HO345, HO361, BK339, BK340, BK341, BK342, BK346, HB⟩ := z_
  (try clear hb)
  (try clear ho0)
  obtain ⟨Ao53, co53, eo53⟩ := Kd.R_slice HO361.out
  (first | subst eo53 | (injection eo53 with f1_ f2_ f3_; have f4_ := f1_.symm; have f5_ := f3_.symm; clear f1_ f2_ f3_; subst f4_; subst f5_))
  refine hK.out _ _ ((blk_cell BK346.out 0).trans rfl) (fun hHeld => ?_)
  clear hK K
  refine nm_ (some 21) ?_
  refine one_ (i := 2) (N := none) bq_4 rfl rfl (by kernel_rfl) (by decide) (fun K hK => ?_)
  have hs48 : w47.cell? ⟨gb341, 0, none⟩ = some (.slice none 0 0) := (blk_cell BK341.out 0).trans rfl
  have hfs48 := blk_frozen BK341.out 0
  obtain ⟨n339_341, n340_341, n342_341, n346_341, n341_339, n341_340, n341_342, n341_346⟩ := an8_ NB339_341 NB340_341 NB342_341 NB346_341 NB341_339 NB341_340 NB341_342 NB341_346
  refine skip_ (w1 := ?_) (by rfl) rfl ?_ ?_
  rotate_left
  ·go_simp
   rfl
  refine hK.out _ _ ((cf_ NB346_341 hHeld)) (fun hHeld => ?_)
  clear hK K
  refine one_ (i := 3) (N := none) bq_5 rfl rfl (by kernel_rfl) (by decide) (fun K hK => ?_)
  have hs49 : w47.cell? ⟨gb342, 0, none⟩ = some (.int .i64 0) := (blk_cell BK342.out 0).trans rfl
  have hfs49 := blk_frozen BK342.out 0
  obtain ⟨n339_342, n340_342, n346_342, n342_339, n342_340, n342_346⟩ := an6_ NB339_342 NB340_342 NB346_342 NB342_339 NB342_340 NB342_346
  have hs50 : w47.cell? ⟨gb342, 1, none⟩ = some (.string (⟨#[]⟩ : ByteArray)) := (blk_cell BK342.out 1).trans rfl
  have hfs50 := blk_frozen BK342.out 1
  have hs51 : w47.cell? ⟨gb342, 2, none⟩ = some (.int .i64 0) := (blk_cell BK342.out 2).trans rfl
  have hfs51 := blk_frozen BK342.out 2
  have hs52 : w47.cell? ⟨gb342, 3, none⟩ = some (.bool false) := (blk_cell BK342.out 3).trans rfl
  have hfs52 := blk_frozen BK342.out 3
  have hs54 : w47.cell? ⟨gb342, 4, none⟩ = some (.slice none 0 0) := (blk_cell BK342.out 4).trans rfl
  have hfs54 := blk_frozen BK342.out 4
  refine skip_ (w1 := ?_) (by rfl) rfl ?_ ?_
  rotate_left
  ·go_simp
   rfl
  refine hK.out _ _ ((cf_ NB346_342 (cf_ NB346_342 (cf_ NB346_342 (cf_ NB346_342 (cf_ NB346_342 hHeld)))))) (fun hHeld => ?_)
  clear hK K
  refine done_ (by kernel_rfl) ?_
  try go_wp2
  refine bodyPost_ret (results_cc rfl _ _ gb341 gb342 42 129 #[.slice Ao15 t343.length co15] #[.int .i64 t355, .string t356, .int .i64 t357, .bool t358, .slice Ao53 t359.length co53] (0, 0) (0, 0) _ _ rfl tb_ Try.underlying42 rfl (by kernel_rfl) rfl tb_ Try.underlying129 rfl (by kernel_rfl)) rfl ?_
  exact ⟨_, _, tq_1, tq_89, (by (with_reducible repeat (first | apply Kd.R_alloc | apply Kd.R_drewN | apply Kd.R_drew)); exact Kd.R_mono (rR_ (rR_ (rR_ (rR_ (rR_ (rR_ (Kd.R_types (Kd.R_types HO361.out BK341.out (by decide)) BK342.out (by decide)) (fun _ hk => hk.1.2))))))) (fun _ hk => trivial)), th_⟩
 replace c44 := Bool.eq_false_iff.mpr c44
 subst c44
 rw [if_neg nf_] at H
 obtain ⟨t362, A55, H⟩ := bd_ H
 have HC56 := Aside0.mk H
 clear H
 obtain ⟨n339_340, n340_339, n339_341, n341_339, n339_342, n342_339, n339_346, n346_339⟩ := an8_ NB339_340 NB340_339 NB339_341 NB341_339 NB339_342 NB342_339 NB339_346 NB346_339
 have hcz61_0 := bc_ BK339.out 0
 have hfz61_0 := blk_frozen BK339.out 0
 obtain ⟨n340_341, n341_340, n340_342, n342_340, n340_346, n346_340⟩ := an6_ NB340_341 NB341_340 NB340_342 NB342_340 NB340_346 NB346_340
 obtain ⟨hcz65_0, hcz65_1, hcz65_2, hcz65_3, hcz65_4, hcz65_5⟩ := bk6_ BK340.out
 obtain ⟨hfz65_0, hfz65_1, hfz65_2, hfz65_3, hfz65_4, hfz65_5⟩ := bf6_ BK340.out
 go_upto_region 7 with (first | ((with_reducible refine gate_callee (f := 138) rfl ?_); refine goesL_ (some 25) rfl rfl Try.func138 (by kernel_rfl) rfl #[.agg #[.slice A0_0 l0_0.length c0_0], .string a1_2] rfl tq_0 ?_; (with_reducible refine (spec_PlaceFor.calls k _ _ l0_0 a1_2 t362 _ ?side1 ?side2 A55.out).mono ?_); (case side1 => exact tq_10); (case side2 => exact HC0_0.out); rintro e w66 ⟨rfl, hb⟩; refine ⟨_, rfl, ?_⟩; have z_ := p_ (Kd.R_below (raR_ HO345) hb) <| bw5_ (kb_ BK339) (kb_ BK340) (kb_ BK341) (kb_ BK342) (kb_ BK346) th_ hb; clear HO345 BK339 BK340 BK341 BK342 BK346 HB; obtain ⟨HO345, BK339, BK340, BK341, BK342, BK346, HB⟩ := z_; (try clear hb); (try clear hk)))
 (try simp only [Act.put, List.setIfInBounds_toArray, List.set_cons_zero, List.set_cons_succ])
 go_cut [40] (fun v40 wc => ∃ (kq : Nat) (x40_55 : Bool), v40 = .bool x40_55 ∧ Aside0 (spec_l17Rename.j0 kq t362 x40_55 l0_0 a1_0 a1_1 a1_2 a1_3 a1_4 a1_5 t343 = some (r1, r2, r3, r4, r5, r6)) ∧ Aside0 (kq ≤ k) ∧ Aside0 (Kd.R k44 44 wc w.heap.size (fun _ => True) (.slice Ao15 t343.length co15) t343) ∧ Aside0 (wc.heap[gb339]? = some (.cells #[(.slice A0_0 l0_0.length c0_0)] 42 (0, 0))) ∧ Aside0 (wc.heap[gb340]? = some (.cells #[.int .i64 a1_0, .string a1_1, .string a1_2, .int .i64 a1_3, .int .i64 a1_4, .string a1_5] 133 (0, 0))) ∧ Aside0 (wc.heap[gb341]? = some (.cells #[(.slice none 0 0)] 42 (0, 0))) ∧ Aside0 (wc.heap[gb342]? = some (.cells #[.int .i64 0, .string (⟨#[]⟩ : ByteArray), .int .i64 0, .bool false, (.slice none 0 0)] 129 (0, 0))) ∧ Aside0 (wc.heap[gb346]? = some (.cells #[(.slice Ao15 t343.length co15)] 42 (0, 0))) ∧ Aside0 (Below w.heap.size w wc))
 case first =>
  have H := HC56.out
  clear HC56
  by_cases c67 : t362 = 0
  ·rw [if_pos c67] at H
   have c67b0 := beq_iff_eq.mpr c67
   have c67b1 := bne_eq_false_iff_eq.mpr c67
   clear c67
   (first | rw [c67b0] | (simp only [i64_w, i32_w]; rw [c67b0]) | skip)
   have H' := Aside0.mk H
   clear H
   try go_wp2
   have z_ := p_ (Kd.R_drew HO345.out) <| dw5_ BK339 BK340 BK341 BK342 BK346 HB
   clear HO345 BK339 BK340 BK341 BK342 BK346 HB
   obtain ⟨HO345, BK339, BK340, BK341, BK342, BK346, HB⟩ := z_
   refine start_ (n := 15) (S := fun w' => True) (ds := []) bq_53 (by kernel_rfl) rfl rfl trivial (fun hHeld => ?_); refine with_tabW spec_l17Rename.tab7 spec_l17Rename.bits7 (fun HT_ HW_ => ?_)
   generalize w66.drew = w68 at HO345 BK339 BK340 BK341 BK342 BK346 HB hHeld ⊢
   refine yr_ 0 26 bq_54 HT_ ?_
   refine yr_ 1 27 bq_55 HT_ ?_
   refine yr_ 2 28 bq_56 HT_ ?_
   refine ur_ 3 29 bq_57 HT_ ?_
   refine ur_ 4 30 bq_58 HT_ ?_
   refine ur_ 5 31 bq_59 HT_ ?_
   refine ur_ 6 32 bq_60 HT_ ?_
   refine ur_ 7 33 bq_94 HT_ ?_
   refine ur_ 8 34 bq_95 HT_ ?_
   refine ur_ 9 35 bq_74 HT_ ?_
   refine ur_ 10 36 bq_61 HT_ ?_
   refine ur_ 11 37 bq_62 HT_ ?_
   refine ur_ 12 38 bq_63 HT_ ?_
   refine ur_ 13 39 bq_64 HT_ ?_
   refine yr_ 14 40 bq_65 HT_ ?_
   refine done_ (done_of HT_.out (by kernel_rfl)) ?_
   try go_wp2
   go_meet
   case rel => exact ⟨_, (false), tq_5, H', ⟨tq_38⟩, ⟨(raR_ HO345)⟩, ⟨(kb_ BK339)⟩, ⟨(kb_ BK340)⟩, ⟨(kb_ BK341)⟩, ⟨(kb_ BK342)⟩, ⟨(kb_ BK346)⟩, ⟨th_⟩⟩
  rw [if_neg c67] at H
  have c67b0 := beq_eq_false_iff_ne.mpr c67
  have c67b1 := bne_iff_ne.mpr c67
  (first | rw [c67b0] | (simp only [i64_w, i32_w]; rw [c67b0]) | skip)
  by_cases c69 : t362 = 7
  rotate_left
  ·rw [if_neg c69] at H
   have c69b0 := beq_eq_false_iff_ne.mpr c69
   have c69b1 := bne_iff_ne.mpr c69
   have H' := Aside0.mk H
   clear H
   try go_wp2
   have z_ := p_ (Kd.R_drew HO345.out) <| dw5_ BK339 BK340 BK341 BK342 BK346 HB
   clear HO345 BK339 BK340 BK341 BK342 BK346 HB
   obtain ⟨HO345, BK339, BK340, BK341, BK342, BK346, HB⟩ := z_
   refine start_ (n := 15) (S := fun w' => True) (ds := []) bq_53 (by kernel_rfl) rfl rfl trivial (fun hHeld => ?_); refine with_tabW spec_l17Rename.tab7 spec_l17Rename.bits7 (fun HT_ HW_ => ?_)
   generalize w66.drew = w75 at HO345 BK339 BK340 BK341 BK342 BK346 HB hHeld ⊢
   refine yr_ 0 26 bq_54 HT_ ?_
   refine yr_ 1 27 bq_55 HT_ ?_
   refine yr_ 2 28 bq_56 HT_ ?_
   refine yr_ 3 29 bq_57 HT_ ?_
   refine yr_ 4 30 bq_58 HT_ ?_
   refine yr_ 5 31 bq_59 HT_ ?_
   refine ur_ 6 32 bq_60 HT_ ?_
   refine ur_ 7 33 bq_94 HT_ ?_
   refine ur_ 8 34 bq_95 HT_ ?_
   refine ur_ 9 35 bq_74 HT_ ?_
   refine ur_ 10 36 bq_61 HT_ ?_
   refine ur_ 11 37 bq_62 HT_ ?_
   refine ur_ 12 38 bq_63 HT_ ?_
   refine yr_ 13 39 bq_64 HT_ ?_
   refine yr_ 14 40 bq_65 HT_ ?_
   refine done_ (done_of HT_.out (by kernel_rfl)) ?_
   try go_wp2
   go_meet
   case rel => exact ⟨_, (true), tq_5, H', ⟨tq_38⟩, ⟨(raR_ HO345)⟩, ⟨(kb_ BK339)⟩, ⟨(kb_ BK340)⟩, ⟨(kb_ BK341)⟩, ⟨(kb_ BK342)⟩, ⟨(kb_ BK346)⟩, ⟨th_⟩⟩
  rw [if_pos c69] at H
  have c69b0 := beq_iff_eq.mpr c69
  have c69b1 := bne_eq_false_iff_eq.mpr c69
  clear c69
  obtain ⟨t363, A70, H⟩ := bd_ H
  obtain ⟨t364, A71, H⟩ := bd_ H
  have H' := Aside0.mk H
  clear H
  try go_wp2
  have z_ := p_ (Kd.R_drew HO345.out) <| dw5_ BK339 BK340 BK341 BK342 BK346 HB
  clear HO345 BK339 BK340 BK341 BK342 BK346 HB
  obtain ⟨HO345, BK339, BK340, BK341, BK342, BK346, HB⟩ := z_
  refine start_ (n := 15) (S := fun w' => w'.cell? ⟨gb340, 0, none⟩ = some (.int .i64 a1_0) ∧ w'.cell? ⟨gb340, 1, none⟩ = some (.string a1_1) ∧ w'.cell? ⟨gb340, 2, none⟩ = some (.string a1_2) ∧ w'.cell? ⟨gb340, 3, none⟩ = some (.int .i64 a1_3) ∧ w'.cell? ⟨gb340, 4, none⟩ = some (.int .i64 a1_4) ∧ w'.cell? ⟨gb340, 5, none⟩ = some (.string a1_5)) (ds := []) bq_53 (by kernel_rfl) rfl rfl (bk6_ BK340.out) (fun hHeld => ?_); refine with_tabW spec_l17Rename.tab7 spec_l17Rename.bits7 (fun HT_ HW_ => ?_)
  generalize w66.drew = w72 at HO345 BK339 BK340 BK341 BK342 BK346 HB hHeld ⊢
  refine yr_ 0 26 bq_54 HT_ ?_
  refine yr_ 1 27 bq_55 HT_ ?_
  refine yr_ 2 28 bq_56 HT_ ?_
  refine yr_ 3 29 bq_57 HT_ ?_
  refine yr_ 4 30 bq_58 HT_ ?_
  refine yr_ 5 31 bq_59 HT_ ?_
  refine yr_ 6 32 bq_60 HT_ ?_
  refine yr_ 9 35 bq_130 HT_ ?_
  refine tr_ 7 33 bq_131 HT_ HW_ hHeld ?_
  refine tr_ 10 36 #[true, true, true, true, true, true, true, true, false, true, true, false, false, false, false] HT_ HW_ hHeld ?_
  refine one_ (i := 8) (N := some 34) bq_61 rfl rfl (one_of HT_.out (by kernel_rfl)) (by decide) (fun K hK => ?_)
  refine goes_ Try.func141 (by kernel_rfl) rfl #[.string a1_2] (by rfl) rfl rfl tq_0 ?_
  with_reducible refine (spec_ParentOf.calls k a1_2 t363 _ A70.out).mono ?_
  rintro e w73 ⟨rfl, hb⟩
  refine ⟨_, rfl, ?_⟩
  have z_ := p_ (Kd.R_below (raR_ HO345) hb) <| bw5_ (kb_ BK339) (kb_ BK340) (kb_ BK341) (kb_ BK342) (kb_ BK346) th_ hb
  clear HO345 BK339 BK340 BK341 BK342 BK346 HB
  obtain ⟨HO345, BK339, BK340, BK341, BK342, BK346, HB⟩ := z_
  (try clear hb)
  refine hK.out _ _ (bk6_ BK340.out) (fun hHeld => ?_)
  clear hK K
  refine nm_ (some 34) ?_
  refine one_ (i := 11) (N := some 37) bq_62 rfl rfl (one_of HT_.out (by kernel_rfl)) (by decide) (fun K hK => ?_)
  refine goes_ Try.func141 (by kernel_rfl) rfl #[.string a1_1] (by rfl) rfl rfl tq_0 ?_
  with_reducible refine (spec_ParentOf.calls k a1_1 t364 _ A71.out).mono ?_
  rintro e w74 ⟨rfl, hb⟩
  refine ⟨_, rfl, ?_⟩
  have z_ := p_ (Kd.R_below (raR_ HO345) hb) <| bw5_ (kb_ BK339) (kb_ BK340) (kb_ BK341) (kb_ BK342) (kb_ BK346) th_ hb
  clear HO345 BK339 BK340 BK341 BK342 BK346 HB
  obtain ⟨HO345, BK339, BK340, BK341, BK342, BK346, HB⟩ := z_
  (try clear hb)
  refine hK.out _ _ (bk6_ BK340.out) (fun hHeld => ?_)
  clear hK K
  refine nm_ (some 37) ?_
  refine yr_ 12 38 bq_63 HT_ ?_
  refine yr_ 13 39 bq_64 HT_ ?_
  refine yr_ 14 40 bq_65 HT_ ?_
  refine done_ (done_of HT_.out (by kernel_rfl)) ?_
  try go_wp2
  go_meet
  case rel => exact ⟨_, ((t363.toList != t364.toList)), tq_5, H', ⟨tq_38⟩, ⟨(raR_ HO345)⟩, ⟨(kb_ BK339)⟩, ⟨(kb_ BK340)⟩, ⟨(kb_ BK341)⟩, ⟨(kb_ BK342)⟩, ⟨(kb_ BK346)⟩, ⟨th_⟩⟩
 case rest =>
 clear HC56
 try clear c1; try clear p2; try clear c4; try clear c5; try clear c6; try clear c13; try clear c14; try clear c44; try clear c57; try clear c58; try clear c59; try clear c60; try clear c62; try clear c63; try clear c64; try clear c67; try clear c67b0; try clear c67b1; try clear c69; try clear c69b0; try clear c69b1; try clear hcz61_0; try clear hcz65_0 hcz65_1 hcz65_2 hcz65_3 hcz65_4 hcz65_5; try clear hfz61_0; try clear hfz65_0 hfz65_1 hfz65_2 hfz65_3 hfz65_4 hfz65_5
 obtain ⟨kq, x40_55, rfl, HA, HJ55, HO_347000, BK339, BK340, BK341, BK342, BK346, HB⟩ := hcut
 cases kq with
 | zero => exact absurd HA.out (by simp [spec_l17Rename.j0])
 | succ kj55 =>
 have H := HA.out
 clear HA
 simp only [spec_l17Rename.j0] at H
 by_cases c76 : x40_55 = true
 rotate_left
 ·replace c76 := Bool.eq_false_iff.mpr c76
  subst c76
  rw [if_neg nf_] at H
  obtain ⟨t372, A87, H⟩ := bd_ H
  simp only [Option.some.injEq, Prod.mk.injEq] at H
  obtain ⟨rfl, rfl, rfl, rfl, rfl, rfl⟩ := H
  have hcz92_0 := bc_ BK339.out 0
  have hfz92_0 := blk_frozen BK339.out 0
  obtain ⟨hcz96_0, hcz96_1, hcz96_2, hcz96_3, hcz96_4, hcz96_5⟩ := bk6_ BK340.out
  obtain ⟨hfz96_0, hfz96_1, hfz96_2, hfz96_3, hfz96_4, hfz96_5⟩ := bf6_ BK340.out
  go_wp2_with (first | ((with_reducible refine gate_callee (f := 144) rfl ?_); refine goesL_ (some 49) rfl rfl Try.func144 (by kernel_rfl) rfl #[.agg #[.slice A0_0 l0_0.length c0_0], .string a1_1, .string a1_2] rfl tq_0 ?_; (with_reducible refine (spec_MovedItems.calls kj55 _ _ l0_0 a1_1 a1_2 t372 _ ?side1 ?side2 A87.out).mono ?_); (case side1 => exact tq_10); (case side2 => exact HC0_0.out); rintro e w97 ⟨v373, rfl, ho0, hb⟩; refine ⟨_, rfl, ?_⟩; have z_ := p_ (Kd.R_elder' (raR_ HO_347000) (Kd.R_base ho0) hb) <| p_ (Kd.R_lower (Kd.R_new' ho0 (Kd.R_lt (raR_ HO_347000))) (below_size th_)) <| bw5_ (kb_ BK339) (kb_ BK340) (kb_ BK341) (kb_ BK342) (kb_ BK346) th_ hb; clear HO_347000 BK339 BK340 BK341 BK342 BK346 HB; obtain ⟨HO_347000, HO374, BK339, BK340, BK341, BK342, BK346, HB⟩ := z_; (try clear hb); (try clear ho0); obtain ⟨Ao98, co98, eo98⟩ := Kd.R_slice HO374.out; subst eo98; obtain ⟨n341_342, n342_341, n341_346, n346_341⟩ := an4_ NB341_342 NB342_341 NB341_346 NB346_341; have hcz101_0 := bc_ BK341.out 0; have hfz101_0 := blk_frozen BK341.out 0; obtain ⟨n342_346, n346_342⟩ := an2_ NB342_346 NB346_342; obtain ⟨hcz103_0, hcz103_1, hcz103_2, hcz103_3, hcz103_4⟩ := bk5_ BK342.out; obtain ⟨hfz103_0, hfz103_1, hfz103_2, hfz103_3, hfz103_4⟩ := bf5_ BK342.out))
  refine bodyPost_ret (results_cc rfl _ _ gb341 gb342 42 129 #[.slice Ao98 t372.length co98] #[.int .i64 0, .string (⟨#[]⟩ : ByteArray), .int .i64 0, .bool false, .slice none 0 0] (0, 0) (0, 0) _ _ rfl tb_ Try.underlying42 rfl (by kernel_rfl) rfl tb_ Try.underlying129 rfl (by kernel_rfl)) rfl ?_
  exact ⟨_, _, tq_1, (by (with_reducible repeat (first | apply Kd.R_alloc | apply Kd.R_drewN | apply Kd.R_drew)); exact Kd.R_mono (rR_ (rR_ (rR_ (rR_ (rR_ (rR_ (Kd.R_types (Kd.R_types HO374.out BK341.out (by decide)) BK342.out (by decide)) (fun _ hk => hk.1.2))))))) (fun _ hk => trivial)), tq_22, th_⟩
 subst c76
 rw [if_pos rfl] at H
 obtain ⟨⟨t365, t366, t367, t368, t369⟩, A77, H⟩ := bd_ H
 try dsimp -simprocs only at H
 simp only [Option.some.injEq, Prod.mk.injEq] at H
 obtain ⟨rfl, rfl, rfl, rfl, rfl, rfl⟩ := H
 try go_wp2
 have z_ := p_ (Kd.R_drew HO_347000.out) <| dw5_ BK339 BK340 BK341 BK342 BK346 HB
 clear HO_347000 BK339 BK340 BK341 BK342 BK346 HB
 obtain ⟨HO_347000, BK339, BK340, BK341, BK342, BK346, HB⟩ := z_
 refine start_ (n := 5) (S := fun w' => w'.cell? ⟨gb346, 0, none⟩ = some (.slice Ao15 t343.length co15)) (ds := []) bq_66 (by kernel_rfl) rfl rfl ((blk_cell BK346.out 0).trans rfl) (fun hHeld => ?_)
 generalize wc.drew = w78 at HO_347000 BK339 BK340 BK341 BK342 BK346 HB hHeld ⊢
 refine yq_ (i := 1) (N := some 42) bq_75 (by kernel_rfl) ?_
 refine take_ (i := 0) (N := some 41) (v := ?_) (a' := ?_) bq_76 rfl rfl (by kernel_rfl) (fun _ _ _ h => h) (Or.inl ⟨(by rfl), ?_⟩) hHeld ?_ ?_
 rotate_left
 ·intro w' s0
  go_simp
  with_reducible rfl
 rotate_left
 ·simp only [Act.put, List.setIfInBounds_toArray, List.set_cons_zero, List.set_cons_succ, i64_w, i32_w]
  rfl
 refine one_ (i := 2) (N := some 43) bq_77 rfl rfl (by kernel_rfl) (by decide) (fun K hK => ?_)
 refine goes_ Try.func125 (by kernel_rfl) rfl #[.int .i64 t362] (by rfl) rfl rfl tq_0 ?_
 with_reducible refine (spec_l17Fails.calls t362 t365 t366 t367 t368 t369 _ A77.out).mono ?_
 rintro e w79 ⟨v370, rfl, ho0, hb⟩
 refine ⟨_, rfl, ?_⟩
 have z_ := p_ (Kd.R_below (raR_ HO_347000) hb) <| p_ (Kd.R_lower ho0 (below_size th_)) <| bw5_ (kb_ BK339) (kb_ BK340) (kb_ BK341) (kb_ BK342) (kb_ BK346) th_ hb
 clear HO_347000 BK339 BK340 BK341 BK342 BK346 HB
 obtain ⟨HO_347000, HO371, BK339, BK340, BK341, BK342, BK346, HB⟩ := z_
 (try clear hb)
 (try clear ho0)
 obtain ⟨Ao85, co85, eo85⟩ := Kd.R_slice HO371.out
 (first | subst eo85 | (injection eo85 with f1_ f2_ f3_; have f4_ := f1_.symm; have f5_ := f3_.symm; clear f1_ f2_ f3_; subst f4_; subst f5_))
 refine hK.out _ _ ((blk_cell BK346.out 0).trans rfl) (fun hHeld => ?_)
 clear hK K
 refine nm_ (some 43) ?_
 refine one_ (i := 3) (N := none) bq_67 rfl rfl (by kernel_rfl) (by decide) (fun K hK => ?_)
 have hs80 : w79.cell? ⟨gb341, 0, none⟩ = some (.slice none 0 0) := (blk_cell BK341.out 0).trans rfl
 have hfs80 := blk_frozen BK341.out 0
 obtain ⟨n342_341, n346_341, n341_342, n341_346⟩ := an4_ NB342_341 NB346_341 NB341_342 NB341_346
 refine skip_ (w1 := ?_) (by rfl) rfl ?_ ?_
 rotate_left
 ·go_simp
  rfl
 refine hK.out _ _ ((cf_ NB346_341 hHeld)) (fun hHeld => ?_)
 clear hK K
 refine one_ (i := 4) (N := none) bq_68 rfl rfl (by kernel_rfl) (by decide) (fun K hK => ?_)
 have hs81 : w79.cell? ⟨gb342, 0, none⟩ = some (.int .i64 0) := (blk_cell BK342.out 0).trans rfl
 have hfs81 := blk_frozen BK342.out 0
 obtain ⟨n346_342, n342_346⟩ := an2_ NB346_342 NB342_346
 have hs82 : w79.cell? ⟨gb342, 1, none⟩ = some (.string (⟨#[]⟩ : ByteArray)) := (blk_cell BK342.out 1).trans rfl
 have hfs82 := blk_frozen BK342.out 1
 have hs83 : w79.cell? ⟨gb342, 2, none⟩ = some (.int .i64 0) := (blk_cell BK342.out 2).trans rfl
 have hfs83 := blk_frozen BK342.out 2
 have hs84 : w79.cell? ⟨gb342, 3, none⟩ = some (.bool false) := (blk_cell BK342.out 3).trans rfl
 have hfs84 := blk_frozen BK342.out 3
 have hs86 : w79.cell? ⟨gb342, 4, none⟩ = some (.slice none 0 0) := (blk_cell BK342.out 4).trans rfl
 have hfs86 := blk_frozen BK342.out 4
 refine skip_ (w1 := ?_) (by rfl) rfl ?_ ?_
 rotate_left
 ·go_simp
  rfl
 refine hK.out _ _ ((cf_ NB346_342 (cf_ NB346_342 (cf_ NB346_342 (cf_ NB346_342 (cf_ NB346_342 hHeld)))))) (fun hHeld => ?_)
 clear hK K
 refine done_ (by kernel_rfl) ?_
 try go_wp2
 refine bodyPost_ret (results_cc rfl _ _ gb341 gb342 42 129 #[.slice Ao15 t343.length co15] #[.int .i64 t365, .string t366, .int .i64 t367, .bool t368, .slice Ao85 t369.length co85] (0, 0) (0, 0) _ _ rfl tb_ Try.underlying42 rfl (by kernel_rfl) rfl tb_ Try.underlying129 rfl (by kernel_rfl)) rfl ?_
 exact ⟨_, _, tq_1, (by (with_reducible repeat (first | apply Kd.R_alloc | apply Kd.R_drewN | apply Kd.R_drew)); exact Kd.R_mono (rR_ (rR_ (rR_ (rR_ (rR_ (rR_ (Kd.R_types (Kd.R_types HO_347000.out BK341.out (by decide)) BK342.out (by decide)) (fun _ hk => hk.1.2))))))) (fun _ hk => trivial)), (by (with_reducible repeat (first | apply Kd.R_alloc | apply Kd.R_drewN | apply Kd.R_drew)); exact Kd.R_mono (rR_ (rR_ (rR_ (rR_ (rR_ (rR_ (Kd.R_types (Kd.R_types HO371.out BK341.out (by decide)) BK342.out (by decide)) (fun _ hk => hk.1.2))))))) (fun _ hk => trivial)), th_⟩

end Go.Proofs.Ytljnnmpfeningaa.PFnViews
