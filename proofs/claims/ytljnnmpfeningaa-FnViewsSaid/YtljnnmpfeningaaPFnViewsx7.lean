/- Contracts of Go functions, written by a program of ours over the print of the kit: each says that the call returns what the Lean function beside it computes. Conditions: as each theorem states them. -/
import Derived.Test.YtljnnmpfeningaaPkFnViews
import Derived.Test.YtljnnmpfeningaaPFnViewsx0
import Derived.Test.YtljnnmpfeningaaPFnViewsx3
import Derived.Test.YtljnnmpfeningaaPFnViewsx4
import Derived.Test.YtljnnmpfeningaaPFnViewsx5
import Derived.Test.YtljnnmpfeningaaPFnViewsx6
namespace Go.Proofs.Ytljnnmpfeningaa.PFnViews
open Go.RowKit Go.Proofs.YtljnnmpfeningaaW.PrintWords Go.Proofs.YtljnnmpfeningaaW.PrintLast Go.Proofs.YtljnnmpfeningaaW.PrintMore
attribute [local go_sem] max2_int min2_int max_two min_two max_three min_three max_four min_four   -- for this text's walks alone
set_option linter.unusedVariables false
set_option linter.unusedSimpArgs false

/-! ### spec_l17New: function 126 -/
mutual
def spec_l17New.j0 : Nat → Int → Bool → List (S44) → Int → ByteArray → ByteArray → Int → Int → ByteArray → Option ((List (S44)) × Int × ByteArray × Int × Bool × List ByteArray)
 | 0, _, _, _, _, _, _, _, _, _ => none
 | k + 1, x8, x23, x257000, x258000, x258001, x258002, x258003, x258004, x258005 => if x23 = true then (spec_l17New.j1 k 8 x257000 x258000 x258001 x258002 x258003 x258004 x258005) else (spec_l17New.j1 k x8 x257000 x258000 x258001 x258002 x258003 x258004 x258005)
def spec_l17New.j1 : Nat → Int → List (S44) → Int → ByteArray → ByteArray → Int → Int → ByteArray → Option ((List (S44)) × Int × ByteArray × Int × Bool × List ByteArray)
 | 0, _, _, _, _, _, _, _, _ => none
 | k + 1, x8, x257000, x258000, x258001, x258002, x258003, x258004, x258005 => if x8 = 0 then ((spec_PutItem.f k x257000 x258001 (x258000 == 2) (⟨#[]⟩ : ByteArray)).bind fun t261 => (some (t261, 0, (⟨#[]⟩ : ByteArray), 0, false, ([] : List ByteArray)))) else ((spec_l17Same.f x257000).bind fun t264 => ((spec_l17Fails.f x8).bind fun bt267 => (some (t264, bt267.1, bt267.2.1, bt267.2.2.1, bt267.2.2.2.1, bt267.2.2.2.2))))
end
def spec_l17New.f (k : Nat) (a0_0 : Int) (a0_1 : Int) (a0_2 : Int) (a0_3 : Int) (l1_0 : List (S44)) (a2_0 : Int) (a2_1 : ByteArray) (a2_2 : ByteArray) (a2_3 : Int) (a2_4 : Int) (a2_5 : ByteArray) : Option ((List (S44)) × Int × ByteArray × Int × Bool × List ByteArray) := (spec_PlaceFor.f k l1_0 a2_1).bind fun t260 => (if t260 = 0 then (spec_l17New.j0 k t260 (decide ((wrap64 ((l1_0.length : Int) + 1)) ≥ a0_2)) l1_0 a2_0 a2_1 a2_2 a2_3 a2_4 a2_5) else (spec_l17New.j0 k t260 false l1_0 a2_0 a2_1 a2_2 a2_3 a2_4 a2_5))
theorem spec_l17New.mono_l : ∀ k, (∀ y0 y1 y2 y3 y4 y5 y6 y7 y8, LeO (spec_l17New.j0 k y0 y1 y2 y3 y4 y5 y6 y7 y8) (spec_l17New.j0 (k + 1) y0 y1 y2 y3 y4 y5 y6 y7 y8)) ∧ (∀ y0 y1 y2 y3 y4 y5 y6 y7, LeO (spec_l17New.j1 k y0 y1 y2 y3 y4 y5 y6 y7) (spec_l17New.j1 (k + 1) y0 y1 y2 y3 y4 y5 y6 y7))
 | 0 => ⟨fun _ _ _ _ _ _ _ _ _ r h => by simp [spec_l17New.j0] at h, fun _ _ _ _ _ _ _ _ r h => by simp [spec_l17New.j1] at h⟩
 | k + 1 => by
  obtain ⟨ih0, ih1⟩ := spec_l17New.mono_l k
  refine ⟨?_, ?_⟩
  ·intro y0 y1 y2 y3 y4 y5 y6 y7 y8
   unfold spec_l17New.j0
   exact mo_4
  ·intro y0 y1 y2 y3 y4 y5 y6 y7
   unfold spec_l17New.j1
   exact mo_4
theorem spec_l17New.mono : ∀ a0 a1 a2 a3 a4 a5 a6 a7 a8 a9 a10 k, LeO (spec_l17New.f k a0 a1 a2 a3 a4 a5 a6 a7 a8 a9 a10) (spec_l17New.f (k + 1) a0 a1 a2 a3 a4 a5 a6 a7 a8 a9 a10) := by
 intro a0 a1 a2 a3 a4 a5 a6 a7 a8 a9 a10 k
 obtain ⟨ih0, ih1⟩ := spec_l17New.mono_l k
 unfold spec_l17New.f
 repeat' first
   | (with_reducible exact ih0 ..)
   | (with_reducible exact ih1 ..)
   | (with_reducible exact spec_PlaceFor.mono ..)
   | (with_reducible exact spec_PutItem.mono ..)
   | (with_reducible exact LeO.refl _)
   | (with_reducible exact LeO.none _)
   | (with_reducible refine LeO.ite ?_ ?_)
   | (with_reducible refine LeO.bind ?_ (fun _ => ?_))
   | exact ih0 ..
   | exact ih1 ..
   | exact spec_PlaceFor.mono ..
   | exact spec_PutItem.mono ..
   | exact LeO.none _
   | refine LeO.ite ?_ ?_
   | refine LeO.bind ?_ (fun _ => ?_)
set_option maxHeartbeats 8000000 in
set_option maxRecDepth 100000 in
theorem spec_l17New.calls (k : Nat) (a0_0 : Int) (a0_1 : Int) (a0_2 : Int) (a0_3 : Int) (A1_0 : Option Addr) (c1_0 : Nat) (l1_0 : List (S44)) (a2_0 : Int) (a2_1 : ByteArray) (a2_2 : ByteArray) (a2_3 : Int) (a2_4 : Int) (a2_5 : ByteArray) (r1 : List (S44)) (r2 : Int) (r3 : ByteArray) (r4 : Int) (r5 : Bool) (r6 : List ByteArray) (w : World) (hr1_0 : Kd.C k44 w A1_0 l1_0.length l1_0) (hc1_0 : l1_0.length ≤ c1_0) (h : spec_l17New.f k a0_0 a0_1 a0_2 a0_3 l1_0 a2_0 a2_1 a2_2 a2_3 a2_4 a2_5 = some (r1, r2, r3, r4, r5, r6)) :
  Calls Try.prog 126 #[.agg #[.int .i64 a0_0, .int .i64 a0_1, .int .i64 a0_2, .int .i64 a0_3], .agg #[.slice A1_0 l1_0.length c1_0], .agg #[.int .i64 a2_0, .string a2_1, .string a2_2, .int .i64 a2_3, .int .i64 a2_4, .string a2_5]] w fun e w' => ∃ v0_ v5_ : Value, e = .returned (.tuple #[.agg #[v0_], .agg #[.int .i64 r2, .string r3, .int .i64 r4, .bool r5, v5_]]) ∧ Kd.R k44 44 w' w.heap.size (fun _ => True) v0_ r1 ∧ Kd.R Kd.string 9 w' w.heap.size (fun _ => True) v5_ r6 ∧ Below w.heap.size w w' := by
 have hu30 := Try.underlying30
 have hu42 := Try.underlying42
 have hu133 := Try.underlying133
 have hu129 := Try.underlying129
 have hu44 := Try.underlying44
 have HR1_0 := Aside0.mk hr1_0
 have HC1_0 := Aside0.mk hc1_0
 clear hr1_0 hc1_0
 have HB := Aside0.mk (Below.refl w.heap.size w)
 unfold spec_l17New.f at h
 have H := h
 clear h
 obtain ⟨t260, A4, H⟩ := bd_ H
 have HC5 := Aside0.mk H
 clear H
 go_enter Try.func126, Try.ntmps126
 go_upto_region 2 with (first | ((with_reducible refine gate_dst (N := 3) rfl ?_); (try (refine gate_guard (by rfl) ?_; dsimp only)); refine be_ 3 (cs := #[.int .i64 a0_0, .int .i64 a0_1, .int .i64 a0_2, .int .i64 a0_3]) 30 ?_; intro gb255 hg w6 hbox hb; have z_ := bx0_ th_ hb hbox hg; clear HB; obtain ⟨HB, BK255, GW255, GE255⟩ := z_; clear hb hbox hg) | ((with_reducible refine gate_dst (N := 4) rfl ?_); (try (refine gate_guard (by rfl) ?_; dsimp only)); refine be_ 4 (cs := #[.slice A1_0 l1_0.length c1_0]) 42 ?_; intro gb256 hg w7 hbox hb; have z_ := bx1_ (kb_ BK255) th_ hb hbox hg; clear BK255 HB; obtain ⟨BK255, HB, BK256, GW256, GE256, NB255_256, NB256_255⟩ := z_; clear hb hbox hg) | ((with_reducible refine gate_dst (N := 5) rfl ?_); (try (refine gate_guard (by rfl) ?_; dsimp only)); refine be_ 5 (cs := #[.int .i64 a2_0, .string a2_1, .string a2_2, .int .i64 a2_3, .int .i64 a2_4, .string a2_5]) 133 ?_; intro gb257 hg w8 hbox hb; have z_ := bx2_ (kb_ BK255) (kb_ BK256) th_ hb hbox hg; clear BK255 BK256 HB; obtain ⟨BK255, BK256, HB, BK257, GW257, GE257, NB255_257, NB257_255, NB256_257, NB257_256⟩ := z_; clear hb hbox hg) | ((with_reducible refine gate_dst (N := 6) rfl ?_); (try (refine gate_guard (by rfl) ?_; dsimp only)); refine be_ 6 (cs := #[.slice none 0 0]) 42 ?_; intro gb258 hg w9 hbox hb; have z_ := bx3_ (kb_ BK255) (kb_ BK256) (kb_ BK257) th_ hb hbox hg; clear BK255 BK256 BK257 HB; obtain ⟨BK255, BK256, BK257, HB, BK258, GW258, GE258, NB255_258, NB258_255, NB256_258, NB258_256, NB257_258, NB258_257⟩ := z_; clear hb hbox hg) | ((with_reducible refine gate_dst (N := 7) rfl ?_); (try (refine gate_guard (by rfl) ?_; dsimp only)); refine be_ 7 (cs := #[.int .i64 0, .string (⟨#[]⟩ : ByteArray), .int .i64 0, .bool false, .slice none 0 0]) 129 ?_; intro gb259 hg w10 hbox hb; have z_ := bx4_ (kb_ BK255) (kb_ BK256) (kb_ BK257) (kb_ BK258) th_ hb hbox hg; clear BK255 BK256 BK257 BK258 HB; obtain ⟨BK255, BK256, BK257, BK258, HB, BK259, GW259, GE259, NB255_259, NB259_255, NB256_259, NB259_256, NB257_259, NB259_257, NB258_259, NB259_258⟩ := z_; clear hb hbox hg; obtain ⟨n256_255, n255_256, n256_257, n257_256, n256_258, n258_256, n256_259, n259_256⟩ := an8_ NB256_255 NB255_256 NB256_257 NB257_256 NB256_258 NB258_256 NB256_259 NB259_256; have hcz15_0 := bc_ BK256.out 0; have hfz15_0 := blk_frozen BK256.out 0; obtain ⟨n257_255, n255_257, n257_258, n258_257, n257_259, n259_257⟩ := an6_ NB257_255 NB255_257 NB257_258 NB258_257 NB257_259 NB259_257; obtain ⟨hcz19_0, hcz19_1, hcz19_2, hcz19_3, hcz19_4, hcz19_5⟩ := bk6_ BK257.out; obtain ⟨hfz19_0, hfz19_1, hfz19_2, hfz19_3, hfz19_4, hfz19_5⟩ := bf6_ BK257.out) | ((with_reducible refine gate_callee (f := 138) rfl ?_); refine goesL_ (some 12) rfl rfl Try.func138 (by kernel_rfl) rfl #[.agg #[.slice A1_0 l1_0.length c1_0], .string a2_1] rfl tq_0 ?_; (with_reducible refine (spec_PlaceFor.calls k _ _ l1_0 a2_1 t260 _ ?side1 ?side2 A4.out).mono ?_); (case side1 => exact tq_11); (case side2 => exact HC1_0.out); rintro e w20 ⟨rfl, hb⟩; refine ⟨_, rfl, ?_⟩; have z_ := bw5_ (kb_ BK255) (kb_ BK256) (kb_ BK257) (kb_ BK258) (kb_ BK259) th_ hb; clear BK255 BK256 BK257 BK258 BK259 HB; obtain ⟨BK255, BK256, BK257, BK258, BK259, HB⟩ := z_; (try clear hb)))
 (try simp only [Act.put, List.setIfInBounds_toArray, List.set_cons_zero, List.set_cons_succ])
 go_cut [23] (fun v23 wc => ∃ (kq : Nat) (x23_4 : Bool), v23 = .bool x23_4 ∧ Aside0 (spec_l17New.j0 kq t260 x23_4 l1_0 a2_0 a2_1 a2_2 a2_3 a2_4 a2_5 = some (r1, r2, r3, r4, r5, r6)) ∧ Aside0 (kq ≤ k) ∧ Aside0 (wc.heap[gb255]? = some (.cells #[.int .i64 a0_0, .int .i64 a0_1, .int .i64 a0_2, .int .i64 a0_3] 30 (0, 0))) ∧ Aside0 (wc.heap[gb256]? = some (.cells #[(.slice A1_0 l1_0.length c1_0)] 42 (0, 0))) ∧ Aside0 (wc.heap[gb257]? = some (.cells #[.int .i64 a2_0, .string a2_1, .string a2_2, .int .i64 a2_3, .int .i64 a2_4, .string a2_5] 133 (0, 0))) ∧ Aside0 (wc.heap[gb258]? = some (.cells #[(.slice none 0 0)] 42 (0, 0))) ∧ Aside0 (wc.heap[gb259]? = some (.cells #[.int .i64 0, .string (⟨#[]⟩ : ByteArray), .int .i64 0, .bool false, (.slice none 0 0)] 129 (0, 0))) ∧ Aside0 (Below w.heap.size w wc))
 case first =>
  have H := HC5.out
  clear HC5
  by_cases c21 : t260 = 0
  rotate_left
  ·rw [if_neg c21] at H
   have c21b0 := beq_eq_false_iff_ne.mpr c21
   have c21b1 := bne_iff_ne.mpr c21
   (first | rw [c21b0] | (simp only [i64_w, i32_w]; rw [c21b0]) | skip)
   have H' := Aside0.mk H
   clear H
   go_wp2
   go_meet
   case rel => exact ⟨_, (false), tq_5, H', ⟨tq_38⟩, ⟨(kb_ BK255)⟩, ⟨(kb_ BK256)⟩, ⟨(kb_ BK257)⟩, ⟨(kb_ BK258)⟩, ⟨(kb_ BK259)⟩, ⟨th_⟩⟩
  rw [if_pos c21] at H
  have c21b0 := beq_iff_eq.mpr c21
  have c21b1 := bne_eq_false_iff_eq.mpr c21
  clear c21
  (first | rw [c21b0] | (simp only [i64_w, i32_w]; rw [c21b0]) | skip)
  have H' := Aside0.mk H
  clear H
  have hcz26_0 := bc_ BK256.out 0
  have hfz26_0 := blk_frozen BK256.out 0
  obtain ⟨n255_258, n258_255, n255_259, n259_255⟩ := an4_ NB255_258 NB258_255 NB255_259 NB259_255
  obtain ⟨hcz30_0, hcz30_1, hcz30_2, hcz30_3⟩ := bk4_ BK255.out
  obtain ⟨hfz30_0, hfz30_1, hfz30_2, hfz30_3⟩ := bf4_ BK255.out
  go_wp2
  go_meet
  case rel => exact ⟨_, (decide ((wrap64 ((l1_0.length : Int) + 1)) ≥ a0_2)), tq_5, H', ⟨tq_38⟩, ⟨(kb_ BK255)⟩, ⟨(kb_ BK256)⟩, ⟨(kb_ BK257)⟩, ⟨(kb_ BK258)⟩, ⟨(kb_ BK259)⟩, ⟨th_⟩⟩
 case rest =>
 clear HC5
 try clear c1; try clear c2; try clear p2; try clear p6; try clear c11; try clear c12; try clear c13; try clear c14; try clear c16; try clear c17; try clear c18; try clear c21; try clear c21b0; try clear c21b1; try clear c22; try clear c23; try clear c24; try clear c25; try clear c27; try clear c28; try clear c29; try clear hcz15_0; try clear hcz19_0 hcz19_1 hcz19_2 hcz19_3 hcz19_4 hcz19_5; try clear hcz26_0; try clear hcz30_0 hcz30_1 hcz30_2 hcz30_3; try clear hfz15_0; try clear hfz19_0 hfz19_1 hfz19_2 hfz19_3 hfz19_4 hfz19_5; try clear hfz26_0; try clear hfz30_0 hfz30_1 hfz30_2 hfz30_3
 obtain ⟨kq, x23_4, rfl, HA, HJ4, BK255, BK256, BK257, BK258, BK259, HB⟩ := hcut
 cases kq with
 | zero => exact absurd HA.out (by simp [spec_l17New.j0])
 | succ kj4 =>
 have H := HA.out
 clear HA
 simp only [spec_l17New.j0] at H
 have HC31 := Aside0.mk H
 clear H
 go_upto_if 23 with (fail)
 go_cut [8] (fun v8 wc => ∃ (kq : Nat) (x8_30 : Int), v8 = .int .i64 x8_30 ∧ Aside0 (spec_l17New.j1 kq x8_30 l1_0 a2_0 a2_1 a2_2 a2_3 a2_4 a2_5 = some (r1, r2, r3, r4, r5, r6)) ∧ Aside0 (kq ≤ kj4) ∧ Aside0 (wc.heap[gb255]? = some (.cells #[.int .i64 a0_0, .int .i64 a0_1, .int .i64 a0_2, .int .i64 a0_3] 30 (0, 0))) ∧ Aside0 (wc.heap[gb256]? = some (.cells #[(.slice A1_0 l1_0.length c1_0)] 42 (0, 0))) ∧ Aside0 (wc.heap[gb257]? = some (.cells #[.int .i64 a2_0, .string a2_1, .string a2_2, .int .i64 a2_3, .int .i64 a2_4, .string a2_5] 133 (0, 0))) ∧ Aside0 (wc.heap[gb258]? = some (.cells #[(.slice none 0 0)] 42 (0, 0))) ∧ Aside0 (wc.heap[gb259]? = some (.cells #[.int .i64 0, .string (⟨#[]⟩ : ByteArray), .int .i64 0, .bool false, (.slice none 0 0)] 129 (0, 0))) ∧ Aside0 (Below w.heap.size w wc))
 case first =>
  have H := HC31.out
  clear HC31
  by_cases c32 : x23_4 = true
  ·subst c32
   rw [if_pos rfl] at H
   have H' := Aside0.mk H
   clear H
   go_wp2
   go_meet
   case rel => exact ⟨_, (8), tq_5, H', ⟨(by have := HJ4.out; first | omega | exact Nat.le_refl _)⟩, ⟨(kb_ BK255)⟩, ⟨(kb_ BK256)⟩, ⟨(kb_ BK257)⟩, ⟨(kb_ BK258)⟩, ⟨(kb_ BK259)⟩, ⟨th_⟩⟩
  replace c32 := Bool.eq_false_iff.mpr c32
  subst c32
  rw [if_neg nf_] at H
  have H' := Aside0.mk H
  clear H
  go_wp2
  go_meet
  case rel => exact ⟨_, (t260), tq_5, H', ⟨(by have := HJ4.out; first | omega | exact Nat.le_refl _)⟩, ⟨(kb_ BK255)⟩, ⟨(kb_ BK256)⟩, ⟨(kb_ BK257)⟩, ⟨(kb_ BK258)⟩, ⟨(kb_ BK259)⟩, ⟨th_⟩⟩
 case rest =>
 clear HC31
 try clear c1; try clear c2; try clear p2; try clear c3; try clear p6; try clear c11; try clear c12; try clear c13; try clear c14; try clear c16; try clear c17; try clear c18; try clear c21; try clear c21b0; try clear c21b1; try clear c22; try clear c23; try clear c24; try clear c25; try clear c27; try clear c28; try clear c29; try clear c32; try clear hcz15_0; try clear hcz19_0 hcz19_1 hcz19_2 hcz19_3 hcz19_4 hcz19_5; try clear hcz26_0; try clear hcz30_0 hcz30_1 hcz30_2 hcz30_3; try clear hfz15_0; try clear hfz19_0 hfz19_1 hfz19_2 hfz19_3 hfz19_4 hfz19_5; try clear hfz26_0; try clear hfz30_0 hfz30_1 hfz30_2 hfz30_3; try clear p2; try clear p6
 obtain ⟨kq, x8_30, rfl, HA, HJ30, BK255, BK256, BK257, BK258, BK259, HB⟩ := hcut
 cases kq with
 | zero => exact absurd HA.out (by simp [spec_l17New.j1])
 | succ kj30 =>
 have H := HA.out
 clear HA
 simp only [spec_l17New.j1] at H
 by_cases c33 : x8_30 = 0
 ·rw [if_pos c33] at H
  have c33b0 := beq_iff_eq.mpr c33
  have c33b1 := bne_eq_false_iff_eq.mpr c33
  clear c33
  obtain ⟨t261, A34, H⟩ := bd_ H
  simp only [Option.some.injEq, Prod.mk.injEq] at H
  obtain ⟨rfl, rfl, rfl, rfl, rfl, rfl⟩ := H
  have hcz39_0 := bc_ BK256.out 0
  have hfz39_0 := blk_frozen BK256.out 0
  obtain ⟨hcz43_0, hcz43_1, hcz43_2, hcz43_3, hcz43_4, hcz43_5⟩ := bk6_ BK257.out
  obtain ⟨hfz43_0, hfz43_1, hfz43_2, hfz43_3, hfz43_4, hfz43_5⟩ := bf6_ BK257.out
  go_wp2_with (first | ((with_reducible refine gate_callee (f := 17) rfl ?_); refine goesL_ (some 37) rfl rfl Try.func17 (by kernel_rfl) rfl #[.agg #[.slice A1_0 l1_0.length c1_0], .agg #[.string a2_1, .bool (a2_0 == 2), .string (⟨#[]⟩ : ByteArray)]] rfl tq_0 ?_; (with_reducible refine (spec_PutItem.calls kj30 _ _ l1_0 a2_1 (a2_0 == 2) (⟨#[]⟩ : ByteArray) t261 _ ?side1 ?side2 A34.out).mono ?_); (case side1 => exact tq_11); (case side2 => exact HC1_0.out); rintro e w44 ⟨v262, rfl, ho0, hb⟩; refine ⟨_, rfl, ?_⟩; have z_ := p_ (Kd.R_lower ho0 (below_size th_)) <| bw5_ (kb_ BK255) (kb_ BK256) (kb_ BK257) (kb_ BK258) (kb_ BK259) th_ hb; clear BK255 BK256 BK257 BK258 BK259 HB; obtain ⟨HO263, BK255, BK256, BK257, BK258, BK259, HB⟩ := z_; (try clear hb); (try clear ho0); obtain ⟨Ao45, co45, eo45⟩ := Kd.R_slice HO263.out; subst eo45; obtain ⟨n258_255, n255_258, n258_259, n259_258⟩ := an4_ NB258_255 NB255_258 NB258_259 NB259_258; have hcz48_0 := bc_ BK258.out 0; have hfz48_0 := blk_frozen BK258.out 0; obtain ⟨n259_255, n255_259⟩ := an2_ NB259_255 NB255_259; obtain ⟨hcz50_0, hcz50_1, hcz50_2, hcz50_3, hcz50_4⟩ := bk5_ BK259.out; obtain ⟨hfz50_0, hfz50_1, hfz50_2, hfz50_3, hfz50_4⟩ := bf5_ BK259.out))
  refine bodyPost_ret (results_cc rfl _ _ gb258 gb259 42 129 #[.slice Ao45 t261.length co45] #[.int .i64 0, .string (⟨#[]⟩ : ByteArray), .int .i64 0, .bool false, .slice none 0 0] (0, 0) (0, 0) _ _ rfl tb_ Try.underlying42 rfl (by kernel_rfl) rfl tb_ Try.underlying129 rfl (by kernel_rfl)) rfl ?_
  exact ⟨_, _, tq_1, (by (with_reducible repeat (first | apply Kd.R_alloc | apply Kd.R_drewN | apply Kd.R_drew)); exact Kd.R_mono (rR_ (rR_ (rR_ (rR_ (rR_ (rR_ (Kd.R_types (Kd.R_types HO263.out BK258.out (by decide)) BK259.out (by decide)) (fun _ hk => hk.1.2))))))) (fun _ hk => trivial)), tq_22, th_⟩
 rw [if_neg c33] at H
 have c33b0 := beq_eq_false_iff_ne.mpr c33
 have c33b1 := bne_iff_ne.mpr c33
 obtain ⟨t264, A51, H⟩ := bd_ H
 obtain ⟨⟨t267, t268, t269, t270, t271⟩, A52, H⟩ := bd_ H
 try dsimp -simprocs only at H
 simp only [Option.some.injEq, Prod.mk.injEq] at H
 obtain ⟨rfl, rfl, rfl, rfl, rfl, rfl⟩ := H
 have hcz57_0 := bc_ BK256.out 0
 have hfz57_0 := blk_frozen BK256.out 0
 go_wp2_with (first | ((with_reducible refine gate_callee (f := 123) rfl ?_); refine goesL_ (some 27) rfl rfl Try.func123 (by kernel_rfl) rfl #[.agg #[.slice A1_0 l1_0.length c1_0]] rfl tq_0 ?_; (with_reducible refine (spec_l17Same.calls _ _ l1_0 t264 _ ?side1 ?side2 A51.out).mono ?_); (case side1 => exact tq_11); (case side2 => exact HC1_0.out); rintro e w58 ⟨v265, rfl, ho0, hb⟩; refine ⟨_, rfl, ?_⟩; have z_ := p_ (Kd.R_lower ho0 (below_size th_)) <| bw5_ (kb_ BK255) (kb_ BK256) (kb_ BK257) (kb_ BK258) (kb_ BK259) th_ hb; clear BK255 BK256 BK257 BK258 BK259 HB; obtain ⟨HO266, BK255, BK256, BK257, BK258, BK259, HB⟩ := z_; (try clear hb); (try clear hk); (try clear ho0)) | ((with_reducible refine gate_callee (f := 125) rfl ?_); refine goesL_ (some 29) rfl rfl Try.func125 (by kernel_rfl) rfl #[.int .i64 x8_30] rfl tq_0 ?_; (with_reducible refine (spec_l17Fails.calls x8_30 t267 t268 t269 t270 t271 _ A52.out).mono ?_); rintro e w59 ⟨v272, rfl, ho0, hb⟩; refine ⟨_, rfl, ?_⟩; have z_ := p_ (Kd.R_below (raR_ HO266) hb) <| p_ (Kd.R_lower ho0 (below_size th_)) <| bw5_ (kb_ BK255) (kb_ BK256) (kb_ BK257) (kb_ BK258) (kb_ BK259) th_ hb; clear HO266 BK255 BK256 BK257 BK258 BK259 HB; obtain ⟨HO266, HO273, BK255, BK256, BK257, BK258, BK259, HB⟩ := z_; (try clear hb); (try clear ho0); obtain ⟨Ao60, co60, eo60⟩ := Kd.R_slice HO266.out; subst eo60; obtain ⟨n258_255, n255_258, n258_257, n257_258, n258_259, n259_258⟩ := an6_ NB258_255 NB255_258 NB258_257 NB257_258 NB258_259 NB259_258; have hcz64_0 := bc_ BK258.out 0; have hfz64_0 := blk_frozen BK258.out 0; obtain ⟨n259_255, n255_259, n259_257, n257_259⟩ := an4_ NB259_255 NB255_259 NB259_257 NB257_259; obtain ⟨hcz67_0, hcz67_1, hcz67_2, hcz67_3, hcz67_4⟩ := bk5_ BK259.out; obtain ⟨hfz67_0, hfz67_1, hfz67_2, hfz67_3, hfz67_4⟩ := bf5_ BK259.out; obtain ⟨Ao68, co68, eo68⟩ := Kd.R_slice HO273.out; subst eo68))
 refine bodyPost_ret (results_cc rfl _ _ gb258 gb259 42 129 #[.slice Ao60 t264.length co60] #[.int .i64 t267, .string t268, .int .i64 t269, .bool t270, .slice Ao68 t271.length co68] (0, 0) (0, 0) _ _ rfl tb_ Try.underlying42 rfl (by kernel_rfl) rfl tb_ Try.underlying129 rfl (by kernel_rfl)) rfl ?_
 exact ⟨_, _, tq_1, (by (with_reducible repeat (first | apply Kd.R_alloc | apply Kd.R_drewN | apply Kd.R_drew)); exact Kd.R_mono (rR_ (rR_ (rR_ (rR_ (rR_ (rR_ (Kd.R_types (Kd.R_types HO266.out BK258.out (by decide)) BK259.out (by decide)) (fun _ hk => hk.1.2))))))) (fun _ hk => trivial)), (by (with_reducible repeat (first | apply Kd.R_alloc | apply Kd.R_drewN | apply Kd.R_drew)); exact Kd.R_mono (rR_ (rR_ (rR_ (rR_ (rR_ (rR_ (Kd.R_types (Kd.R_types HO273.out BK258.out (by decide)) BK259.out (by decide)) (fun _ hk => hk.1.2))))))) (fun _ hk => trivial)), th_⟩

/-! ### spec_IsUnder: function 143 -/
mutual
def spec_IsUnder.j0 : Nat → List ByteArray → List ByteArray → Bool → Option (Bool)
 | 0, _, _, _ => none
 | k + 1, x5, x7, x32 => if x32 = true then (some false) else (spec_IsUnder.l0 k x5 x7 0)
def spec_IsUnder.l0 : Nat → List ByteArray → List ByteArray → Int → Option (Bool)
 | 0, _, _, _ => none
 | k + 1, x5, x7, x9 => if x9 < (x7.length : Int) then (if 0 ≤ x9 then (if x9 < (x5.length : Int) then (if (rdOf ByteArray.empty x5 x9).toList = (rdOf ByteArray.empty x7 x9).toList then (spec_IsUnder.l0 k x5 x7 (wrap64 (x9 + 1))) else (some false)) else (none)) else (none)) else (some true)
end
def spec_IsUnder.f (k : Nat) (a0 : ByteArray) (a1 : ByteArray) : Option (Bool) := (spec_SplitPath.f k a0).bind fun bt274 => ((spec_SplitPath.f k a1).bind fun bt278 => (if bt274.2 = 0 then (if bt278.2 = 0 then (spec_IsUnder.j0 k bt274.1 bt278.1 (decide ((bt274.1.length : Int) ≤ (bt278.1.length : Int)))) else (spec_IsUnder.j0 k bt274.1 bt278.1 true)) else (spec_IsUnder.j0 k bt274.1 bt278.1 true)))
theorem spec_IsUnder.mono_l : ∀ k, (∀ y0 y1 y2, LeO (spec_IsUnder.j0 k y0 y1 y2) (spec_IsUnder.j0 (k + 1) y0 y1 y2)) ∧ (∀ y0 y1 y2, LeO (spec_IsUnder.l0 k y0 y1 y2) (spec_IsUnder.l0 (k + 1) y0 y1 y2))
 | 0 => ⟨fun _ _ _ r h => by simp [spec_IsUnder.j0] at h, fun _ _ _ r h => by simp [spec_IsUnder.l0] at h⟩
 | k + 1 => by
  obtain ⟨ih0, ih1⟩ := spec_IsUnder.mono_l k
  refine ⟨?_, ?_⟩
  ·intro y0 y1 y2
   unfold spec_IsUnder.j0
   exact mo_5
  ·intro y0 y1 y2
   unfold spec_IsUnder.l0
   exact mo_5
theorem spec_IsUnder.mono : ∀ a0 a1 k, LeO (spec_IsUnder.f k a0 a1) (spec_IsUnder.f (k + 1) a0 a1) := by
 intro a0 a1 k
 obtain ⟨ih0, ih1⟩ := spec_IsUnder.mono_l k
 unfold spec_IsUnder.f
 repeat' first
   | (with_reducible exact ih0 ..)
   | (with_reducible exact ih1 ..)
   | (with_reducible exact spec_SplitPath.mono ..)
   | (with_reducible exact LeO.refl _)
   | (with_reducible exact LeO.none _)
   | (with_reducible refine LeO.ite ?_ ?_)
   | (with_reducible refine LeO.bind ?_ (fun _ => ?_))
   | exact ih0 ..
   | exact ih1 ..
   | exact spec_SplitPath.mono ..
   | exact LeO.none _
   | refine LeO.ite ?_ ?_
   | refine LeO.bind ?_ (fun _ => ?_)
set_option maxHeartbeats 8000000 in
set_option maxRecDepth 100000 in
theorem spec_IsUnder.calls (k : Nat) (a0 : ByteArray) (a1 : ByteArray) (r : Bool) (w : World) (h : spec_IsUnder.f k a0 a1 = some r) :
  Calls Try.prog 143 #[.string a0, .string a1] w fun e w' => e = .returned (.bool r) ∧ Below w.heap.size w w' := by
 have HB := Aside0.mk (Below.refl w.heap.size w)
 unfold spec_IsUnder.f at h
 have H := h
 clear h
 obtain ⟨⟨t274, t275⟩, A3, H⟩ := bd_ H
 try dsimp -simprocs only at H
 obtain ⟨⟨t278, t279⟩, A4, H⟩ := bd_ H
 try dsimp -simprocs only at H
 have HC5 := Aside0.mk H
 clear H
 go_enter Try.func143, Try.ntmps143
 go_upto_region 3 with (first | (go_at_call 139; (with_reducible refine (spec_SplitPath.calls k a0 t274 t275 _ A3.out).mono ?_); rintro e w6 ⟨v276, rfl, ho0, hb⟩; have z_ := p_ (Kd.R_lower ho0 (below_size th_)) <| a_ (below_step th_ hb); clear HB; obtain ⟨HO277, HB⟩ := z_; (try clear hb); (try clear ho0)) | (go_at_call 139; (with_reducible refine (spec_SplitPath.calls k a1 t278 t279 _ A4.out).mono ?_); rintro e w7 ⟨v280, rfl, ho0, hb⟩; have z_ := p_ (Kd.R_elder' (raR_ HO277) (Kd.R_base ho0) hb) <| p_ (Kd.R_lower (Kd.R_new' ho0 (Kd.R_lt (raR_ HO277))) (below_size th_)) <| a_ (below_step th_ hb); clear HO277 HB; obtain ⟨HO277, HO281, HB⟩ := z_; (try clear hb); (try clear ho0)))
 repeat (go_quiet (first | (go_at_call 139; (with_reducible refine (spec_SplitPath.calls k a0 t274 t275 _ A3.out).mono ?_); rintro e w6 ⟨v276, rfl, ho0, hb⟩; have z_ := p_ (Kd.R_lower ho0 (below_size th_)) <| a_ (below_step th_ hb); clear HB; obtain ⟨HO277, HB⟩ := z_; (try clear hb); (try clear ho0)) | (go_at_call 139; (with_reducible refine (spec_SplitPath.calls k a1 t278 t279 _ A4.out).mono ?_); rintro e w7 ⟨v280, rfl, ho0, hb⟩; have z_ := p_ (Kd.R_elder' (raR_ HO277) (Kd.R_base ho0) hb) <| p_ (Kd.R_lower (Kd.R_new' ho0 (Kd.R_lt (raR_ HO277))) (below_size th_)) <| a_ (below_step th_ hb); clear HO277 HB; obtain ⟨HO277, HO281, HB⟩ := z_; (try clear hb); (try clear ho0))); go_upto_region 3 with (first | (go_at_call 139; (with_reducible refine (spec_SplitPath.calls k a0 t274 t275 _ A3.out).mono ?_); rintro e w6 ⟨v276, rfl, ho0, hb⟩; have z_ := p_ (Kd.R_lower ho0 (below_size th_)) <| a_ (below_step th_ hb); clear HB; obtain ⟨HO277, HB⟩ := z_; (try clear hb); (try clear ho0)) | (go_at_call 139; (with_reducible refine (spec_SplitPath.calls k a1 t278 t279 _ A4.out).mono ?_); rintro e w7 ⟨v280, rfl, ho0, hb⟩; have z_ := p_ (Kd.R_elder' (raR_ HO277) (Kd.R_base ho0) hb) <| p_ (Kd.R_lower (Kd.R_new' ho0 (Kd.R_lt (raR_ HO277))) (below_size th_)) <| a_ (below_step th_ hb); clear HO277 HB; obtain ⟨HO277, HO281, HB⟩ := z_; (try clear hb); (try clear ho0))))
 (try simp only [Act.put, List.setIfInBounds_toArray, List.set_cons_zero, List.set_cons_succ])
 go_cut [32] (fun v32 wc => ∃ (kq : Nat) (x32_4 : Bool), v32 = .bool x32_4 ∧ Aside0 (spec_IsUnder.j0 kq t274 t278 x32_4 = some r) ∧ Aside0 (kq ≤ k) ∧ Aside0 (Kd.R Kd.string 9 wc w.heap.size (fun k_ => some k_ ≠ (v280 : Value).ownBlock) v276 t274) ∧ Aside0 (Kd.R Kd.string 9 wc w.heap.size (fun k_ => some k_ ≠ (v276 : Value).ownBlock) v280 t278) ∧ Aside0 (Below w.heap.size w wc))
 case first =>
  have H := HC5.out
  clear HC5
  by_cases c8 : t275 = 0
  rotate_left
  ·rw [if_neg c8] at H
   have c8b0 := beq_eq_false_iff_ne.mpr c8
   have c8b1 := bne_iff_ne.mpr c8
   (first | rw [c8b0] | (simp only [i64_w, i32_w]; rw [c8b0]) | skip)
   have H' := Aside0.mk H
   clear H
   go_wp2
   repeat (go_quiet (fail); try go_wp2)
   go_meet
   case rel => exact ⟨_, (true), tq_5, H', ⟨tq_38⟩, ⟨tq_87⟩, ⟨tq_86⟩, ⟨th_⟩⟩
  rw [if_pos c8] at H
  have c8b0 := beq_iff_eq.mpr c8
  have c8b1 := bne_eq_false_iff_eq.mpr c8
  clear c8
  (first | rw [c8b0] | (simp only [i64_w, i32_w]; rw [c8b0]) | skip)
  by_cases c9 : t279 = 0
  rotate_left
  ·rw [if_neg c9] at H
   have c9b0 := beq_eq_false_iff_ne.mpr c9
   have c9b1 := bne_iff_ne.mpr c9
   have H' := Aside0.mk H
   clear H
   go_wp2
   repeat (go_quiet (fail); try go_wp2)
   go_meet
   case rel => exact ⟨_, (true), tq_5, H', ⟨tq_38⟩, ⟨tq_87⟩, ⟨tq_86⟩, ⟨th_⟩⟩
  rw [if_pos c9] at H
  have c9b0 := beq_iff_eq.mpr c9
  have c9b1 := bne_eq_false_iff_eq.mpr c9
  clear c9
  have H' := Aside0.mk H
  clear H
  obtain ⟨Ao10, co10, eo10⟩ := Kd.R_slice HO277.out
  subst eo10
  obtain ⟨Ao11, co11, eo11⟩ := Kd.R_slice HO281.out
  subst eo11
  go_wp2
  repeat (go_quiet (fail); try go_wp2)
  go_meet
  case rel => exact ⟨_, (decide ((t274.length : Int) ≤ (t278.length : Int))), tq_5, H', ⟨tq_38⟩, ⟨tq_87⟩, ⟨tq_86⟩, ⟨th_⟩⟩
 case rest =>
 clear HC5
 try clear c1; try clear p2; try clear c8; try clear c8b0; try clear c8b1; try clear c9; try clear c9b0; try clear c9b1
 obtain ⟨kq, x32_4, rfl, HA, HJ4, HO_5, HO_7, HB⟩ := hcut
 cases kq with
 | zero => exact absurd HA.out (by simp [spec_IsUnder.j0])
 | succ kj4 =>
 have H := HA.out
 clear HA
 simp only [spec_IsUnder.j0] at H
 by_cases c12 : x32_4 = true
 ·subst c12
  rw [if_pos rfl] at H
  obtain rfl := Option.some.inj H
  go_wp2
  repeat (go_quiet (fail); try go_wp2)
  go_ret
  exact ⟨tq_1, th_⟩
 replace c12 := Bool.eq_false_iff.mpr c12
 subst c12
 rw [if_neg nf_] at H
 have H' := Aside0.mk H
 clear H
 go_wp2
 repeat (go_quiet (fail); try go_wp2)
 go_loopg [9] kj4 (fun kq v9 w' => ∃ (x9_2 : Int), v9 = .int .i64 x9_2 ∧ Aside0 (spec_IsUnder.l0 kq t274 t278 x9_2 = some r) ∧ Aside0 (kq ≤ kj4) ∧ Aside0 (Kd.R Kd.string 9 w' w.heap.size (fun k_ => some k_ ≠ (v280 : Value).ownBlock) v276 t274) ∧ Aside0 (Kd.R Kd.string 9 w' w.heap.size (fun k_ => some k_ ≠ (v276 : Value).ownBlock) v280 t278) ∧ Aside0 (Below w.heap.size w w'))
 case atStart => exact ⟨(0), tq_5, H', ⟨Nat.le_refl _⟩, ⟨(raR_ HO_5)⟩, ⟨(raR_ HO_7)⟩, ⟨th_⟩⟩
 case round =>
 clear H'
 try clear c1; try clear p2; try clear c8; try clear c8b0; try clear c8b1; try clear c9; try clear c9b0; try clear c9b1; try clear c12; try clear p2
 obtain ⟨x9_2, rfl, HA, HK2, HO_5, HO_7, HB⟩ := hrel
 cases gk with
 | zero => exact absurd HA.out (by simp [spec_IsUnder.l0])
 | succ k2 =>
 have H := HA.out
 clear HA
 simp only [spec_IsUnder.l0] at H
 by_cases c13 : x9_2 < (t278.length : Int)
 rotate_left
 ·rw [if_neg c13] at H
  have c13b0 := decide_eq_false c13
  clear c13
  obtain rfl := Option.some.inj H
  obtain ⟨Ao21, co21, eo21⟩ := Kd.R_slice HO_7.out
  subst eo21
  go_wp2
  repeat (go_quiet (fail); try go_wp2)
  go_ret
  exact ⟨tq_1, th_⟩
 rw [if_pos c13] at H
 have c13b0 := decide_eq_true c13
 clear c13
 obtain ⟨c14, H⟩ := fc_ H
 have c14b0 := decide_eq_true c14
 clear c14
 obtain ⟨c15, H⟩ := fc_ H
 have c15b0 := decide_eq_true c15
 clear c15
 by_cases c16 : (rdOf ByteArray.empty t274 x9_2).toList = (rdOf ByteArray.empty t278 x9_2).toList
 rotate_left
 ·rw [if_neg c16] at H
  have c16b0 := beq_eq_false_iff_ne.mpr c16
  have c16b1 := bne_iff_ne.mpr c16
  obtain rfl := Option.some.inj H
  obtain ⟨Ao19, co19, eo19⟩ := Kd.R_slice HO_7.out
  subst eo19
  obtain ⟨Ao20, co20, eo20⟩ := Kd.R_slice HO_5.out
  subst eo20
  have p282 : 0 ≤ (x9_2 : Int) := of_decide_eq_true tq_3
  have q282 : x9_2 < (t274.length : Int) := of_decide_eq_true tq_3
  obtain ⟨ad282, e282, hx282_0⟩ := Kd.at_string (Kd.R_reads' HO_5.out).2.2 x9_2 p282 q282
  cases e282
  replace p282 := eq_true p282
  replace q282 := eq_true q282
  have p283 : 0 ≤ (x9_2 : Int) := of_decide_eq_true tq_3
  have q283 : x9_2 < (t278.length : Int) := of_decide_eq_true tq_3
  obtain ⟨ad283, e283, hx283_0⟩ := Kd.at_string (Kd.R_reads' HO_7.out).2.2 x9_2 p283 q283
  cases e283
  replace p283 := eq_true p283
  replace q283 := eq_true q283
  go_wp2
  repeat (go_quiet (fail); try go_wp2)
  go_ret
  exact ⟨tq_1, th_⟩
 rw [if_pos c16] at H
 have c16b0 := beq_iff_eq.mpr c16
 have c16b1 := bne_eq_false_iff_eq.mpr c16
 clear c16
 have H' := Aside0.mk H
 clear H
 obtain ⟨Ao17, co17, eo17⟩ := Kd.R_slice HO_7.out
 subst eo17
 obtain ⟨Ao18, co18, eo18⟩ := Kd.R_slice HO_5.out
 subst eo18
 have p282 : 0 ≤ (x9_2 : Int) := of_decide_eq_true tq_3
 have q282 : x9_2 < (t274.length : Int) := of_decide_eq_true tq_3
 obtain ⟨ad282, e282, hx282_0⟩ := Kd.at_string (Kd.R_reads' HO_5.out).2.2 x9_2 p282 q282
 cases e282
 replace p282 := eq_true p282
 replace q282 := eq_true q282
 have p283 : 0 ≤ (x9_2 : Int) := of_decide_eq_true tq_3
 have q283 : x9_2 < (t278.length : Int) := of_decide_eq_true tq_3
 obtain ⟨ad283, e283, hx283_0⟩ := Kd.at_string (Kd.R_reads' HO_7.out).2.2 x9_2 p283 q283
 cases e283
 replace p283 := eq_true p283
 replace q283 := eq_true q283
 go_wp2
 repeat (go_quiet (fail); try go_wp2)
 go_roundg k2
 case measure => have := HJ4.out; have := HK2.out; omega
 case rel => exact ⟨(wrap64 (x9_2 + 1)), tq_5, H', ⟨(by have := HJ4.out; have := HK2.out; omega)⟩, ⟨(raR_ HO_5)⟩, ⟨(raR_ HO_7)⟩, ⟨th_⟩⟩

end Go.Proofs.Ytljnnmpfeningaa.PFnViews
