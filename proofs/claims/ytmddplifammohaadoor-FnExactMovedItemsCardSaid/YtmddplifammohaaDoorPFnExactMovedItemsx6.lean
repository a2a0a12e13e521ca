/- Contracts of Go functions, written by a program of ours over the print of the kit: each says that the call returns what the Lean function beside it computes. Conditions: as each theorem states them. -/
import Derived.Test.YtmddplifammohaaDoorPkFnExactMovedItems
import Derived.Test.YtmddplifammohaaDoorPFnExactMovedItemsx0
import Derived.Test.YtmddplifammohaaDoorPFnExactMovedItemsx5
namespace Go.Proofs.YtmddplifammohaaDoor.PFnExactMovedItems
open Go.RowKit Go.Proofs.YtmddplifammohaaDoorW.PrintWords Go.Proofs.YtmddplifammohaaDoorW.PrintLast Go.Proofs.YtmddplifammohaaDoorW.PrintMore
attribute [local go_sem] max2_int min2_int max_two min_two max_three min_three max_four min_four   -- for this text's walks alone
set_option linter.unusedVariables false
set_option linter.unusedSimpArgs false

/-! ### slices_insertionSortCmpFunc_Item: function 42 -/
mutual
def slices_insertionSortCmpFunc_Item.l0 : Nat → List (S36) → Int → Int → Int → Option ((List (S36)))
 | 0, _, _, _, _ => none
 | k + 1, x0, x1, x2, x8 => if x8 < x2 then (slices_insertionSortCmpFunc_Item.l1 k x0 x1 x2 x8 x8) else (some x0)
def slices_insertionSortCmpFunc_Item.l1 : Nat → List (S36) → Int → Int → Int → Int → Option ((List (S36)))
 | 0, _, _, _, _, _ => none
 | k + 1, x0, x1, x2, x8, x9 => if x9 > x1 then (if 0 ≤ x9 then (if x9 < (x0.length : Int) then (if 0 ≤ (wrap64 (x9 - 1)) then (if (wrap64 (x9 - 1)) < (x0.length : Int) then ((impl_MovedItems_1.f ((rd_T36 x0 x9).f0) ((rd_T36 x0 x9).f1) ((rd_T36 x0 x9).f2) ((rd_T36 x0 (wrap64 (x9 - 1))).f0) ((rd_T36 x0 (wrap64 (x9 - 1))).f1) ((rd_T36 x0 (wrap64 (x9 - 1))).f2)).bind fun t245 => (if t245 < 0 then (slices_insertionSortCmpFunc_Item.l1 k ((x0.set (x9 : Int).toNat (⟨(rd_T36 x0 (wrap64 (x9 - 1))).f0, (rd_T36 x0 (wrap64 (x9 - 1))).f1, (rd_T36 x0 (wrap64 (x9 - 1))).f2⟩ : S36)).set ((wrap64 (x9 - 1)) : Int).toNat (⟨(rd_T36 x0 x9).f0, (rd_T36 x0 x9).f1, (rd_T36 x0 x9).f2⟩ : S36)) x1 x2 x8 (wrap64 (x9 - 1))) else (slices_insertionSortCmpFunc_Item.l0 k x0 x1 x2 (wrap64 (x8 + 1))))) else (none)) else (none)) else (none)) else (none)) else (slices_insertionSortCmpFunc_Item.l0 k x0 x1 x2 (wrap64 (x8 + 1)))
end
def slices_insertionSortCmpFunc_Item.f (k : Nat) (l0 : List (S36)) (a1 : Int) (a2 : Int) (a3 : Unit) : Option ((List (S36))) := slices_insertionSortCmpFunc_Item.l0 k l0 a1 a2 (wrap64 (a1 + 1))
theorem slices_insertionSortCmpFunc_Item.mono_l : ∀ k, (∀ y0 y1 y2 y3, LeO (slices_insertionSortCmpFunc_Item.l0 k y0 y1 y2 y3) (slices_insertionSortCmpFunc_Item.l0 (k + 1) y0 y1 y2 y3)) ∧ (∀ y0 y1 y2 y3 y4, LeO (slices_insertionSortCmpFunc_Item.l1 k y0 y1 y2 y3 y4) (slices_insertionSortCmpFunc_Item.l1 (k + 1) y0 y1 y2 y3 y4))
 | 0 => ⟨fun _ _ _ _ r h => by simp [slices_insertionSortCmpFunc_Item.l0] at h, fun _ _ _ _ _ r h => by simp [slices_insertionSortCmpFunc_Item.l1] at h⟩
 | k + 1 => by
  obtain ⟨ih0, ih1⟩ := slices_insertionSortCmpFunc_Item.mono_l k
  refine ⟨?_, ?_⟩
  ·intro y0 y1 y2 y3
   unfold slices_insertionSortCmpFunc_Item.l0
   exact mo_4
  ·intro y0 y1 y2 y3 y4
   unfold slices_insertionSortCmpFunc_Item.l1
   exact mo_4
theorem slices_insertionSortCmpFunc_Item.mono : ∀ a0 a1 a2 a3 k, LeO (slices_insertionSortCmpFunc_Item.f k a0 a1 a2 a3) (slices_insertionSortCmpFunc_Item.f (k + 1) a0 a1 a2 a3) := by
 intro a0 a1 a2 a3 k
 obtain ⟨ih0, ih1⟩ := slices_insertionSortCmpFunc_Item.mono_l k
 unfold slices_insertionSortCmpFunc_Item.f
 repeat' first
   | (with_reducible exact ih0 ..)
   | (with_reducible exact ih1 ..)
   | (with_reducible exact LeO.refl _)
   | (with_reducible exact LeO.none _)
   | (with_reducible refine LeO.ite ?_ ?_)
   | (with_reducible refine LeO.bind ?_ (fun _ => ?_))
   | exact ih0 ..
   | exact ih1 ..
   | exact LeO.none _
   | refine LeO.ite ?_ ?_
   | refine LeO.bind ?_ (fun _ => ?_)
def slices_insertionSortCmpFunc_Item.T4 : Bool × List (List Nat × List Nat) := (true, [([], []), ([], []), ([0, 1], [0, 1]), ([2], [2]), ([3], [3]), ([3], [3]), ([3], [3]), ([5, 6, 3], [3, 5, 6]), ([7, 3], [3, 7]), ([3], [3]), ([3], [3]), ([10, 3], [3, 10]), ([9, 11, 3], [3, 9, 11]), ([12, 3], [3, 12]), ([4, 8, 13, 3, 3], [3, 4, 8, 13]), ([14, 3], [3, 14]), ([3, 15], [3, 15])])
def slices_insertionSortCmpFunc_Item.B4 : List Nat := [0, 0, 3, 7, 15, 15, 15, 111, 239, 15, 15, 1039, 3599, 7695, 16383, 32767, 65535]
theorem slices_insertionSortCmpFunc_Item.tab4 : rtab .any (opsOf Tryd.f42 4) = slices_insertionSortCmpFunc_Item.T4 := by kernel_rfl
theorem slices_insertionSortCmpFunc_Item.bits4 : waitsOk slices_insertionSortCmpFunc_Item.T4.2 slices_insertionSortCmpFunc_Item.B4 = true := by kernel_rfl
def slices_insertionSortCmpFunc_Item.T6 : Bool × List (List Nat × List Nat) := (true, [([], []), ([], []), ([], []), ([], []), ([3], [3]), ([], []), ([], []), ([6], [6]), ([5, 7], [5, 7]), ([8], [8]), ([], []), ([], []), ([10, 11], [10, 11]), ([12], [12]), ([0, 1, 0, 1, 5, 6, 7, 8, 9, 13], [0, 1]), ([14, 9, 0, 1, 5, 6, 7, 8, 9, 13], [9, 14]), ([2, 4, 0, 1, 2, 3, 4, 5, 6, 7, 8, 9, 10, 11, 12, 13, 14, 15], [2, 4]), ([16, 13, 15, 0, 1, 2, 3, 4, 5, 6, 7, 8, 9, 10, 11, 12, 13, 14, 15], [13, 16])])
def slices_insertionSortCmpFunc_Item.B6 : List Nat := [0, 0, 0, 0, 8, 0, 0, 64, 224, 480, 0, 0, 3072, 7168, 16355, 32739, 65535, 131071]
theorem slices_insertionSortCmpFunc_Item.tab6 : rtab .any (opsOf Tryd.f42 6) = slices_insertionSortCmpFunc_Item.T6 := by kernel_rfl
theorem slices_insertionSortCmpFunc_Item.bits6 : waitsOk slices_insertionSortCmpFunc_Item.T6.2 slices_insertionSortCmpFunc_Item.B6 = true := by kernel_rfl
set_option maxHeartbeats 8000000 in
set_option maxRecDepth 100000 in
theorem slices_insertionSortCmpFunc_Item.calls (k : Nat) (P0_ : Nat → Prop) (u9000_ : Value) (l0 : List (S36)) (a1 : Int) (a2 : Int) (a3 : Unit) (r : List (S36)) (w0 w : World) (hB : Below w0.heap.size w0 w) (ho0 : Kd.R k36 36 w w0.heap.size P0_ u9000_ l0) (h : slices_insertionSortCmpFunc_Item.f k l0 a1 a2 a3 = some r) :
  Calls Tryd.prog 42 #[u9000_, .int .i64 a1, .int .i64 a2, .func (.func 17) #[] #[]] w fun e w' => e = .returned (.tuple #[]) ∧ Kd.R k36 36 w' w0.heap.size (fun k_ => (P0_ k_ ∨ w.heap.size ≤ k_)) u9000_ r ∧ Below w0.heap.size w0 w' ∧ Kept w w' (fun k_ => P0_ k_) := by
 have hu36 := Tryd.underlying36
 have HO0 := Aside0.mk (show Kd.R k36 36 w w0.heap.size (fun k_ => (P0_ k_ ∨ w.heap.size ≤ k_)) u9000_ l0 from Kd.R_mono ho0 (fun k_ hk => (.inl hk)))
 have HK := Aside0.mk (Kept.refl w (fun k_ => P0_ k_))
 have HW0 := Aside0.mk hB.size
 have HB := Aside0.mk hB
 clear hB
 unfold slices_insertionSortCmpFunc_Item.f at h
 have H := h
 clear h
 have H' := Aside0.mk H
 clear H
 go_enter Tryd.func42, Tryd.ntmps42
 go_wp2
 go_loopg [8] k (fun kq v8 w' => ∃ (x0_1 : List (S36)) (x8_1 : Int), v8 = .int .i64 x8_1 ∧ Aside0 (slices_insertionSortCmpFunc_Item.l0 kq x0_1 a1 a2 x8_1 = some r) ∧ Aside0 (kq ≤ k) ∧ Aside0 (Kd.R k36 36 w' w0.heap.size (fun k_ => (P0_ k_ ∨ w.heap.size ≤ k_)) u9000_ x0_1) ∧ Aside0 (Kept w w' (fun k_ => P0_ k_)) ∧ Aside0 (Below w0.heap.size w0 w'))
 case atStart => exact ⟨(l0), (wrap64 (a1 + 1)), tq_4, H', ⟨Nat.le_refl _⟩, ⟨(raR_ HO0)⟩, ⟨tq_0⟩, ⟨th_⟩⟩
 case round =>
 clear H'
 try clear p2; try clear c4
 obtain ⟨x0_1, x8_1, rfl, HA, HK1, HO_0, HK, HB⟩ := hrel
 cases gk with
 | zero => exact absurd HA.out (by simp [slices_insertionSortCmpFunc_Item.l0])
 | succ k1 =>
 have H := HA.out
 clear HA
 simp only [slices_insertionSortCmpFunc_Item.l0] at H
 by_cases c5 : x8_1 < a2
 rotate_left
 ·rw [if_neg c5] at H
  have c5b0 := decide_eq_false c5
  clear c5
  obtain rfl := Option.some.inj H
  go_wp2
  first | go_end0 | ((try simp only [Exit.inBlock, Exit.then]); refine bodyPost_ret (results_none rfl _ _ _) rfl ?_)
  exact ⟨tq_3, (raR_ HO_0), th_, tq_0⟩
 rw [if_pos c5] at H
 have c5b0 := decide_eq_true c5
 clear c5
 have H' := Aside0.mk H
 clear H
 go_wp2
 go_loopg [9] k1 (fun kq v9 w' => ∃ (x0_2 : List (S36)) (x9_2 : Int), v9 = .int .i64 x9_2 ∧ Aside0 (slices_insertionSortCmpFunc_Item.l1 kq x0_2 a1 a2 x8_1 x9_2 = some r) ∧ Aside0 (kq ≤ k1) ∧ Aside0 (Kd.R k36 36 w' w0.heap.size (fun k_ => (P0_ k_ ∨ w.heap.size ≤ k_)) u9000_ x0_2) ∧ Aside0 (Kept w w' (fun k_ => P0_ k_)) ∧ Aside0 (Below w0.heap.size w0 w'))
 case atStart => exact ⟨(x0_1), (x8_1), tq_4, H', ⟨Nat.le_refl _⟩, ⟨(raR_ HO_0)⟩, ⟨tq_0⟩, ⟨th_⟩⟩
 case round =>
 clear H'
 try clear p2; try clear c4; try clear c5; try clear c5b0; try clear p2
 obtain ⟨x0_2, x9_2, rfl, HA, HK2, HO_0, HK, HB⟩ := hrel
 cases gk with
 | zero => exact absurd HA.out (by simp [slices_insertionSortCmpFunc_Item.l1])
 | succ k2 =>
 have H := HA.out
 clear HA
 simp only [slices_insertionSortCmpFunc_Item.l1] at H
 by_cases c6 : x9_2 > a1
 rotate_left
 ·rw [if_neg c6] at H
  have c6b0 := decide_eq_false c6
  clear c6
  have H' := Aside0.mk H
  clear H
  try go_wp2
  have z_ := p_ (Kd.R_drew HO_0.out) <| p_ (Kept.drew HK.out) <| a_ (below_drew1 HB.out)
  clear HO_0 HK HB
  obtain ⟨HO_0, HK, HB⟩ := z_
  refine start_ (n := 17) (S := fun w' => True) (ds := []) bq_53 (by kernel_rfl) rfl rfl trivial (fun hHeld => ?_); refine with_tabW slices_insertionSortCmpFunc_Item.tab4 slices_insertionSortCmpFunc_Item.bits4 (fun HT_ HW_ => ?_)
  generalize wr.drew = w23 at HO_0 HK HB hHeld ⊢
  refine yr_ 0 18 bq_54 HT_ ?_
  refine yr_ 1 19 bq_55 HT_ ?_
  refine yr_ 2 20 bq_56 HT_ ?_
  refine yr_ 3 21 bq_57 HT_ ?_
  refine ur_ 4 22 bq_58 HT_ ?_
  refine ur_ 5 23 bq_59 HT_ ?_
  refine ur_ 6 24 bq_60 HT_ ?_
  refine ur_ 7 25 bq_61 HT_ ?_
  refine ur_ 8 26 #[true, true, true, true, true, true, true, true, true, false, false, false, false, false, false, false, false] HT_ ?_
  refine ur_ 9 27 #[true, true, true, true, true, true, true, true, true, true, false, false, false, false, false, false, false] HT_ ?_
  refine ur_ 10 28 #[true, true, true, true, true, true, true, true, true, true, true, false, false, false, false, false, false] HT_ ?_
  refine ur_ 11 29 #[true, true, true, true, true, true, true, true, true, true, true, true, false, false, false, false, false] HT_ ?_
  refine ur_ 12 30 bq_62 HT_ ?_
  refine ur_ 13 31 bq_63 HT_ ?_
  refine ur_ 14 32 bq_64 HT_ ?_
  refine ur_ 15 33 bq_65 HT_ ?_
  refine yr_ 16 34 bq_66 HT_ ?_
  refine done_ (done_of HT_.out (by kernel_rfl)) ?_
  try go_wp2
  go_roundg k2
  case measure => have := HK1.out; have := HK2.out; omega
  case rel => exact ⟨(x0_2), (wrap64 (x8_1 + 1)), tq_4, H', ⟨tq_51⟩, ⟨(raR_ HO_0)⟩, ⟨tq_0⟩, ⟨th_⟩⟩
 rw [if_pos c6] at H
 have c6b0 := decide_eq_true c6
 clear c6
 obtain ⟨c7, H⟩ := fc_ H
 have c7b0 := decide_eq_true c7
 clear c7
 obtain ⟨c8, H⟩ := fc_ H
 have c8b0 := decide_eq_true c8
 clear c8
 obtain ⟨ji9, hji9⟩ : ∃ j_ : Int, (wrap64 (x9_2 - 1)) = j_ := ⟨_, rfl⟩
 replace H : (if 0 ≤ (ji9) then (if (ji9) < (x0_2.length : Int) then ((impl_MovedItems_1.f ((rd_T36 x0_2 x9_2).f0) ((rd_T36 x0_2 x9_2).f1) ((rd_T36 x0_2 x9_2).f2) ((rd_T36 x0_2 (ji9)).f0) ((rd_T36 x0_2 (ji9)).f1) ((rd_T36 x0_2 (ji9)).f2)).bind fun t245 => (if t245 < 0 then (slices_insertionSortCmpFunc_Item.l1 k2 ((x0_2.set (x9_2 : Int).toNat (⟨(rd_T36 x0_2 (ji9)).f0, (rd_T36 x0_2 (ji9)).f1, (rd_T36 x0_2 (ji9)).f2⟩ : S36)).set ((ji9) : Int).toNat (⟨(rd_T36 x0_2 x9_2).f0, (rd_T36 x0_2 x9_2).f1, (rd_T36 x0_2 x9_2).f2⟩ : S36)) a1 a2 x8_1 ji9) else (slices_insertionSortCmpFunc_Item.l0 k2 x0_2 a1 a2 (wrap64 (x8_1 + 1))))) else (none)) else (none)) = some r := by first | (rw [hji9] at H; exact H) | (simp only [hji9] at H ⊢; exact H)
 have hji9w : (IntKind.i64.wrap (x9_2 - 1)) = ji9 := (i64_w _).trans hji9
 obtain ⟨c10, H⟩ := fc_ H
 have c10b0 := decide_eq_true c10
 clear c10
 obtain ⟨c11, H⟩ := fc_ H
 have c11b0 := decide_eq_true c11
 clear c11
 obtain ⟨t245, A12, H⟩ := bd_ H
 have HC13 := Aside0.mk H
 clear H
 try go_wp2
 have z_ := p_ (Kd.R_drew HO_0.out) <| p_ (Kept.drew HK.out) <| a_ (below_drew1 HB.out)
 clear HO_0 HK HB
 obtain ⟨HO_0, HK, HB⟩ := z_
 obtain ⟨Ao15, co15, eo15⟩ := Kd.R_slice HO_0.out
 (first | subst eo15 | (injection eo15 with f1_ f2_ f3_; have f4_ := f1_.symm; have f5_ := f3_.symm; clear f1_ f2_ f3_; subst f4_; subst f5_))
 have p243 : 0 ≤ (x9_2 : Int) := of_decide_eq_true tq_1
 have q243 : x9_2 < (x0_2.length : Int) := of_decide_eq_true tq_1
 obtain ⟨ad243, e243, hx243_0, hx243_1, hx243_2⟩ := at_T36 (Kd.R_reads' HO_0.out).2.2 x9_2 p243 q243
 cases e243
 replace p243 := eq_true p243
 replace q243 := eq_true q243
 have p244 : 0 ≤ ((ji9) : Int) := of_decide_eq_true tq_1
 have q244 : (ji9) < (x0_2.length : Int) := of_decide_eq_true tq_1
 obtain ⟨ad244, e244, hx244_0, hx244_1, hx244_2⟩ := at_T36 (Kd.R_reads' HO_0.out).2.2 (ji9) p244 q244
 obtain rfl : ad243 = ad244 := (by injection e244)
 replace p244 := eq_true p244
 replace q244 := eq_true q244
 refine start_ (n := 17) (S := fun w' => w'.cell? (ad243.add ((x9_2).toNat * 3)) = some (.string ((rd_T36 x0_2 x9_2).f0)) ∧ w'.cell? ⟨(ad243.add ((x9_2).toNat * 3)).block, (ad243.add ((x9_2).toNat * 3)).off + 1, none⟩ = some (.bool ((rd_T36 x0_2 x9_2).f1)) ∧ w'.cell? ⟨(ad243.add ((x9_2).toNat * 3)).block, (ad243.add ((x9_2).toNat * 3)).off + 2, none⟩ = some (.string ((rd_T36 x0_2 x9_2).f2)) ∧ w'.cell? (ad243.add (((ji9)).toNat * 3)) = some (.string ((rd_T36 x0_2 (ji9)).f0)) ∧ w'.cell? ⟨(ad243.add (((ji9)).toNat * 3)).block, (ad243.add (((ji9)).toNat * 3)).off + 1, none⟩ = some (.bool ((rd_T36 x0_2 (ji9)).f1)) ∧ w'.cell? ⟨(ad243.add (((ji9)).toNat * 3)).block, (ad243.add (((ji9)).toNat * 3)).off + 2, none⟩ = some (.string ((rd_T36 x0_2 (ji9)).f2))) (ds := []) bq_53 (by kernel_rfl) rfl rfl ⟨hx243_0, hx243_1, hx243_2, hx244_0, hx244_1, hx244_2⟩ (fun hHeld => ?_); refine with_tabW slices_insertionSortCmpFunc_Item.tab4 slices_insertionSortCmpFunc_Item.bits4 (fun HT_ HW_ => ?_)
 generalize wr.drew = w14 at HO_0 HK HB hx243_0 hx243_1 hx243_2 hx244_0 hx244_1 hx244_2 hHeld ⊢
 refine yr_ 0 18 bq_54 HT_ ?_
 refine yr_ 1 19 bq_55 HT_ ?_
 refine yr_ 2 20 bq_56 HT_ ?_
 refine yr_ 3 21 bq_57 HT_ ?_
 refine yr_ 4 22 bq_58 HT_ ?_
 refine yr_ 5 23 bq_59 HT_ ?_
 refine yr_ 6 24 bq_60 HT_ ?_
 refine yr_ 7 25 bq_61 HT_ ?_
 refine yr_ 9 27 #[true, true, true, true, true, true, true, true, false, true, false, false, false, false, false, false, false] HT_ ?_
 refine yr_ 10 28 #[true, true, true, true, true, true, true, true, false, true, true, false, false, false, false, false, false] HT_ ?_
 refine yr_ 11 29 #[true, true, true, true, true, true, true, true, false, true, true, true, false, false, false, false, false] HT_ ?_
 refine yr_ 12 30 #[true, true, true, true, true, true, true, true, false, true, true, true, true, false, false, false, false] HT_ ?_
 refine tr_ 8 26 bq_62 HT_ HW_ hHeld ?_
 refine tr_ 13 31 bq_63 HT_ HW_ hHeld ?_
 refine one_ (i := 14) (N := some 32) bq_64 rfl rfl (one_of HT_.out (by kernel_rfl)) (by decide) (fun K hK => ?_)
 refine goesv_ Tryd.func17 (by kernel_rfl) rfl #[.agg #[.string ((rd_T36 x0_2 x9_2).f0), .bool ((rd_T36 x0_2 x9_2).f1), .string ((rd_T36 x0_2 x9_2).f2)], .agg #[.string ((rd_T36 x0_2 (ji9)).f0), .bool ((rd_T36 x0_2 (ji9)).f1), .string ((rd_T36 x0_2 (ji9)).f2)]] (by rfl) rfl rfl (by rfl) (by (try simp only [List.map_toArray, List.map_cons, List.map_nil]); first | done | (simp only [hji9]; rfl) | rfl | (simp only [List.length_drop, List.length_take]; rfl)) ?_
 with_reducible refine (impl_MovedItems_1.calls ((rd_T36 x0_2 x9_2).f0) ((rd_T36 x0_2 x9_2).f1) ((rd_T36 x0_2 x9_2).f2) ((rd_T36 x0_2 (ji9)).f0) ((rd_T36 x0_2 (ji9)).f1) ((rd_T36 x0_2 (ji9)).f2) t245 _ A12.out).mono ?_
 rintro e w16 ⟨rfl, hb⟩
 have HS0_ := (hb.cell (World.block_lt_of_cell? _ _ (hHeld.1))).trans (hHeld.1)
 have HS1_ := (hb.cell (World.block_lt_of_cell? _ _ (hHeld.2.1))).trans (hHeld.2.1)
 have HS2_ := (hb.cell (World.block_lt_of_cell? _ _ (hHeld.2.2.1))).trans (hHeld.2.2.1)
 have HS3_ := (hb.cell (World.block_lt_of_cell? _ _ (hHeld.2.2.2.1))).trans (hHeld.2.2.2.1)
 have HS4_ := (hb.cell (World.block_lt_of_cell? _ _ (hHeld.2.2.2.2.1))).trans (hHeld.2.2.2.2.1)
 have HS5_ := (hb.cell (World.block_lt_of_cell? _ _ (hHeld.2.2.2.2.2))).trans (hHeld.2.2.2.2.2)
 refine ⟨_, rfl, ?_⟩
 have z_ := p_ (Kd.R_below (raR_ HO_0) hb) <| p_ (Kept.below (S := (fun k_ => P0_ k_)) tq_0 hb) <| a_ (below_step th_ hb)
 clear HO_0 HK HB
 obtain ⟨HO_0, HK, HB⟩ := z_
 (try clear hb)
 refine hK.out _ _ ⟨HS0_, HS1_, HS2_, HS3_, HS4_, HS5_⟩ (fun hHeld => ?_)
 clear hK K
 refine nm_ (some 32) ?_
 refine yr_ 15 33 bq_65 HT_ ?_
 refine yr_ 16 34 bq_66 HT_ ?_
 refine done_ (done_of HT_.out (by kernel_rfl)) ?_
 go_upto_if 34 with (fail)
 have H := HC13.out
 clear HC13
 by_cases c17 : t245 < 0
 rotate_left
 ·rw [if_neg c17] at H
  have c17b0 := decide_eq_false c17
  clear c17
  (first | rw [c17b0] | (simp only [i64_w, i32_w]; rw [c17b0]) | skip)
  have H' := Aside0.mk H
  clear H
  go_wp2
  go_roundg k2
  case measure => have := HK1.out; have := HK2.out; omega
  case rel => exact ⟨(x0_2), (wrap64 (x8_1 + 1)), tq_4, H', ⟨tq_51⟩, ⟨(raR_ HO_0)⟩, ⟨tq_0⟩, ⟨th_⟩⟩
 rw [if_pos c17] at H
 have c17b0 := decide_eq_true c17
 clear c17
 (first | rw [c17b0] | (simp only [i64_w, i32_w]; rw [c17b0]) | skip)
 obtain ⟨y248, hy248⟩ : ∃ y_ : List (S36), y_ = (x0_2.set (x9_2 : Int).toNat (⟨(rd_T36 x0_2 (ji9)).f0, (rd_T36 x0_2 (ji9)).f1, (rd_T36 x0_2 (ji9)).f2⟩ : S36)) := ⟨_, rfl⟩
 replace H : (slices_insertionSortCmpFunc_Item.l1 k2 (y248.set ((ji9) : Int).toNat (⟨(rd_T36 x0_2 x9_2).f0, (rd_T36 x0_2 x9_2).f1, (rd_T36 x0_2 x9_2).f2⟩ : S36)) a1 a2 x8_1 ji9) = some r := by first | (rw [hy248]; with_reducible exact H) | (have H2_ := (Option.bind_some _ _).symm.trans H; rw [hy248]; with_reducible exact H2_) | (have H2_ := (Option.bind_some _ _).symm.trans H; with_reducible exact H2_) | with_reducible exact H | (rw [hy248]; exact H) | exact H
 have Ny248 := Aside0.mk hy248
 clear hy248
 obtain ⟨y249, hy249⟩ : ∃ y_ : List (S36), y_ = (y248.set ((ji9) : Int).toNat (⟨(rd_T36 x0_2 x9_2).f0, (rd_T36 x0_2 x9_2).f1, (rd_T36 x0_2 x9_2).f2⟩ : S36)) := ⟨_, rfl⟩
 replace H : (slices_insertionSortCmpFunc_Item.l1 k2 y249 a1 a2 x8_1 ji9) = some r := by first | (rw [hy249]; with_reducible exact H) | (have H2_ := (Option.bind_some _ _).symm.trans H; rw [hy249]; with_reducible exact H2_) | (have H2_ := (Option.bind_some _ _).symm.trans H; with_reducible exact H2_) | with_reducible exact H | (rw [hy249]; exact H) | exact H
 have Ny249 := Aside0.mk hy249
 clear hy249
 have H' := Aside0.mk H
 clear H
 try go_wp2
 have z_ := p_ (Kd.R_drew HO_0.out) <| p_ (Kept.drew HK.out) <| a_ (below_drew1 HB.out)
 clear HO_0 HK HB
 obtain ⟨HO_0, HK, HB⟩ := z_
 have p246 : 0 ≤ ((ji9) : Int) := of_decide_eq_true tq_1
 have q246 : (ji9) < (x0_2.length : Int) := of_decide_eq_true tq_1
 obtain ⟨ad246, e246, hx246_0, hx246_1, hx246_2⟩ := at_T36 (Kd.R_reads' HO_0.out).2.2 (ji9) p246 q246
 obtain rfl : ad243 = ad246 := (by injection e246)
 replace p246 := eq_true p246
 replace q246 := eq_true q246
 have p247 : 0 ≤ (x9_2 : Int) := of_decide_eq_true tq_1
 have q247 : x9_2 < (x0_2.length : Int) := of_decide_eq_true tq_1
 obtain ⟨ad247, e247, hx247_0, hx247_1, hx247_2⟩ := at_T36 (Kd.R_reads' HO_0.out).2.2 x9_2 p247 q247
 obtain rfl : ad243 = ad247 := (by injection e247)
 replace p247 := eq_true p247
 replace q247 := eq_true q247
 have p18 : 0 ≤ (x9_2 : Int) := of_decide_eq_true tq_1
 have q18 : (x9_2 : Int) < ((x0_2.length : Int) : Int) := of_decide_eq_true tq_1
 obtain ⟨go18, co18, eo18, gb18, gl18, cl18, HG18⟩ := Kd.R_form HO_0.out (by omega)
 (first | cases eo18 | (injection eo18 with ea_ en_ ec_; (first | subst ea_ | (injection ea_ with ea_; subst ea_)); subst ec_; clear en_))
 have GB18 := Aside0.mk gb18
 have GG18 := Aside0.mk HG18
 clear gb18 gl18 HG18
 have HMgo18 := Aside0.mk (show (P0_ go18 ∨ w.heap.size ≤ go18) from (HO_0.out.1 _ rfl))
 (first | simp only [add_plain] at hx243_0 | skip)
 (first | simp only [add_plain] at hx243_1 | skip)
 (first | simp only [add_plain] at hx243_2 | skip)
 (first | simp only [add_plain] at hx244_0 | skip)
 (first | simp only [add_plain] at hx244_1 | skip)
 (first | simp only [add_plain] at hx244_2 | skip)
 (first | simp only [add_plain] at hx246_0 | skip)
 (first | simp only [add_plain] at hx246_1 | skip)
 (first | simp only [add_plain] at hx246_2 | skip)
 (first | simp only [add_plain] at hx247_0 | skip)
 (first | simp only [add_plain] at hx247_1 | skip)
 (first | simp only [add_plain] at hx247_2 | skip)
 obtain ⟨ce18, hcl18, hM18, hcc18, hfr18⟩ := Kd.R_elem HO_0.out z36 (x9_2 : Int) p18 q18
 obtain rfl := k36_openM hM18
 have hx18_0 : World.cell? _ ⟨go18, (x9_2 : Int).toNat * 3, none⟩ = some (.string ((rd_T36 x0_2 x9_2).f0)) := hcc18 0 _ rfl
 have hx18_1 : World.cell? _ ⟨go18, (x9_2 : Int).toNat * 3 + 1, none⟩ = some (.bool ((rd_T36 x0_2 x9_2).f1)) := hcc18 1 _ rfl
 have hx18_2 : World.cell? _ ⟨go18, (x9_2 : Int).toNat * 3 + 2, none⟩ = some (.string ((rd_T36 x0_2 x9_2).f2)) := hcc18 2 _ rfl
 have hf18_0 : World.frozen? _ ⟨go18, (x9_2 : Int).toNat * 3, none⟩ = false := hfr18 0
 have hf18_1 : World.frozen? _ ⟨go18, (x9_2 : Int).toNat * 3 + 1, none⟩ = false := hfr18 1
 have hf18_2 : World.frozen? _ ⟨go18, (x9_2 : Int).toNat * 3 + 2, none⟩ = false := hfr18 2
 clear hcl18 hcc18 hfr18 hM18
 replace p18 := eq_true p18
 replace q18 := eq_true q18
 obtain ⟨ce21, hcl21, hM21, hcc21, hfr21⟩ := Kd.R_elem HO_0.out z36 (x9_2 : Int) (of_decide_eq_true tq_1) (by have h_ : (x9_2 : Int) < ((x0_2.length : Int) : Int) := of_decide_eq_true tq_1; first | exact h_ | (have e_ := (Kd.R_reads' HO_0.out).1; omega) | simpa using h_)
 obtain rfl := k36_openM hM21
 have HP21 := (Kd.R_seg HO_0.out (x9_2 : Int) (of_decide_eq_true tq_1) (by have h_ : (x9_2 : Int) < ((x0_2.length : Int) : Int) := of_decide_eq_true tq_1; first | exact h_ | (have e_ := (Kd.R_reads' HO_0.out).1; omega) | simpa using h_) (seg := [.string ((rd_T36 x0_2 (ji9)).f0), .bool ((rd_T36 x0_2 (ji9)).f1), .string ((rd_T36 x0_2 (ji9)).f2)]) (j := 0) hcl21 hcc21 (show 3 ≤ 3 from by decide) (x' := (⟨(rd_T36 x0_2 (ji9)).f0, (rd_T36 x0_2 (ji9)).f1, (rd_T36 x0_2 (ji9)).f2⟩ : S36)) (k36_mkM _ _ _ (⟨(rd_T36 x0_2 (ji9)).f0, (rd_T36 x0_2 (ji9)).f1, (rd_T36 x0_2 (ji9)).f2⟩ : S36) ) (fun _ hk => hk)).1
 rw [← Ny248.out] at HP21
 have HQ21 := Aside0.mk HP21
 clear hcl21 hcc21 hfr21 hM21 HP21
 have p19 : 0 ≤ ((ji9) : Int) := of_decide_eq_true tq_1
 have q19 : ((ji9) : Int) < ((x0_2.length : Int) : Int) := of_decide_eq_true tq_1
 obtain ⟨ce19, hcl19, hM19, hcc19, hfr19⟩ := Kd.R_elem HQ21.out z36 ((ji9) : Int) p19 q19
 obtain rfl := k36_openM hM19
 have hx19_0 : World.cell? _ ⟨go18, ((ji9) : Int).toNat * 3, none⟩ = some (.string ((rd_T36 y248 (ji9)).f0)) := hcc19 0 _ rfl
 have hx19_1 : World.cell? _ ⟨go18, ((ji9) : Int).toNat * 3 + 1, none⟩ = some (.bool ((rd_T36 y248 (ji9)).f1)) := hcc19 1 _ rfl
 have hx19_2 : World.cell? _ ⟨go18, ((ji9) : Int).toNat * 3 + 2, none⟩ = some (.string ((rd_T36 y248 (ji9)).f2)) := hcc19 2 _ rfl
 have hf19_0 : World.frozen? _ ⟨go18, ((ji9) : Int).toNat * 3, none⟩ = false := hfr19 0
 have hf19_1 : World.frozen? _ ⟨go18, ((ji9) : Int).toNat * 3 + 1, none⟩ = false := hfr19 1
 have hf19_2 : World.frozen? _ ⟨go18, ((ji9) : Int).toNat * 3 + 2, none⟩ = false := hfr19 2
 clear hcl19 hcc19 hfr19 hM19
 replace p19 := eq_true p19
 replace q19 := eq_true q19
 obtain ⟨ce22, hcl22, hM22, hcc22, hfr22⟩ := Kd.R_elem HQ21.out z36 ((ji9) : Int) (of_decide_eq_true tq_1) (by have h_ : ((ji9) : Int) < ((x0_2.length : Int) : Int) := of_decide_eq_true tq_1; first | exact h_ | (have e_ := (Kd.R_reads' HO_0.out).1; omega) | simpa using h_)
 obtain rfl := k36_openM hM22
 have HP22 := (Kd.R_seg HQ21.out ((ji9) : Int) (of_decide_eq_true tq_1) (by have h_ : ((ji9) : Int) < ((x0_2.length : Int) : Int) := of_decide_eq_true tq_1; first | exact h_ | (have e_ := (Kd.R_reads' HO_0.out).1; omega) | simpa using h_) (seg := [.string ((rd_T36 x0_2 x9_2).f0), .bool ((rd_T36 x0_2 x9_2).f1), .string ((rd_T36 x0_2 x9_2).f2)]) (j := 0) hcl22 hcc22 (show 3 ≤ 3 from by decide) (x' := (⟨(rd_T36 x0_2 x9_2).f0, (rd_T36 x0_2 x9_2).f1, (rd_T36 x0_2 x9_2).f2⟩ : S36)) (k36_mkM _ _ _ (⟨(rd_T36 x0_2 x9_2).f0, (rd_T36 x0_2 x9_2).f1, (rd_T36 x0_2 x9_2).f2⟩ : S36) ) (fun _ hk => hk)).1
 rw [← Ny249.out] at HP22
 have HQ22 := Aside0.mk HP22
 clear hcl22 hcc22 hfr22 hM22 HP22
 refine start_ (n := 18) (S := fun w' => w'.cell? ⟨go18, ((ji9)).toNat * 3, none⟩ = some (.string ((rd_T36 x0_2 (ji9)).f0)) ∧ w'.cell? ⟨go18, ((ji9)).toNat * 3 + 1, none⟩ = some (.bool ((rd_T36 x0_2 (ji9)).f1)) ∧ w'.cell? ⟨go18, ((ji9)).toNat * 3 + 2, none⟩ = some (.string ((rd_T36 x0_2 (ji9)).f2)) ∧ w'.cell? ⟨go18, ((x9_2).toNat * 3), none⟩ = some (.string ((rd_T36 x0_2 x9_2).f0)) ∧ w'.cell? ⟨go18, ((x9_2).toNat * 3) + 1, none⟩ = some (.bool ((rd_T36 x0_2 x9_2).f1)) ∧ w'.cell? ⟨go18, ((x9_2).toNat * 3) + 2, none⟩ = some (.string ((rd_T36 x0_2 x9_2).f2))) (ds := [15, 17]) bq_15 (by kernel_rfl) rfl rfl ⟨hx246_0, hx246_1, hx246_2, hx247_0, hx247_1, hx247_2⟩ (fun hHeld => ?_); refine with_tabW slices_insertionSortCmpFunc_Item.tab6 slices_insertionSortCmpFunc_Item.bits6 (fun HT_ HW_ => ?_)
 generalize w16.drew = w20 at HO_0 HK HB GG18 HQ21 HQ22 hf18_0 hf18_1 hf18_2 hf19_0 hf19_1 hf19_2 hx18_0 hx18_1 hx18_2 hx19_0 hx19_1 hx19_2 hx243_0 hx243_1 hx243_2 hx244_0 hx244_1 hx244_2 hx246_0 hx246_1 hx246_2 hx247_0 hx247_1 hx247_2 hHeld ⊢
 refine yr_ 0 37 bq_16 HT_ ?_
 refine yr_ 1 38 bq_17 HT_ ?_
 refine yr_ 2 39 bq_18 HT_ ?_
 refine yr_ 3 40 bq_19 HT_ ?_
 refine yr_ 4 41 bq_20 HT_ ?_
 refine yr_ 5 42 bq_21 HT_ ?_
 refine yr_ 6 43 bq_22 HT_ ?_
 refine yr_ 7 44 bq_23 HT_ ?_
 refine yr_ 8 45 bq_24 HT_ ?_
 refine yr_ 10 47 bq_25 HT_ ?_
 refine yr_ 11 48 bq_26 HT_ ?_
 refine yr_ 12 49 bq_27 HT_ ?_
 refine tr_ 9 46 bq_28 HT_ HW_ hHeld ?_
 refine tr_ 13 50 bq_29 HT_ HW_ hHeld ?_
 refine yr_ 14 51 bq_30 HT_ ?_
 refine last_ (i := 15) (N := none) bq_31 rfl rfl (one_of HT_.out (by kernel_rfl)) (by decide) (fun K hK => ?_)
 refine skip_ (w1 := ?_) (by rfl) rfl ?_ ?_
 rotate_left
 ·go_simp
  rfl
 refine hK.out _ _ ?_
 clear hK K
 refine yr_ 16 52 bq_32 HT_ ?_
 refine last_ (i := 17) (N := none) bq_33 rfl rfl (one_of HT_.out (by kernel_rfl)) (by decide) (fun K hK => ?_)
 refine skip_ (w1 := ?_) (by rfl) rfl ?_ ?_
 rotate_left
 ·obtain ⟨ceS, hclS, hMS, hccS, hfrS⟩ := Kd.R_elem HO_0.out z36 ((ji9) : Int) (of_eq_true p19) (of_eq_true q19)
  obtain rfl := k36_openM hMS
  have gS_0 : World.frozen? _ ⟨go18, ((ji9) : Int).toNat * 3, none⟩ = false := hfrS 0
  have tS_0 : World.cell? _ ⟨go18, ((ji9) : Int).toNat * 3, none⟩ = some _ := hccS 0 _ rfl
  obtain ⟨_, fS_0_0⟩ := cell?_setCell_some (p := ⟨go18, (x9_2 : Int).toNat * 3, none⟩) (x := .string ((rd_T36 x0_2 (ji9)).f0)) tS_0
  have gS_1 : World.frozen? _ ⟨go18, ((ji9) : Int).toNat * 3 + 1, none⟩ = false := hfrS 1
  have tS_1 : World.cell? _ ⟨go18, ((ji9) : Int).toNat * 3 + 1, none⟩ = some _ := hccS 1 _ rfl
  obtain ⟨_, fS_1_0⟩ := cell?_setCell_some (p := ⟨go18, (x9_2 : Int).toNat * 3, none⟩) (x := .string ((rd_T36 x0_2 (ji9)).f0)) tS_1
  obtain ⟨_, fS_1_1⟩ := cell?_setCell_some (p := ⟨go18, (x9_2 : Int).toNat * 3 + 1, none⟩) (x := .bool ((rd_T36 x0_2 (ji9)).f1)) fS_1_0
  have gS_2 : World.frozen? _ ⟨go18, ((ji9) : Int).toNat * 3 + 2, none⟩ = false := hfrS 2
  have tS_2 : World.cell? _ ⟨go18, ((ji9) : Int).toNat * 3 + 2, none⟩ = some _ := hccS 2 _ rfl
  obtain ⟨_, fS_2_0⟩ := cell?_setCell_some (p := ⟨go18, (x9_2 : Int).toNat * 3, none⟩) (x := .string ((rd_T36 x0_2 (ji9)).f0)) tS_2
  obtain ⟨_, fS_2_1⟩ := cell?_setCell_some (p := ⟨go18, (x9_2 : Int).toNat * 3 + 1, none⟩) (x := .bool ((rd_T36 x0_2 (ji9)).f1)) fS_2_0
  obtain ⟨_, fS_2_2⟩ := cell?_setCell_some (p := ⟨go18, (x9_2 : Int).toNat * 3 + 2, none⟩) (x := .string ((rd_T36 x0_2 (ji9)).f2)) fS_2_1
  go_simp
  rfl
 refine hK.out _ _ ?_
 clear hK K
 refine done_ (done_of HT_.out (by kernel_rfl)) ?_
 try go_wp2
 go_roundg k2
 case measure => have := HK1.out; have := HK2.out; omega
 case rel => exact ⟨(y249), (ji9), (by first | rfl | (simp; done) | (simp only [← hji9] <;> (first | rfl | simp)) | (simp [*]; done)), H', ⟨tq_51⟩, ⟨(raR_ HQ22)⟩, ⟨(by repeat (first | (with_reducible first | exact HK.out | apply Kept.alloc | apply Kept.drewN | apply Kept.drew | refine Kept.setCell ?_ HMgo18.out _ | refine Kept.setCell ?_ HMgo18.out _ | refine Kept.setCell ?_ HMgo18.out _ | refine Kept.setCell ?_ HMgo18.out _ | refine Kept.setCell ?_ HMgo18.out _ | refine Kept.setCell ?_ HMgo18.out _) | exact HK.out))⟩, ⟨(by repeat (first | (with_reducible first | exact HB.out | apply below_alloc | apply pw_below_drewN | apply below_drew1 | refine below_set ?_ GB18.out | refine below_set ?_ GB18.out | refine below_set ?_ GB18.out | refine below_set ?_ GB18.out | refine below_set ?_ GB18.out | refine below_set ?_ GB18.out) | exact HB.out))⟩⟩

end Go.Proofs.YtmddplifammohaaDoor.PFnExactMovedItems
