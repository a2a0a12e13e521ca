/- Contracts of Go functions, written by a program of ours over the print of the kit: each says that the call returns what the Lean function beside it computes. Conditions: as each theorem states them. -/
import Derived.Test.YtmddplifammohaaDoorPkFnExactMovedItems
import Derived.Test.YtmddplifammohaaDoorPFnExactMovedItemsx0
import Derived.Test.YtmddplifammohaaDoorPFnExactMovedItemsx4
import Derived.Test.YtmddplifammohaaDoorPFnExactMovedItemsx5
import Derived.Test.YtmddplifammohaaDoorPFnExactMovedItemsx6
import Derived.Test.YtmddplifammohaaDoorPFnExactMovedItemsx8
namespace Go.Proofs.YtmddplifammohaaDoor.PFnExactMovedItems
open Go.RowKit Go.Proofs.YtmddplifammohaaDoorW.PrintWords Go.Proofs.YtmddplifammohaaDoorW.PrintLast Go.Proofs.YtmddplifammohaaDoorW.PrintMore
attribute [local go_sem] max2_int min2_int max_two min_two max_three min_three max_four min_four   -- for this text's walks alone
set_option linter.unusedVariables false
set_option linter.unusedSimpArgs false

/-! ### slices_stableCmpFunc_Item: function 28 -/
mutual
def slices_stableCmpFunc_Item.l0 : Nat → List (S36) → Int → Unit → Int → Int → Int → Option ((List (S36)))
 | 0, _, _, _, _, _, _ => none
 | k + 1, x0, x1, x2, x6, x7, x8 => if x8 ≤ x1 then ((slices_insertionSortCmpFunc_Item.f k x0 x7 x8 x2).bind fun t278 => (slices_stableCmpFunc_Item.l0 k t278 x1 x2 x6 x8 (wrap64 (x8 + x6)))) else ((slices_insertionSortCmpFunc_Item.f k x0 x7 x1 x2).bind fun t279 => (slices_stableCmpFunc_Item.l1 k t279 x1 x2 x6))
def slices_stableCmpFunc_Item.l1 : Nat → List (S36) → Int → Unit → Int → Option ((List (S36)))
 | 0, _, _, _, _ => none
 | k + 1, x0, x1, x2, x6 => if x6 < x1 then (slices_stableCmpFunc_Item.l2 k x0 x1 x2 x6 0 (wrap64 (2 * x6))) else (some x0)
def slices_stableCmpFunc_Item.l2 : Nat → List (S36) → Int → Unit → Int → Int → Int → Option ((List (S36)))
 | 0, _, _, _, _, _, _ => none
 | k + 1, x0, x1, x2, x6, x7, x8 => if x8 ≤ x1 then ((slices_symMergeCmpFunc_Item.f k x0 x7 (wrap64 (x7 + x6)) x8 x2).bind fun t280 => (slices_stableCmpFunc_Item.l2 k t280 x1 x2 x6 x8 (wrap64 (x8 + (wrap64 (2 * x6)))))) else (if (wrap64 (x7 + x6)) < x1 then ((slices_symMergeCmpFunc_Item.f k x0 x7 (wrap64 (x7 + x6)) x1 x2).bind fun t281 => (slices_stableCmpFunc_Item.l1 k t281 x1 x2 (wrap64 (x6 * 2)))) else (slices_stableCmpFunc_Item.l1 k x0 x1 x2 (wrap64 (x6 * 2))))
end
def slices_stableCmpFunc_Item.f (k : Nat) (l0 : List (S36)) (a1 : Int) (a2 : Unit) : Option ((List (S36))) := slices_stableCmpFunc_Item.l0 k l0 a1 a2 20 0 20
theorem slices_stableCmpFunc_Item.mono_l : ∀ k, (∀ y0 y1 y2 y3 y4 y5, LeO (slices_stableCmpFunc_Item.l0 k y0 y1 y2 y3 y4 y5) (slices_stableCmpFunc_Item.l0 (k + 1) y0 y1 y2 y3 y4 y5)) ∧ (∀ y0 y1 y2 y3, LeO (slices_stableCmpFunc_Item.l1 k y0 y1 y2 y3) (slices_stableCmpFunc_Item.l1 (k + 1) y0 y1 y2 y3)) ∧ (∀ y0 y1 y2 y3 y4 y5, LeO (slices_stableCmpFunc_Item.l2 k y0 y1 y2 y3 y4 y5) (slices_stableCmpFunc_Item.l2 (k + 1) y0 y1 y2 y3 y4 y5))
 | 0 => ⟨fun _ _ _ _ _ _ r h => by simp [slices_stableCmpFunc_Item.l0] at h, fun _ _ _ _ r h => by simp [slices_stableCmpFunc_Item.l1] at h, fun _ _ _ _ _ _ r h => by simp [slices_stableCmpFunc_Item.l2] at h⟩
 | k + 1 => by
  obtain ⟨ih0, ih1, ih2⟩ := slices_stableCmpFunc_Item.mono_l k
  refine ⟨?_, ?_, ?_⟩
  ·intro y0 y1 y2 y3 y4 y5
   unfold slices_stableCmpFunc_Item.l0
   exact mo_6
  ·intro y0 y1 y2 y3
   unfold slices_stableCmpFunc_Item.l1
   exact mo_6
  ·intro y0 y1 y2 y3 y4 y5
   unfold slices_stableCmpFunc_Item.l2
   exact mo_6
theorem slices_stableCmpFunc_Item.mono : ∀ a0 a1 a2 k, LeO (slices_stableCmpFunc_Item.f k a0 a1 a2) (slices_stableCmpFunc_Item.f (k + 1) a0 a1 a2) := by
 intro a0 a1 a2 k
 obtain ⟨ih0, ih1, ih2⟩ := slices_stableCmpFunc_Item.mono_l k
 unfold slices_stableCmpFunc_Item.f
 repeat' first
   | (with_reducible exact ih0 ..)
   | (with_reducible exact ih1 ..)
   | (with_reducible exact ih2 ..)
   | (with_reducible exact slices_insertionSortCmpFunc_Item.mono ..)
   | (with_reducible exact slices_symMergeCmpFunc_Item.mono ..)
   | (with_reducible exact LeO.refl _)
   | (with_reducible exact LeO.none _)
   | (with_reducible refine LeO.ite ?_ ?_)
   | (with_reducible refine LeO.bind ?_ (fun _ => ?_))
   | exact ih0 ..
   | exact ih1 ..
   | exact ih2 ..
   | exact slices_insertionSortCmpFunc_Item.mono ..
   | exact slices_symMergeCmpFunc_Item.mono ..
   | exact LeO.none _
   | refine LeO.ite ?_ ?_
   | refine LeO.bind ?_ (fun _ => ?_)
set_option maxHeartbeats 8000000 in
set_option maxRecDepth 100000 in
theorem slices_stableCmpFunc_Item.calls (k : Nat) (P0_ : Nat → Prop) (u9000_ : Value) (l0 : List (S36)) (a1 : Int) (a2 : Unit) (r : List (S36)) (w0 w : World) (hB : Below w0.heap.size w0 w) (ho0 : Kd.R k36 36 w w0.heap.size P0_ u9000_ l0) (h : slices_stableCmpFunc_Item.f k l0 a1 a2 = some r) :
  Calls Tryd.prog 28 #[u9000_, .int .i64 a1, .func (.func 17) #[] #[]] w fun e w' => e = .returned (.tuple #[]) ∧ Kd.R k36 36 w' w0.heap.size (fun k_ => (P0_ k_ ∨ w.heap.size ≤ k_)) u9000_ r ∧ Below w0.heap.size w0 w' ∧ Kept w w' (fun k_ => P0_ k_) := by
 have HO0 := Aside0.mk (show Kd.R k36 36 w w0.heap.size (fun k_ => (P0_ k_ ∨ w.heap.size ≤ k_)) u9000_ l0 from Kd.R_mono ho0 (fun k_ hk => (.inl hk)))
 have HK := Aside0.mk (Kept.refl w (fun k_ => P0_ k_))
 have HW0 := Aside0.mk hB.size
 have HB := Aside0.mk hB
 clear hB
 unfold slices_stableCmpFunc_Item.f at h
 have H := h
 clear h
 have H' := Aside0.mk H
 clear H
 go_enter Tryd.func28, Tryd.ntmps28
 go_wp2
 go_loopg [7, 8] k (fun kq v7 v8 w' => ∃ (x0_1 : List (S36)) (x7_1 : Int) (x8_1 : Int), v7 = .int .i64 x7_1 ∧ v8 = .int .i64 x8_1 ∧ Aside0 (slices_stableCmpFunc_Item.l0 kq x0_1 a1 a2 20 x7_1 x8_1 = some r) ∧ Aside0 (kq ≤ k) ∧ Aside0 (Kd.R k36 36 w' w0.heap.size (fun k_ => (P0_ k_ ∨ w.heap.size ≤ k_)) u9000_ x0_1) ∧ Aside0 (Kept w w' (fun k_ => P0_ k_)) ∧ Aside0 (Below w0.heap.size w0 w'))
 case atStart => exact ⟨(l0), (0), (20), tq_4, tq_4, H', ⟨Nat.le_refl _⟩, ⟨(raR_ HO0)⟩, ⟨tq_0⟩, ⟨th_⟩⟩
 case round =>
 clear H'
 try clear c2; try clear p2
 obtain ⟨x0_1, x7_1, x8_1, rfl, rfl, HA, HK1, HO_0, HK, HB⟩ := hrel
 cases gk with
 | zero => exact absurd HA.out (by simp [slices_stableCmpFunc_Item.l0])
 | succ k1 =>
 have H := HA.out
 clear HA
 simp only [slices_stableCmpFunc_Item.l0] at H
 by_cases c4 : x8_1 ≤ a1
 ·rw [if_pos c4] at H
  have c4b0 := decide_eq_true c4
  clear c4
  obtain ⟨t278, A5, H⟩ := bd_ H
  have H' := Aside0.mk H
  clear H
  obtain ⟨Ao6, co6, eo6⟩ := Kd.R_slice HO_0.out
  subst eo6
  go_wp2_with (first | ((with_reducible refine gate_callee (f := 42) rfl ?_); refine goesL_ (some 18) rfl rfl Tryd.func42 (by kernel_rfl) rfl #[.slice Ao6 x0_1.length co6, .int .i64 x7_1, .int .i64 x8_1, .func (.func 17) #[] #[]] rfl tq_2 ?_; (with_reducible refine (slices_insertionSortCmpFunc_Item.calls k1 (fun k_ => some k_ = (.slice Ao6 x0_1.length co6 : Value).ownBlock) (.slice Ao6 x0_1.length co6) x0_1 x7_1 x8_1 a2 t278 w0 _ ?side1 ?side2 A5.out).mono ?_); (case side1 => exact tq_8); (case side2 => exact Kd.R_tight rfl HO_0.out); rintro e w7 ⟨rfl, hy0, hb, hkp⟩; refine ⟨_, rfl, ?_⟩; have z_ := p_ (Kd.R_reok rfl hy0 (fun k_ e_ => HO_0.out.1 k_ e_)) <| p_ (Kept.then_ (S := (fun k_ => P0_ k_)) tq_0 hkp (fun k_ hs_ => (fun e_ => (HO_0.out.1 k_ e_.symm)) hs_)) <| a_ (hb); clear HO_0 HK HB; obtain ⟨HO_0, HK, HB⟩ := z_; (try clear hb); (try clear hkp); (try clear hy0)))
  go_roundg k1
  case measure => have := HK1.out; omega
  case rel => exact ⟨(t278), (x8_1), (wrap64 (x8_1 + 20)), tq_4, tq_4, H', ⟨tq_22⟩, ⟨(raR_ HO_0)⟩, ⟨tq_0⟩, ⟨th_⟩⟩
 rw [if_neg c4] at H
 have c4b0 := decide_eq_false c4
 clear c4
 obtain ⟨t279, A8, H⟩ := bd_ H
 have H' := Aside0.mk H
 clear H
 obtain ⟨Ao9, co9, eo9⟩ := Kd.R_slice HO_0.out
 subst eo9
 go_wp2_with (first | ((with_reducible refine gate_callee (f := 42) rfl ?_); refine goesL_ (some 27) rfl rfl Tryd.func42 (by kernel_rfl) rfl #[.slice Ao9 x0_1.length co9, .int .i64 x7_1, .int .i64 a1, .func (.func 17) #[] #[]] rfl tq_2 ?_; (with_reducible refine (slices_insertionSortCmpFunc_Item.calls k1 (fun k_ => some k_ = (.slice Ao9 x0_1.length co9 : Value).ownBlock) (.slice Ao9 x0_1.length co9) x0_1 x7_1 a1 a2 t279 w0 _ ?side1 ?side2 A8.out).mono ?_); (case side1 => exact tq_8); (case side2 => exact Kd.R_tight rfl HO_0.out); rintro e w10 ⟨rfl, hy0, hb, hkp⟩; refine ⟨_, rfl, ?_⟩; have z_ := p_ (Kd.R_reok rfl hy0 (fun k_ e_ => HO_0.out.1 k_ e_)) <| p_ (Kept.then_ (S := (fun k_ => P0_ k_)) tq_0 hkp (fun k_ hs_ => (fun e_ => (HO_0.out.1 k_ e_.symm)) hs_)) <| a_ (hb); clear HO_0 HK HB; obtain ⟨HO_0, HK, HB⟩ := z_; (try clear hb); (try clear hkp); (try clear hy0)))
 (try simp only [Act.put, List.setIfInBounds_toArray, List.set_cons_zero, List.set_cons_succ])
 go_loopg [6] k1 (fun kq v6 w' => ∃ (x0_2 : List (S36)) (x6_2 : Int), v6 = .int .i64 x6_2 ∧ Aside0 (slices_stableCmpFunc_Item.l1 kq x0_2 a1 a2 x6_2 = some r) ∧ Aside0 (kq ≤ k1) ∧ Aside0 (Kd.R k36 36 w' w0.heap.size (fun k_ => (P0_ k_ ∨ w.heap.size ≤ k_)) (.slice Ao9 x0_1.length co9) x0_2) ∧ Aside0 (Kept w w' (fun k_ => P0_ k_)) ∧ Aside0 (Below w0.heap.size w0 w'))
 case atStart => exact ⟨(t279), (20), tq_4, H', ⟨Nat.le_refl _⟩, ⟨(raR_ HO_0)⟩, ⟨tq_0⟩, ⟨th_⟩⟩
 case round =>
 clear H'
 try clear c2; try clear p2; try clear c4; try clear c4b0; try clear p6; try clear p2
 obtain ⟨x0_2, x6_2, rfl, HA, HK2, HO_0, HK, HB⟩ := hrel
 have hl0_2 := (Kd.R_reads' HO_0.out).1
 rw [hl0_2] at HO_0
 (try simp only [hl0_2])
 cases gk with
 | zero => exact absurd HA.out (by simp [slices_stableCmpFunc_Item.l1])
 | succ k2 =>
 have H := HA.out
 clear HA
 simp only [slices_stableCmpFunc_Item.l1] at H
 by_cases c11 : x6_2 < a1
 rotate_left
 ·rw [if_neg c11] at H
  have c11b0 := decide_eq_false c11
  clear c11
  obtain rfl := Option.some.inj H
  go_wp2
  first | go_end0 | ((try simp only [Exit.inBlock, Exit.then]); refine bodyPost_ret (results_none rfl _ _ _) rfl ?_)
  exact ⟨tq_3, (by first | exact (raR_ HO_0) | (simp only [hl0_2]; exact (raR_ HO_0))), th_, tq_0⟩
 rw [if_pos c11] at H
 have c11b0 := decide_eq_true c11
 clear c11
 have H' := Aside0.mk H
 clear H
 go_wp2
 go_loopg [7, 8] k2 (fun kq v7 v8 w' => ∃ (x0_3 : List (S36)) (x7_3 : Int) (x8_3 : Int), v7 = .int .i64 x7_3 ∧ v8 = .int .i64 x8_3 ∧ Aside0 (slices_stableCmpFunc_Item.l2 kq x0_3 a1 a2 x6_2 x7_3 x8_3 = some r) ∧ Aside0 (kq ≤ k2) ∧ Aside0 (Kd.R k36 36 w' w0.heap.size (fun k_ => (P0_ k_ ∨ w.heap.size ≤ k_)) (.slice Ao9 x0_2.length co9) x0_3) ∧ Aside0 (Kept w w' (fun k_ => P0_ k_)) ∧ Aside0 (Below w0.heap.size w0 w'))
 case atStart => exact ⟨(x0_2), (0), (wrap64 (2 * x6_2)), tq_4, tq_4, H', ⟨Nat.le_refl _⟩, ⟨(by (try simp only [hl0_2]); (with_reducible repeat (first | apply Kd.R_alloc | apply Kd.R_drewN | apply Kd.R_drew)); exact HO_0.out)⟩, ⟨tq_0⟩, ⟨th_⟩⟩
 case round =>
 clear H'
 try clear c1; try clear c2; try clear p2; try clear c4; try clear c4b0; try clear p6; try clear c11; try clear c11b0; try clear p2; try clear p6
 obtain ⟨x0_3, x7_3, x8_3, rfl, rfl, HA, HK3, HO_0, HK, HB⟩ := hrel
 have hl0_3 := (Kd.R_reads' HO_0.out).1
 rw [hl0_3] at HO_0
 (try simp only [hl0_3])
 cases gk with
 | zero => exact absurd HA.out (by simp [slices_stableCmpFunc_Item.l2])
 | succ k3 =>
 have H := HA.out
 clear HA
 simp only [slices_stableCmpFunc_Item.l2] at H
 by_cases c12 : x8_3 ≤ a1
 ·rw [if_pos c12] at H
  have c12b0 := decide_eq_true c12
  clear c12
  obtain ⟨t280, A13, H⟩ := bd_ H
  have H' := Aside0.mk H
  clear H
  go_wp2_with (first | ((with_reducible refine gate_callee (f := 43) rfl ?_); refine goesL_ (some 43) rfl rfl Tryd.func43 (by kernel_rfl) rfl #[.slice Ao9 x0_3.length co9, .int .i64 x7_3, .int .i64 (wrap64 (x7_3 + x6_2)), .int .i64 x8_3, .func (.func 17) #[] #[]] rfl tq_2 ?_; (with_reducible refine (slices_symMergeCmpFunc_Item.calls k3 (fun k_ => some k_ = (.slice Ao9 x0_3.length co9 : Value).ownBlock) (.slice Ao9 x0_3.length co9) x0_3 x7_3 (wrap64 (x7_3 + x6_2)) x8_3 a2 t280 w0 _ ?side1 ?side2 A13.out).mono ?_); (case side1 => exact tq_8); (case side2 => exact Kd.R_tight rfl HO_0.out); rintro e w14 ⟨rfl, hy0, hb, hkp⟩; refine ⟨_, rfl, ?_⟩; have z_ := p_ (Kd.R_reok rfl hy0 (fun k_ e_ => HO_0.out.1 k_ e_)) <| p_ (Kept.then_ (S := (fun k_ => P0_ k_)) tq_0 hkp (fun k_ hs_ => (fun e_ => (HO_0.out.1 k_ e_.symm)) hs_)) <| a_ (hb); clear HO_0 HK HB; obtain ⟨HO_0, HK, HB⟩ := z_; (try clear hb); (try clear hkp); (try clear hy0)))
  (try simp only [← hl0_3])
  go_roundg k3
  case measure => have := HK1.out; have := HK2.out; have := HK3.out; omega
  case rel => exact ⟨(t280), (x8_3), (wrap64 (x8_3 + (wrap64 (2 * x6_2)))), tq_4, tq_4, H', ⟨(by have := HK1.out; have := HK2.out; have := HK3.out; omega)⟩, ⟨tq_26⟩, ⟨tq_0⟩, ⟨th_⟩⟩
 rw [if_neg c12] at H
 have c12b0 := decide_eq_false c12
 clear c12
 by_cases c15 : (wrap64 (x7_3 + x6_2)) < a1
 rotate_left
 ·rw [if_neg c15] at H
  have c15b0 := decide_eq_false c15
  clear c15
  have H' := Aside0.mk H
  clear H
  go_wp2
  (try simp only [← hl0_2, ← hl0_3])
  go_roundg k3
  case measure => have := HK1.out; have := HK2.out; have := HK3.out; omega
  case rel => exact ⟨(x0_3), (wrap64 (x6_2 * 2)), tq_4, H', ⟨(by have := HK1.out; have := HK2.out; have := HK3.out; omega)⟩, ⟨tq_26⟩, ⟨tq_0⟩, ⟨th_⟩⟩
 rw [if_pos c15] at H
 have c15b0 := decide_eq_true c15
 clear c15
 obtain ⟨t281, A16, H⟩ := bd_ H
 have H' := Aside0.mk H
 clear H
 go_wp2_with (first | ((with_reducible refine gate_callee (f := 43) rfl ?_); refine goesL_ (some 60) rfl rfl Tryd.func43 (by kernel_rfl) rfl #[.slice Ao9 x0_3.length co9, .int .i64 x7_3, .int .i64 (wrap64 (x7_3 + x6_2)), .int .i64 a1, .func (.func 17) #[] #[]] rfl tq_2 ?_; (with_reducible refine (slices_symMergeCmpFunc_Item.calls k3 (fun k_ => some k_ = (.slice Ao9 x0_3.length co9 : Value).ownBlock) (.slice Ao9 x0_3.length co9) x0_3 x7_3 (wrap64 (x7_3 + x6_2)) a1 a2 t281 w0 _ ?side1 ?side2 A16.out).mono ?_); (case side1 => exact tq_8); (case side2 => exact Kd.R_tight rfl HO_0.out); rintro e w17 ⟨rfl, hy0, hb, hkp⟩; refine ⟨_, rfl, ?_⟩; have z_ := p_ (Kd.R_reok rfl hy0 (fun k_ e_ => HO_0.out.1 k_ e_)) <| p_ (Kept.then_ (S := (fun k_ => P0_ k_)) tq_0 hkp (fun k_ hs_ => (fun e_ => (HO_0.out.1 k_ e_.symm)) hs_)) <| a_ (hb); clear HO_0 HK HB; obtain ⟨HO_0, HK, HB⟩ := z_; (try clear hb); (try clear hkp); (try clear hy0)))
 (try simp only [← hl0_2, ← hl0_3])
 go_roundg k3
 case measure => have := HK1.out; have := HK2.out; have := HK3.out; omega
 case rel => exact ⟨(t281), (wrap64 (x6_2 * 2)), tq_4, H', ⟨(by have := HK1.out; have := HK2.out; have := HK3.out; omega)⟩, ⟨tq_26⟩, ⟨tq_0⟩, ⟨th_⟩⟩

/-! ### slices_SortStableFunc_Item: function 16 -/
def slices_SortStableFunc_Item.f (k : Nat) (l0 : List (S36)) (a1 : Unit) : Option ((List (S36))) := (slices_stableCmpFunc_Item.f k l0 (l0.length : Int) a1).bind fun t282 => (some t282)
theorem slices_SortStableFunc_Item.mono : ∀ a0 a1 k, LeO (slices_SortStableFunc_Item.f k a0 a1) (slices_SortStableFunc_Item.f (k + 1) a0 a1) := by
 intro a0 a1 k
 unfold slices_SortStableFunc_Item.f
 repeat' first
   | (with_reducible exact slices_stableCmpFunc_Item.mono ..)
   | (with_reducible exact LeO.refl _)
   | (with_reducible exact LeO.none _)
   | (with_reducible refine LeO.ite ?_ ?_)
   | (with_reducible refine LeO.bind ?_ (fun _ => ?_))
   | exact slices_stableCmpFunc_Item.mono ..
   | exact LeO.none _
   | refine LeO.ite ?_ ?_
   | refine LeO.bind ?_ (fun _ => ?_)
set_option maxHeartbeats 8000000 in
set_option maxRecDepth 100000 in
theorem slices_SortStableFunc_Item.calls (k : Nat) (P0_ : Nat → Prop) (u9000_ : Value) (l0 : List (S36)) (a1 : Unit) (r : List (S36)) (w0 w : World) (hB : Below w0.heap.size w0 w) (ho0 : Kd.R k36 36 w w0.heap.size P0_ u9000_ l0) (h : slices_SortStableFunc_Item.f k l0 a1 = some r) :
  Calls Tryd.prog 16 #[u9000_, .func (.func 17) #[] #[]] w fun e w' => e = .returned (.tuple #[]) ∧ Kd.R k36 36 w' w0.heap.size (fun k_ => (P0_ k_ ∨ w.heap.size ≤ k_)) u9000_ r ∧ Below w0.heap.size w0 w' ∧ Kept w w' (fun k_ => P0_ k_) := by
 have HO0 := Aside0.mk (show Kd.R k36 36 w w0.heap.size (fun k_ => (P0_ k_ ∨ w.heap.size ≤ k_)) u9000_ l0 from Kd.R_mono ho0 (fun k_ hk => (.inl hk)))
 have HK := Aside0.mk (Kept.refl w (fun k_ => P0_ k_))
 have HW0 := Aside0.mk hB.size
 have HB := Aside0.mk hB
 clear hB
 unfold slices_SortStableFunc_Item.f at h
 have H := h
 clear h
 obtain ⟨t282, A3, H⟩ := bd_ H
 obtain rfl := Option.some.inj H
 obtain ⟨Ao4, co4, eo4⟩ := Kd.R_slice HO0.out
 subst eo4
 go_enter Tryd.func16, Tryd.ntmps16
 go_wp2_with (first | ((with_reducible refine gate_callee (f := 28) rfl ?_); refine goesL_ (some 8) rfl rfl Tryd.func28 (by kernel_rfl) rfl #[.slice Ao4 l0.length co4, .int .i64 (l0.length : Int), .func (.func 17) #[] #[]] rfl tq_2 ?_; (with_reducible refine (slices_stableCmpFunc_Item.calls k (fun k_ => some k_ = (.slice Ao4 l0.length co4 : Value).ownBlock) (.slice Ao4 l0.length co4) l0 (l0.length : Int) a1 t282 w0 _ ?side1 ?side2 A3.out).mono ?_); (case side1 => exact tq_8); (case side2 => exact Kd.R_tight rfl HO0.out); rintro e w5 ⟨rfl, hy0, hb, hkp⟩; refine ⟨_, rfl, ?_⟩; have z_ := p_ (Kd.R_reok rfl hy0 (fun k_ e_ => HO0.out.1 k_ e_)) <| p_ (Kept.then_ (S := (fun k_ => P0_ k_)) tq_0 hkp (fun k_ hs_ => (fun e_ => (HO0.out.1 k_ e_.symm)) hs_)) <| a_ (hb); clear HO0 HK HB; obtain ⟨HO0, HK, HB⟩ := z_; (try clear hb); (try clear hkp); (try clear hy0)))
 first | go_end0 | ((try simp only [Exit.inBlock, Exit.then]); refine bodyPost_ret (results_none rfl _ _ _) rfl ?_)
 exact ⟨tq_3, (raR_ HO0), th_, tq_0⟩

/-! ### impl_MovedItems: function 7 -/
def impl_MovedItems.l0 : Nat → ByteArray → ByteArray → Int → Int → List (S36) → Option ((List (S36)))
 | 0, _, _, _, _, _ => none
 | k + 1, x1, x2, x14, x15, x289000 => if x15 < x14 then (if 0 ≤ x15 then (if x15 < (x289000.length : Int) then (if ((rd_T36 x289000 x15).f0).toList = x1.toList then (if 0 ≤ (x1.size : Int) then (if (x1.size : Int) ≤ (((rd_T36 x289000 x15).f0).size : Int) then ((some (((rd_T36 x289000 x15).f0).extract ((x1.size : Int) : Int).toNat ((rd_T36 x289000 x15).f0).size : ByteArray)).bind fun y291 => (if x2.size + y291.size ≤ 9223372036854775807 then ((some (x2 ++ y291 : ByteArray)).bind fun y292 => (impl_MovedItems.l0 k x1 x2 x14 (wrap64 (x15 + 1)) (x289000.set (x15 : Int).toNat (⟨y292, (rd_T36 x289000 x15).f1, (rd_T36 x289000 x15).f2⟩ : S36)))) else (none))) else (none)) else (none)) else ((impl_IsUnder.f k ((rd_T36 x289000 x15).f0) x1).bind fun t294 => (if t294 = true then (if 0 ≤ (x1.size : Int) then (if (x1.size : Int) ≤ (((rd_T36 x289000 x15).f0).size : Int) then ((some (((rd_T36 x289000 x15).f0).extract ((x1.size : Int) : Int).toNat ((rd_T36 x289000 x15).f0).size : ByteArray)).bind fun y295 => (if x2.size + y295.size ≤ 9223372036854775807 then ((some (x2 ++ y295 : ByteArray)).bind fun y296 => (impl_MovedItems.l0 k x1 x2 x14 (wrap64 (x15 + 1)) (x289000.set (x15 : Int).toNat (⟨y296, (rd_T36 x289000 x15).f1, (rd_T36 x289000 x15).f2⟩ : S36)))) else (none))) else (none)) else (none)) else (impl_MovedItems.l0 k x1 x2 x14 (wrap64 (x15 + 1)) x289000)))) else (none)) else (none)) else ((slices_SortStableFunc_Item.f k x289000 ()).bind fun t298 => (some t298))
def impl_MovedItems.f (k : Nat) (l0_0 : List (S36)) (a1 : ByteArray) (a2 : ByteArray) : Option ((List (S36))) := (impl_copyView.f l0_0).bind fun t285 => (impl_MovedItems.l0 k a1 a2 (t285.length : Int) 0 t285)
theorem impl_MovedItems.mono_l : ∀ k, (∀ y0 y1 y2 y3 y4, LeO (impl_MovedItems.l0 k y0 y1 y2 y3 y4) (impl_MovedItems.l0 (k + 1) y0 y1 y2 y3 y4))
 | 0 => fun _ _ _ _ _ r h => by simp [impl_MovedItems.l0] at h
 | k + 1 => by
  have ih0 := impl_MovedItems.mono_l k
  ·intro y0 y1 y2 y3 y4
   unfold impl_MovedItems.l0
   repeat' first
   | (with_reducible exact ih0 ..)
   | (with_reducible exact impl_IsUnder.mono ..)
   | (with_reducible exact slices_SortStableFunc_Item.mono ..)
   | (with_reducible exact LeO.refl _)
   | (with_reducible exact LeO.none _)
   | (with_reducible refine LeO.ite ?_ ?_)
   | (with_reducible refine LeO.bind ?_ (fun _ => ?_))
   | exact ih0 ..
   | exact impl_IsUnder.mono ..
   | exact slices_SortStableFunc_Item.mono ..
   | exact LeO.none _
   | refine LeO.ite ?_ ?_
   | refine LeO.bind ?_ (fun _ => ?_)
theorem impl_MovedItems.mono : ∀ a0 a1 a2 k, LeO (impl_MovedItems.f k a0 a1 a2) (impl_MovedItems.f (k + 1) a0 a1 a2) := by
 intro a0 a1 a2 k
 have ih0 := impl_MovedItems.mono_l k
 unfold impl_MovedItems.f
 repeat' first
   | (with_reducible exact ih0 ..)
   | (with_reducible exact impl_IsUnder.mono ..)
   | (with_reducible exact slices_SortStableFunc_Item.mono ..)
   | (with_reducible exact LeO.refl _)
   | (with_reducible exact LeO.none _)
   | (with_reducible refine LeO.ite ?_ ?_)
   | (with_reducible refine LeO.bind ?_ (fun _ => ?_))
   | exact ih0 ..
   | exact impl_IsUnder.mono ..
   | exact slices_SortStableFunc_Item.mono ..
   | exact LeO.none _
   | refine LeO.ite ?_ ?_
   | refine LeO.bind ?_ (fun _ => ?_)
def impl_MovedItems.T6 : Bool × List (List Nat × List Nat) := (true, [([], []), ([0], [0]), ([], []), ([], []), ([], []), ([4], [4]), ([], []), ([6], [6]), ([5, 7], [5, 7]), ([3, 8], [3, 8]), ([1, 2, 0, 1, 2, 3, 4, 5, 6, 7, 8, 9], [1, 2]), ([10, 0, 1, 2, 3, 4, 5, 6, 7, 8, 9], [10]), ([11, 9, 0, 1, 2, 3, 4, 5, 6, 7, 8, 9], [9, 11])])
def impl_MovedItems.B6 : List Nat := [0, 1, 0, 0, 0, 16, 0, 64, 240, 504, 1023, 2047, 4095]
theorem impl_MovedItems.tab6 : rtab .any (opsOf Tryd.f7 6) = impl_MovedItems.T6 := by kernel_rfl
theorem impl_MovedItems.bits6 : waitsOk impl_MovedItems.T6.2 impl_MovedItems.B6 = true := by kernel_rfl
set_option maxHeartbeats 8000000 in
set_option maxRecDepth 100000 in
theorem impl_MovedItems.calls (k : Nat) (A0_0 : Option Addr) (c0_0 : Nat) (l0_0 : List (S36)) (a1 : ByteArray) (a2 : ByteArray) (r : List (S36)) (w : World) (hD_ : DoorOk w) (hr0_0 : Kd.C k36 w A0_0 l0_0.length l0_0) (hc0_0 : l0_0.length ≤ c0_0) (h : impl_MovedItems.f k l0_0 a1 a2 = some r) :
  Calls Tryd.prog 7 #[.agg #[.slice A0_0 l0_0.length c0_0], .string a1, .string a2] w fun e w' => ∃ v0_ : Value, e = .returned (.agg #[v0_]) ∧ Kd.R k36 36 w' w.heap.size (fun _ => True) v0_ r ∧ Below w.heap.size w w' := by
 have hu28 := Tryd.underlying28
 have hu36 := Tryd.underlying36
 have HR0_0 := Aside0.mk hr0_0
 have HC0_0 := Aside0.mk hc0_0
 clear hr0_0 hc0_0
 have HD := Aside0.mk hD_
 clear hD_
 have HB := Aside0.mk (Below.refl w.heap.size w)
 unfold impl_MovedItems.f at h
 have H := h
 clear h
 obtain ⟨t285, A4, H⟩ := bd_ H
 have H' := Aside0.mk H
 clear H
 go_enter Tryd.func7, Tryd.ntmps7
 go_wp2_with (first | ((with_reducible refine gate_dst (N := 3) rfl ?_); refine be_ 3 (cs := #[.slice A0_0 l0_0.length c0_0]) 28 ?_; intro gb283 hg w5 hbox hb; have z_ := bx0_ th_ hb hbox hg; clear HB; obtain ⟨HB, BK283, GW283, GE283⟩ := z_; clear hb hbox hg) | ((with_reducible refine gate_dst (N := 6) rfl ?_); refine be_ 6 (cs := #[.slice none 0 0]) 28 ?_; intro gb284 hg w6 hbox hb; have z_ := bx1_ (kb_ BK283) th_ hb hbox hg; clear BK283 HB; obtain ⟨BK283, HB, BK284, GW284, GE284, NB283_284, NB284_283⟩ := z_; clear hb hbox hg; obtain ⟨n283_284, n284_283⟩ := an2_ NB283_284 NB284_283; have hcz8_0 := bc_ BK283.out 0; have hfz8_0 := blk_frozen BK283.out 0) | ((with_reducible refine gate_callee (f := 14) rfl ?_); refine goesL_ (some 11) rfl rfl Tryd.func14 (by kernel_rfl) rfl #[.agg #[.slice A0_0 l0_0.length c0_0]] rfl tq_2 ?_; (with_reducible refine (impl_copyView.calls _ _ l0_0 t285 _ ?side1 ?side2 A4.out).mono ?_); (case side1 => exact tq_5); (case side2 => exact HC0_0.out); rintro e w9 ⟨v286, rfl, ho0, hb⟩; refine ⟨_, rfl, ?_⟩; have z_ := p_ (Kd.R_lower ho0 (below_size th_)) <| bw2_ (kb_ BK283) (kb_ BK284) th_ hb; clear BK283 BK284 HB; obtain ⟨HO287, BK283, BK284, HB⟩ := z_; (try clear hb); (try clear ho0)) | ((with_reducible refine gate_dst (N := 7) rfl ?_); refine be_ 7 (cs := #[.slice none 0 0]) 28 ?_; intro gb288 hg w10 hbox hb; have z_ := p_ (Kd.R_below (raR_ HO287) hb) <| bx2_ (kb_ BK283) (kb_ BK284) th_ hb hbox hg; clear HO287 BK283 BK284 HB; obtain ⟨HO287, BK283, BK284, HB, BK288, GW288, GE288, NB283_288, NB288_283, NB284_288, NB288_284⟩ := z_; clear hb hbox hg; obtain ⟨Ao11, co11, eo11⟩ := Kd.R_slice HO287.out; subst eo11; obtain ⟨n288_283, n283_288, n288_284, n284_288⟩ := an4_ NB288_283 NB283_288 NB288_284 NB284_288; have hcz14_0 := bc_ BK288.out 0; have hfz14_0 := blk_frozen BK288.out 0))
 (try simp only [Act.put, List.setIfInBounds_toArray, List.set_cons_zero, List.set_cons_succ])
 go_loopg [15] k (fun kq v15 w' => ∃ (x15_1 : Int) (x289000_1 : List (S36)), v15 = .int .i64 x15_1 ∧ Aside0 (impl_MovedItems.l0 kq a1 a2 (t285.length : Int) x15_1 x289000_1 = some r) ∧ Aside0 (kq ≤ k) ∧ Aside0 (Kd.R k36 36 w' w.heap.size (fun _ => True) (.slice Ao11 t285.length co11) x289000_1) ∧ Aside0 (w'.heap[gb283]? = some (.cells #[(.slice A0_0 l0_0.length c0_0)] 28 (0, 0))) ∧ Aside0 (w'.heap[gb284]? = some (.cells #[(.slice none 0 0)] 28 (0, 0))) ∧ Aside0 (w'.heap[gb288]? = some (.cells #[(.slice Ao11 t285.length co11)] 28 (0, 0))) ∧ Aside0 (Below w.heap.size w w'))
 case atStart => exact ⟨(0), (t285), tq_4, H', ⟨Nat.le_refl _⟩, ⟨(by (with_reducible repeat (first | apply Kd.R_alloc | apply Kd.R_drewN | apply Kd.R_drew)); exact Kd.R_mono (rR_ (Kd.R_types HO287.out BK288.out (by decide))) (fun _ hk => trivial))⟩, ⟨tb_⟩, ⟨tb_⟩, ⟨tb_⟩, ⟨th_⟩⟩
 case round =>
 clear H'
 try clear c1; try clear p2; try clear c7; try clear c12; try clear c13; try clear c14; try clear hcz14_0; try clear hcz8_0; try clear hfz14_0; try clear hfz8_0
 obtain ⟨x15_1, x289000_1, rfl, HA, HK1, HO_289000, BK283, BK284, BK288, HB⟩ := hrel
 have hl289000_1 := (Kd.R_reads' HO_289000.out).1
 rw [hl289000_1] at HO_289000
 (try simp only [hl289000_1])
 (try simp only [hl289000_1] at BK283)
 (try simp only [hl289000_1] at BK284)
 (try simp only [hl289000_1] at BK288)
 cases gk with
 | zero => exact absurd HA.out (by simp [impl_MovedItems.l0])
 | succ k1 =>
 have H := HA.out
 clear HA
 simp only [impl_MovedItems.l0] at H
 by_cases c15 : x15_1 < (t285.length : Int)
 rotate_left
 ·rw [if_neg c15] at H
  have c15b0 := decide_eq_false c15
  (try simp only [hl289000_1] at c15b0)
  clear c15
  obtain ⟨t298, A46, H⟩ := bd_ H
  obtain rfl := Option.some.inj H
  have hcz49_0 := bc_ BK288.out 0
  have hfz49_0 := blk_frozen BK288.out 0
  go_wp2_with (first | ((with_reducible refine gate_callee (f := 16) rfl ?_); refine goesL_ (some 45) rfl rfl Tryd.func16 (by kernel_rfl) rfl #[.slice Ao11 x289000_1.length co11, .func (.func 17) #[] #[]] rfl tq_2 ?_; (with_reducible refine (slices_SortStableFunc_Item.calls k1 (fun k_ => some k_ = (.slice Ao11 x289000_1.length co11 : Value).ownBlock) (.slice Ao11 x289000_1.length co11) x289000_1 () t298 w _ ?side1 ?side2 A46.out).mono ?_); (case side1 => repeat (first | (with_reducible first | exact HB.out | apply below_alloc | apply pw_below_drewN | apply below_drew1 | refine below_set ?_ GE283.out | refine below_set ?_ GE284.out | refine below_set ?_ GE288.out) | exact HB.out)); (case side2 => exact Kd.R_tight rfl HO_289000.out); rintro e w50 ⟨rfl, hy0, hb, hkp⟩; refine ⟨_, rfl, ?_⟩; have z_ := p_ (Kd.R_reok rfl hy0 (fun k_ e_ => HO_289000.out.1 k_ e_)) <| p_ (blk_kept (kb_ BK283) hkp (fun hs_ => (fun e_ => (Kd.R_ne HO_289000.out BK283.out (by decide)) e_) hs_)) <| p_ (blk_kept (kb_ BK284) hkp (fun hs_ => (fun e_ => (Kd.R_ne HO_289000.out BK284.out (by decide)) e_) hs_)) <| p_ (blk_kept (kb_ BK288) hkp (fun hs_ => (fun e_ => (Kd.R_ne HO_289000.out BK288.out (by decide)) e_) hs_)) <| a_ (hb); clear HO_289000 BK283 BK284 BK288 HB; obtain ⟨HO_289000, BK283, BK284, BK288, HB⟩ := z_; (try clear hb); (try clear hkp); (try clear hy0); have hcz51_0 := bc_ BK288.out 0; have hfz51_0 := blk_frozen BK288.out 0; obtain ⟨n284_283, n283_284⟩ := an2_ NB284_283 NB283_284; have hcz53_0 := bc_ BK284.out 0; have hfz53_0 := blk_frozen BK284.out 0))
  refine bodyPost_ret (results_cell_row rfl _ _ gb284 28 #[.slice Ao11 x289000_1.length co11] (0, 0) _ rfl tb_ Tryd.underlying28 rfl (by kernel_rfl)) rfl ?_
  exact ⟨_, tq_3, (by (with_reducible repeat (first | apply Kd.R_alloc | apply Kd.R_drewN | apply Kd.R_drew)); exact Kd.R_mono (rR_ (Kd.R_types HO_289000.out BK284.out (by decide))) (fun _ hk => trivial)), th_⟩
 rw [if_pos c15] at H
 have c15b0 := decide_eq_true c15
 (try simp only [hl289000_1] at c15b0)
 clear c15
 obtain ⟨c16, H⟩ := fc_ H
 have c16b0 := decide_eq_true c16
 clear c16
 obtain ⟨c17, H⟩ := fc_ H
 have c17b0 := decide_eq_true c17
 clear c17
 by_cases c18 : ((rd_T36 x289000_1 x15_1).f0).toList = a1.toList
 ·rw [if_pos c18] at H
  have c18b0 := beq_iff_eq.mpr c18
  have c18b1 := bne_eq_false_iff_eq.mpr c18
  clear c18
  obtain ⟨c19, H⟩ := fc_ H
  have c19b0 := eq_true c19
  have c19b1 := decide_eq_true c19
  clear c19
  obtain ⟨c20, H⟩ := fc_ H
  have c20b0 := eq_true c20
  have c20b1 := decide_eq_true c20
  clear c20
  obtain ⟨y291, hy291⟩ : ∃ y_ : ByteArray, (((rd_T36 x289000_1 x15_1).f0).extract ((a1.size : Int) : Int).toNat ((rd_T36 x289000_1 x15_1).f0).size) = y_ := ⟨_, rfl⟩
  replace H : (if a2.size + y291.size ≤ 9223372036854775807 then ((some (a2 ++ y291 : ByteArray)).bind fun y292 => (impl_MovedItems.l0 k1 a1 a2 (t285.length : Int) (wrap64 (x15_1 + 1)) (x289000_1.set (x15_1 : Int).toNat (⟨y292, (rd_T36 x289000_1 x15_1).f1, (rd_T36 x289000_1 x15_1).f2⟩ : S36)))) else (none)) = some r := by rw [← hy291]; exact (Option.bind_some _ _).symm.trans H
  (try simp only [Int.toNat_natCast] at hy291)
  obtain ⟨c21, H⟩ := fc_ H
  have c21b0 := eq_true c21
  have c21b1 := decide_eq_true c21
  try have c21b2 : (9223372036854775807 < a2.size + y291.size) = False := eq_false (Nat.not_lt.2 c21)
  clear c21
  obtain ⟨y292, hy292⟩ : ∃ y_ : ByteArray, (a2 ++ y291) = y_ := ⟨_, rfl⟩
  replace H : (impl_MovedItems.l0 k1 a1 a2 (t285.length : Int) (wrap64 (x15_1 + 1)) (x289000_1.set (x15_1 : Int).toNat (⟨y292, (rd_T36 x289000_1 x15_1).f1, (rd_T36 x289000_1 x15_1).f2⟩ : S36))) = some r := by rw [← hy292]; exact (Option.bind_some _ _).symm.trans H
  (try simp only [Int.toNat_natCast] at hy292)
  obtain ⟨y293, hy293⟩ : ∃ y_ : List (S36), y_ = (x289000_1.set (x15_1 : Int).toNat (⟨y292, (rd_T36 x289000_1 x15_1).f1, (rd_T36 x289000_1 x15_1).f2⟩ : S36)) := ⟨_, rfl⟩
  replace H : (impl_MovedItems.l0 k1 a1 a2 (t285.length : Int) (wrap64 (x15_1 + 1)) y293) = some r := by first | (rw [hy293]; with_reducible exact H) | (have H2_ := (Option.bind_some _ _).symm.trans H; rw [hy293]; with_reducible exact H2_) | (have H2_ := (Option.bind_some _ _).symm.trans H; with_reducible exact H2_) | with_reducible exact H | (rw [hy293]; exact H) | exact H
  have Ny293 := Aside0.mk hy293
  clear hy293
  have H' := Aside0.mk H
  clear H
  have p289 : 0 ≤ (x15_1 : Int) := of_decide_eq_true tq_1
  have q289 : x15_1 < (x289000_1.length : Int) := of_decide_eq_true tq_1
  obtain ⟨ad289, e289, hx289_0, hx289_1, hx289_2⟩ := at_T36 (Kd.R_reads' HO_289000.out).2.2 x15_1 p289 q289
  cases e289
  replace p289 := eq_true p289
  replace q289 := eq_true q289
  try go_wp2_with (first | ((with_reducible refine gate_dst (N := 9) rfl ?_); refine be_ 9 (cs := #[.string (⟨#[]⟩ : ByteArray), .bool false, .string (⟨#[]⟩ : ByteArray)]) 36 ?_; intro gb290 hg w23 hbox hb; have z_ := p_ (Kd.R_below (Kd.R_elderB (raR_ HO_289000) gb290 (Nat.le_of_eq hg.symm)) hb) <| bx3_ (kb_ BK283) (kb_ BK284) (kb_ BK288) th_ hb hbox hg; clear HO_289000 BK283 BK284 BK288 HB; obtain ⟨HO_289000, BK283, BK284, BK288, HB, BK290, GW290, GE290, NB283_290, NB290_283, NB284_290, NB290_284, NB288_290, NB290_288⟩ := z_; clear hb hbox hg; obtain ⟨n290_283, n283_290, n290_284, n284_290, n290_288, n288_290⟩ := an6_ NB290_283 NB283_290 NB290_284 NB284_290 NB290_288 NB288_290; obtain ⟨hcz27_0, hcz27_1, hcz27_2⟩ := bk3_ BK290.out; obtain ⟨hfz27_0, hfz27_1, hfz27_2⟩ := bf3_ BK290.out))
  have n0_ : Aside0 (Kd.R k36 36 (((w23.setCell ⟨gb290, 0, none⟩ (.string ((rd_T36 x289000_1 x15_1).f0))).setCell ⟨gb290, 1, none⟩ (.bool ((rd_T36 x289000_1 x15_1).f1))).setCell ⟨gb290, 2, none⟩ (.string ((rd_T36 x289000_1 x15_1).f2))) w.heap.size (fun k_ => k_ ≠ gb290) (.slice (some ad289) x289000_1.length co11) x289000_1) := ⟨(by (with_reducible repeat (first | apply Kd.R_alloc | apply Kd.R_drewN | apply Kd.R_drew)); exact Kd.R_mono (rR_ (rR_ (rR_ (Kd.R_mono HO_289000.out (fun k_ hk => (⟨hk, hk.2⟩ : _ ∧ k_ ≠ gb290)))))) (fun _ hk => hk.1.2))⟩
  have n1_ : Aside0 ((((w23.setCell ⟨gb290, 0, none⟩ (.string ((rd_T36 x289000_1 x15_1).f0))).setCell ⟨gb290, 1, none⟩ (.bool ((rd_T36 x289000_1 x15_1).f1))).setCell ⟨gb290, 2, none⟩ (.string ((rd_T36 x289000_1 x15_1).f2))).heap[gb283]? = some (.cells #[.slice A0_0 l0_0.length c0_0] 28 (0, 0))) := ⟨tb_⟩
  have n2_ : Aside0 ((((w23.setCell ⟨gb290, 0, none⟩ (.string ((rd_T36 x289000_1 x15_1).f0))).setCell ⟨gb290, 1, none⟩ (.bool ((rd_T36 x289000_1 x15_1).f1))).setCell ⟨gb290, 2, none⟩ (.string ((rd_T36 x289000_1 x15_1).f2))).heap[gb284]? = some (.cells #[.slice none 0 0] 28 (0, 0))) := ⟨tb_⟩
  have n3_ : Aside0 ((((w23.setCell ⟨gb290, 0, none⟩ (.string ((rd_T36 x289000_1 x15_1).f0))).setCell ⟨gb290, 1, none⟩ (.bool ((rd_T36 x289000_1 x15_1).f1))).setCell ⟨gb290, 2, none⟩ (.string ((rd_T36 x289000_1 x15_1).f2))).heap[gb288]? = some (.cells #[.slice (some ad289) x289000_1.length co11] 28 (0, 0))) := ⟨tb_⟩
  have n4_ : Aside0 ((((w23.setCell ⟨gb290, 0, none⟩ (.string ((rd_T36 x289000_1 x15_1).f0))).setCell ⟨gb290, 1, none⟩ (.bool ((rd_T36 x289000_1 x15_1).f1))).setCell ⟨gb290, 2, none⟩ (.string ((rd_T36 x289000_1 x15_1).f2))).heap[gb290]? = some (.cells #[.string ((rd_T36 x289000_1 x15_1).f0), .bool ((rd_T36 x289000_1 x15_1).f1), .string ((rd_T36 x289000_1 x15_1).f2)] 36 (0, 0))) := ⟨tb_⟩
  have n5_ : Aside0 (Below w.heap.size w (((w23.setCell ⟨gb290, 0, none⟩ (.string ((rd_T36 x289000_1 x15_1).f0))).setCell ⟨gb290, 1, none⟩ (.bool ((rd_T36 x289000_1 x15_1).f1))).setCell ⟨gb290, 2, none⟩ (.string ((rd_T36 x289000_1 x15_1).f2)))) := ⟨th_⟩
  (try clear HO_289000)
  (try clear BK283)
  (try clear BK284)
  (try clear BK288)
  (try clear BK290)
  (try clear HB)
  generalize (((w23.setCell ⟨gb290, 0, none⟩ (.string ((rd_T36 x289000_1 x15_1).f0))).setCell ⟨gb290, 1, none⟩ (.bool ((rd_T36 x289000_1 x15_1).f1))).setCell ⟨gb290, 2, none⟩ (.string ((rd_T36 x289000_1 x15_1).f2))) = w28 at n0_ n1_ n2_ n3_ n4_ n5_ ⊢
  have HO_289000 := n0_
  have BK283 := n1_
  have BK284 := n2_
  have BK288 := n3_
  have BK290 := n4_
  have HB := n5_
  clear n0_ n1_ n2_ n3_ n4_ n5_
  have z_ := p_ (Kd.R_drew HO_289000.out) <| dw4_ BK283 BK284 BK288 BK290 HB
  clear HO_289000 BK283 BK284 BK288 BK290 HB
  obtain ⟨HO_289000, BK283, BK284, BK288, BK290, HB⟩ := z_
  have p22 : 0 ≤ (x15_1 : Int) := of_decide_eq_true tq_1
  have q22 : (x15_1 : Int) < ((x289000_1.length : Int) : Int) := of_decide_eq_true tq_1
  obtain ⟨go22, co22, eo22, gb22, gl22, cl22, HG22⟩ := Kd.R_form HO_289000.out (by omega)
  (first | cases eo22 | (injection eo22 with ea_ en_ ec_; (first | subst ea_ | (injection ea_ with ea_; subst ea_)); subst ec_; clear en_))
  have GB22 := Aside0.mk gb22
  have GG22 := Aside0.mk HG22
  clear gb22 gl22 HG22
  (first | simp only [add_plain] at hx289_0 | skip)
  (first | simp only [add_plain] at hx289_1 | skip)
  (first | simp only [add_plain] at hx289_2 | skip)
  obtain ⟨ce22, hcl22, hM22, hcc22, hfr22⟩ := Kd.R_elem HO_289000.out z36 (x15_1 : Int) p22 q22
  obtain rfl := k36_openM hM22
  have hx22_0 : World.cell? _ ⟨go22, (x15_1 : Int).toNat * 3, none⟩ = some (.string ((rd_T36 x289000_1 x15_1).f0)) := hcc22 0 _ rfl
  have hx22_1 : World.cell? _ ⟨go22, (x15_1 : Int).toNat * 3 + 1, none⟩ = some (.bool ((rd_T36 x289000_1 x15_1).f1)) := hcc22 1 _ rfl
  have hx22_2 : World.cell? _ ⟨go22, (x15_1 : Int).toNat * 3 + 2, none⟩ = some (.string ((rd_T36 x289000_1 x15_1).f2)) := hcc22 2 _ rfl
  have hf22_0 : World.frozen? _ ⟨go22, (x15_1 : Int).toNat * 3, none⟩ = false := hfr22 0
  have hf22_1 : World.frozen? _ ⟨go22, (x15_1 : Int).toNat * 3 + 1, none⟩ = false := hfr22 1
  have hf22_2 : World.frozen? _ ⟨go22, (x15_1 : Int).toNat * 3 + 2, none⟩ = false := hfr22 2
  clear hcl22 hcc22 hfr22 hM22
  replace p22 := eq_true p22
  replace q22 := eq_true q22
  obtain ⟨ce30, hcl30, hM30, hcc30, hfr30⟩ := Kd.R_elem HO_289000.out z36 (x15_1 : Int) (of_decide_eq_true tq_1) (by have h_ : (x15_1 : Int) < ((x289000_1.length : Int) : Int) := of_decide_eq_true tq_1; first | exact h_ | (have e_ := (Kd.R_reads' HO_289000.out).1; omega) | simpa using h_)
  obtain rfl := k36_openM hM30
  have HP30 := (Kd.R_seg HO_289000.out (x15_1 : Int) (of_decide_eq_true tq_1) (by have h_ : (x15_1 : Int) < ((x289000_1.length : Int) : Int) := of_decide_eq_true tq_1; first | exact h_ | (have e_ := (Kd.R_reads' HO_289000.out).1; omega) | simpa using h_) (seg := [.string y292]) (j := 0) hcl30 hcc30 (show 1 ≤ 3 from by decide) (x' := (⟨y292, (rd_T36 x289000_1 x15_1).f1, (rd_T36 x289000_1 x15_1).f2⟩ : S36)) (k36_mkM _ _ _ (⟨y292, (rd_T36 x289000_1 x15_1).f1, (rd_T36 x289000_1 x15_1).f2⟩ : S36) ) (fun _ hk => hk)).1
  rw [← Ny293.out] at HP30
  have HQ30 := Aside0.mk HP30
  clear hcl30 hcc30 hfr30 hM30 HP30
  refine start_ (n := 13) (S := fun w' => w'.cell? ⟨gb288, 0, none⟩ = some (.slice (some ⟨go22, 0, none⟩) x289000_1.length co11) ∧ w'.cell? ⟨gb290, 0, none⟩ = some (.string ((rd_T36 x289000_1 x15_1).f0)) ∧ w'.cell? ⟨gb290, 1, none⟩ = some (.bool ((rd_T36 x289000_1 x15_1).f1)) ∧ w'.cell? ⟨gb290, 2, none⟩ = some (.string ((rd_T36 x289000_1 x15_1).f2))) (ds := [12]) bq_67 (by kernel_rfl) rfl rfl ⟨(blk_cell BK288.out 0).trans rfl, bk3_ BK290.out⟩ (fun hHeld => ?_); refine with_tabW impl_MovedItems.tab6 impl_MovedItems.bits6 (fun HT_ HW_ => ?_)
  generalize w28.drew = w29 at HO_289000 BK283 BK284 BK288 BK290 HB GG22 HQ30 hf22_0 hf22_1 hf22_2 hx22_0 hx22_1 hx22_2 hx289_0 hx289_1 hx289_2 hHeld ⊢
  refine yr_ 0 30 bq_68 HT_ ?_
  refine yr_ 2 32 bq_69 HT_ ?_
  refine yr_ 3 33 bq_70 HT_ ?_
  refine yr_ 4 34 bq_71 HT_ ?_
  refine yr_ 6 36 bq_72 HT_ ?_
  refine yr_ 7 37 bq_73 HT_ ?_
  refine tr_ 1 31 bq_74 HT_ HW_ hHeld ?_
  refine tr_ 5 35 bq_75 HT_ HW_ hHeld ?_
  refine yr_ 8 38 bq_76 HT_ ?_
  refine yr_ 9 39 bq_77 HT_ ?_
  refine yr_ 10 40 bq_78 HT_ ?_
  refine yr_ 11 41 bq_79 HT_ ?_
  refine last_ (i := 12) (N := none) bq_80 rfl rfl (one_of HT_.out (by kernel_rfl)) (by decide) (fun K hK => ?_)
  refine skip_ (w1 := ?_) (by rfl) rfl ?_ ?_
  rotate_left
  ·go_simp
   rfl
  refine hK.out _ _ ?_
  clear hK K
  refine done_ (done_of HT_.out (by kernel_rfl)) ?_
  try go_wp2
  (try simp only [← hl289000_1])
  go_roundg k1
  case measure => have := HK1.out; omega
  case rel => exact ⟨(wrap64 (x15_1 + 1)), (y293), tq_4, H', ⟨tq_22⟩, ⟨(by (try simp only [hl289000_1]); (with_reducible repeat (first | apply Kd.R_alloc | apply Kd.R_drewN | apply Kd.R_drew)); exact Kd.R_mono HQ30.out (fun _ hk => trivial))⟩, ⟨tq_21⟩, ⟨tq_20⟩, ⟨tq_19⟩, ⟨(by repeat (first | (with_reducible first | exact HB.out | apply below_alloc | apply pw_below_drewN | apply below_drew1 | refine below_set ?_ GB22.out | refine below_set ?_ GE283.out | refine below_set ?_ GE284.out | refine below_set ?_ GE288.out | refine below_set ?_ GE290.out) | exact HB.out))⟩⟩
 rw [if_neg c18] at H
 have c18b0 := beq_eq_false_iff_ne.mpr c18
 have c18b1 := bne_iff_ne.mpr c18
 obtain ⟨t294, A31, H⟩ := bd_ H
 have HC32 := Aside0.mk H
 clear H
 have p289 : 0 ≤ (x15_1 : Int) := of_decide_eq_true tq_1
 have q289 : x15_1 < (x289000_1.length : Int) := of_decide_eq_true tq_1
 obtain ⟨ad289, e289, hx289_0, hx289_1, hx289_2⟩ := at_T36 (Kd.R_reads' HO_289000.out).2.2 x15_1 p289 q289
 cases e289
 replace p289 := eq_true p289
 replace q289 := eq_true q289
 go_upto_if 29 with (first | ((with_reducible refine gate_dst (N := 9) rfl ?_); refine be_ 9 (cs := #[.string (⟨#[]⟩ : ByteArray), .bool false, .string (⟨#[]⟩ : ByteArray)]) 36 ?_; intro gb290 hg w33 hbox hb; have z_ := p_ (Kd.R_below (Kd.R_elderB (raR_ HO_289000) gb290 (Nat.le_of_eq hg.symm)) hb) <| bx3_ (kb_ BK283) (kb_ BK284) (kb_ BK288) th_ hb hbox hg; clear HO_289000 BK283 BK284 BK288 HB; obtain ⟨HO_289000, BK283, BK284, BK288, HB, BK290, GW290, GE290, NB283_290, NB290_283, NB284_290, NB290_284, NB288_290, NB290_288⟩ := z_; clear hb hbox hg; obtain ⟨n290_283, n283_290, n290_284, n284_290, n290_288, n288_290⟩ := an6_ NB290_283 NB283_290 NB290_284 NB284_290 NB290_288 NB288_290; obtain ⟨hcz37_0, hcz37_1, hcz37_2⟩ := bk3_ BK290.out; obtain ⟨hfz37_0, hfz37_1, hfz37_2⟩ := bf3_ BK290.out) | (go_at_call 15; (with_reducible refine (impl_IsUnder.calls k1 ((rd_T36 x289000_1 x15_1).f0) a1 t294 _ ?side1 A31.out).mono ?_); (case side1 => exact DoorOk.below HD.out th_); rintro e w38 ⟨rfl, hb⟩; have z_ := p_ (Kd.R_below (by (with_reducible repeat (first | apply Kd.R_alloc | apply Kd.R_drewN | apply Kd.R_drew)); exact (Kd.R_mono (rR_ (rR_ (rR_ (Kd.R_mono HO_289000.out (fun k_ hk => (⟨hk, hk.2⟩ : _ ∧ k_ ≠ gb290)))))) (fun _ h_ => h_.1))) hb) <| p_ (blk_below (g := gb283) (o := .cells #[.slice A0_0 l0_0.length c0_0] 28 (0, 0)) (by (with_reducible repeat (first | refine blk_drewN ?_ _ | refine blk_drew ?_ | refine blk_alloc ?_ _)); refine blk_far ?_ NB283_290.out _; (with_reducible repeat (first | refine blk_drewN ?_ _ | refine blk_drew ?_ | refine blk_alloc ?_ _)); refine blk_far ?_ NB283_290.out _; (with_reducible repeat (first | refine blk_drewN ?_ _ | refine blk_drew ?_ | refine blk_alloc ?_ _)); refine blk_far ?_ NB283_290.out _; (with_reducible repeat (first | refine blk_drewN ?_ _ | refine blk_drew ?_ | refine blk_alloc ?_ _)); exact BK283.out) hb) <| p_ (blk_below (g := gb284) (o := .cells #[.slice none 0 0] 28 (0, 0)) (by (with_reducible repeat (first | refine blk_drewN ?_ _ | refine blk_drew ?_ | refine blk_alloc ?_ _)); refine blk_far ?_ NB284_290.out _; (with_reducible repeat (first | refine blk_drewN ?_ _ | refine blk_drew ?_ | refine blk_alloc ?_ _)); refine blk_far ?_ NB284_290.out _; (with_reducible repeat (first | refine blk_drewN ?_ _ | refine blk_drew ?_ | refine blk_alloc ?_ _)); refine blk_far ?_ NB284_290.out _; (with_reducible repeat (first | refine blk_drewN ?_ _ | refine blk_drew ?_ | refine blk_alloc ?_ _)); exact BK284.out) hb) <| p_ (blk_below (g := gb288) (o := .cells #[.slice (some ad289) x289000_1.length co11] 28 (0, 0)) (by (with_reducible repeat (first | refine blk_drewN ?_ _ | refine blk_drew ?_ | refine blk_alloc ?_ _)); refine blk_far ?_ NB288_290.out _; (with_reducible repeat (first | refine blk_drewN ?_ _ | refine blk_drew ?_ | refine blk_alloc ?_ _)); refine blk_far ?_ NB288_290.out _; (with_reducible repeat (first | refine blk_drewN ?_ _ | refine blk_drew ?_ | refine blk_alloc ?_ _)); refine blk_far ?_ NB288_290.out _; (with_reducible repeat (first | refine blk_drewN ?_ _ | refine blk_drew ?_ | refine blk_alloc ?_ _)); exact BK288.out) hb) <| p_ (blk_below (g := gb290) (o := .cells #[.string ((rd_T36 x289000_1 x15_1).f0), .bool ((rd_T36 x289000_1 x15_1).f1), .string ((rd_T36 x289000_1 x15_1).f2)] 36 (0, 0)) (by (with_reducible repeat (first | refine blk_drewN ?_ _ | refine blk_drew ?_ | refine blk_alloc ?_ _)); refine blk_put (cs := #[.string ((rd_T36 x289000_1 x15_1).f0), .bool ((rd_T36 x289000_1 x15_1).f1), .string (⟨#[]⟩ : ByteArray)]) ?_ 2 _ rfl; (with_reducible repeat (first | refine blk_drewN ?_ _ | refine blk_drew ?_ | refine blk_alloc ?_ _)); refine blk_put (cs := #[.string ((rd_T36 x289000_1 x15_1).f0), .bool false, .string (⟨#[]⟩ : ByteArray)]) ?_ 1 _ rfl; (with_reducible repeat (first | refine blk_drewN ?_ _ | refine blk_drew ?_ | refine blk_alloc ?_ _)); refine blk_put (cs := #[.string (⟨#[]⟩ : ByteArray), .bool false, .string (⟨#[]⟩ : ByteArray)]) ?_ 0 _ rfl; (with_reducible repeat (first | refine blk_drewN ?_ _ | refine blk_drew ?_ | refine blk_alloc ?_ _)); exact BK290.out) hb) <| a_ (below_step th_ hb); clear HO_289000 BK283 BK284 BK288 BK290 HB; obtain ⟨HO_289000, BK283, BK284, BK288, BK290, HB⟩ := z_; (try clear hb); (try clear hk)))
 (try simp only [Act.put, List.setIfInBounds_toArray, List.set_cons_zero, List.set_cons_succ])
 (try clear n283_284 n283_288 n283_290 n284_283 n284_288 n284_290 n288_283 n288_284 n288_290 n290_283 n290_284 n290_288)
 (try clear hcz37_0 hcz37_1 hcz37_2)
 (try clear hfz37_0 hfz37_1 hfz37_2)
 have H := HC32.out
 clear HC32
 by_cases c39 : t294 = true
 rotate_left
 ·replace c39 := Bool.eq_false_iff.mpr c39
  subst c39
  rw [if_neg nf_] at H
  have H' := Aside0.mk H
  clear H
  go_wp2
  (try simp only [← hl289000_1])
  go_roundg k1
  case measure => have := HK1.out; omega
  case rel => exact ⟨(wrap64 (x15_1 + 1)), (x289000_1), tq_4, H', ⟨tq_22⟩, ⟨(by (try simp only [hl289000_1]); (with_reducible repeat (first | apply Kd.R_alloc | apply Kd.R_drewN | apply Kd.R_drew)); exact Kd.R_mono HO_289000.out (fun _ hk => trivial))⟩, ⟨(by (try simp only [hl289000_1]); (with_reducible repeat (first | refine blk_drewN ?_ _ | refine blk_drew ?_ | refine blk_alloc ?_ _)); exact BK283.out)⟩, ⟨(by (try simp only [hl289000_1]); (with_reducible repeat (first | refine blk_drewN ?_ _ | refine blk_drew ?_ | refine blk_alloc ?_ _)); exact BK284.out)⟩, ⟨(by (try simp only [hl289000_1]); (with_reducible repeat (first | refine blk_drewN ?_ _ | refine blk_drew ?_ | refine blk_alloc ?_ _)); exact BK288.out)⟩, ⟨th_⟩⟩
 subst c39
 rw [if_pos rfl] at H
 obtain ⟨c40, H⟩ := fc_ H
 have c40b0 := eq_true c40
 have c40b1 := decide_eq_true c40
 clear c40
 obtain ⟨c41, H⟩ := fc_ H
 have c41b0 := eq_true c41
 have c41b1 := decide_eq_true c41
 clear c41
 obtain ⟨y295, hy295⟩ : ∃ y_ : ByteArray, (((rd_T36 x289000_1 x15_1).f0).extract ((a1.size : Int) : Int).toNat ((rd_T36 x289000_1 x15_1).f0).size) = y_ := ⟨_, rfl⟩
 replace H : (if a2.size + y295.size ≤ 9223372036854775807 then ((some (a2 ++ y295 : ByteArray)).bind fun y296 => (impl_MovedItems.l0 k1 a1 a2 (t285.length : Int) (wrap64 (x15_1 + 1)) (x289000_1.set (x15_1 : Int).toNat (⟨y296, (rd_T36 x289000_1 x15_1).f1, (rd_T36 x289000_1 x15_1).f2⟩ : S36)))) else (none)) = some r := by rw [← hy295]; exact (Option.bind_some _ _).symm.trans H
 (try simp only [Int.toNat_natCast] at hy295)
 obtain ⟨c42, H⟩ := fc_ H
 have c42b0 := eq_true c42
 have c42b1 := decide_eq_true c42
 try have c42b2 : (9223372036854775807 < a2.size + y295.size) = False := eq_false (Nat.not_lt.2 c42)
 clear c42
 obtain ⟨y296, hy296⟩ : ∃ y_ : ByteArray, (a2 ++ y295) = y_ := ⟨_, rfl⟩
 replace H : (impl_MovedItems.l0 k1 a1 a2 (t285.length : Int) (wrap64 (x15_1 + 1)) (x289000_1.set (x15_1 : Int).toNat (⟨y296, (rd_T36 x289000_1 x15_1).f1, (rd_T36 x289000_1 x15_1).f2⟩ : S36))) = some r := by rw [← hy296]; exact (Option.bind_some _ _).symm.trans H
 (try simp only [Int.toNat_natCast] at hy296)
 obtain ⟨y297, hy297⟩ : ∃ y_ : List (S36), y_ = (x289000_1.set (x15_1 : Int).toNat (⟨y296, (rd_T36 x289000_1 x15_1).f1, (rd_T36 x289000_1 x15_1).f2⟩ : S36)) := ⟨_, rfl⟩
 replace H : (impl_MovedItems.l0 k1 a1 a2 (t285.length : Int) (wrap64 (x15_1 + 1)) y297) = some r := by first | (rw [hy297]; with_reducible exact H) | (have H2_ := (Option.bind_some _ _).symm.trans H; rw [hy297]; with_reducible exact H2_) | (have H2_ := (Option.bind_some _ _).symm.trans H; with_reducible exact H2_) | with_reducible exact H | (rw [hy297]; exact H) | exact H
 have Ny297 := Aside0.mk hy297
 clear hy297
 have H' := Aside0.mk H
 clear H
 try go_wp2
 have z_ := p_ (Kd.R_drew HO_289000.out) <| dw4_ BK283 BK284 BK288 BK290 HB
 clear HO_289000 BK283 BK284 BK288 BK290 HB
 obtain ⟨HO_289000, BK283, BK284, BK288, BK290, HB⟩ := z_
 have p43 : 0 ≤ (x15_1 : Int) := of_decide_eq_true tq_1
 have q43 : (x15_1 : Int) < ((x289000_1.length : Int) : Int) := of_decide_eq_true tq_1
 obtain ⟨go43, co43, eo43, gb43, gl43, cl43, HG43⟩ := Kd.R_form HO_289000.out (by omega)
 (first | cases eo43 | (injection eo43 with ea_ en_ ec_; (first | subst ea_ | (injection ea_ with ea_; subst ea_)); subst ec_; clear en_))
 have GB43 := Aside0.mk gb43
 have GG43 := Aside0.mk HG43
 clear gb43 gl43 HG43
 (first | simp only [add_plain] at hx289_0 | skip)
 (first | simp only [add_plain] at hx289_1 | skip)
 (first | simp only [add_plain] at hx289_2 | skip)
 obtain ⟨ce43, hcl43, hM43, hcc43, hfr43⟩ := Kd.R_elem HO_289000.out z36 (x15_1 : Int) p43 q43
 obtain rfl := k36_openM hM43
 have hx43_0 : World.cell? _ ⟨go43, (x15_1 : Int).toNat * 3, none⟩ = some (.string ((rd_T36 x289000_1 x15_1).f0)) := hcc43 0 _ rfl
 have hx43_1 : World.cell? _ ⟨go43, (x15_1 : Int).toNat * 3 + 1, none⟩ = some (.bool ((rd_T36 x289000_1 x15_1).f1)) := hcc43 1 _ rfl
 have hx43_2 : World.cell? _ ⟨go43, (x15_1 : Int).toNat * 3 + 2, none⟩ = some (.string ((rd_T36 x289000_1 x15_1).f2)) := hcc43 2 _ rfl
 have hf43_0 : World.frozen? _ ⟨go43, (x15_1 : Int).toNat * 3, none⟩ = false := hfr43 0
 have hf43_1 : World.frozen? _ ⟨go43, (x15_1 : Int).toNat * 3 + 1, none⟩ = false := hfr43 1
 have hf43_2 : World.frozen? _ ⟨go43, (x15_1 : Int).toNat * 3 + 2, none⟩ = false := hfr43 2
 clear hcl43 hcc43 hfr43 hM43
 replace p43 := eq_true p43
 replace q43 := eq_true q43
 obtain ⟨ce45, hcl45, hM45, hcc45, hfr45⟩ := Kd.R_elem HO_289000.out z36 (x15_1 : Int) (of_decide_eq_true tq_1) (by have h_ : (x15_1 : Int) < ((x289000_1.length : Int) : Int) := of_decide_eq_true tq_1; first | exact h_ | (have e_ := (Kd.R_reads' HO_289000.out).1; omega) | simpa using h_)
 obtain rfl := k36_openM hM45
 have HP45 := (Kd.R_seg HO_289000.out (x15_1 : Int) (of_decide_eq_true tq_1) (by have h_ : (x15_1 : Int) < ((x289000_1.length : Int) : Int) := of_decide_eq_true tq_1; first | exact h_ | (have e_ := (Kd.R_reads' HO_289000.out).1; omega) | simpa using h_) (seg := [.string y296]) (j := 0) hcl45 hcc45 (show 1 ≤ 3 from by decide) (x' := (⟨y296, (rd_T36 x289000_1 x15_1).f1, (rd_T36 x289000_1 x15_1).f2⟩ : S36)) (k36_mkM _ _ _ (⟨y296, (rd_T36 x289000_1 x15_1).f1, (rd_T36 x289000_1 x15_1).f2⟩ : S36) ) (fun _ hk => hk)).1
 rw [← Ny297.out] at HP45
 have HQ45 := Aside0.mk HP45
 clear hcl45 hcc45 hfr45 hM45 HP45
 refine start_ (n := 13) (S := fun w' => w'.cell? ⟨gb288, 0, none⟩ = some (.slice (some ⟨go43, 0, none⟩) x289000_1.length co11) ∧ w'.cell? ⟨gb290, 0, none⟩ = some (.string ((rd_T36 x289000_1 x15_1).f0)) ∧ w'.cell? ⟨gb290, 1, none⟩ = some (.bool ((rd_T36 x289000_1 x15_1).f1)) ∧ w'.cell? ⟨gb290, 2, none⟩ = some (.string ((rd_T36 x289000_1 x15_1).f2))) (ds := [12]) bq_67 (by kernel_rfl) rfl rfl ⟨(blk_cell BK288.out 0).trans rfl, bk3_ BK290.out⟩ (fun hHeld => ?_); refine with_tabW impl_MovedItems.tab6 impl_MovedItems.bits6 (fun HT_ HW_ => ?_)
 generalize w38.drew = w44 at HO_289000 BK283 BK284 BK288 BK290 HB GG43 HQ45 hf43_0 hf43_1 hf43_2 hx289_0 hx289_1 hx289_2 hx43_0 hx43_1 hx43_2 hHeld ⊢
 refine yr_ 0 30 bq_68 HT_ ?_
 refine yr_ 2 32 bq_69 HT_ ?_
 refine yr_ 3 33 bq_70 HT_ ?_
 refine yr_ 4 34 bq_71 HT_ ?_
 refine yr_ 6 36 bq_72 HT_ ?_
 refine yr_ 7 37 bq_73 HT_ ?_
 refine tr_ 1 31 bq_74 HT_ HW_ hHeld ?_
 refine tr_ 5 35 bq_75 HT_ HW_ hHeld ?_
 refine yr_ 8 38 bq_76 HT_ ?_
 refine yr_ 9 39 bq_77 HT_ ?_
 refine yr_ 10 40 bq_78 HT_ ?_
 refine yr_ 11 41 bq_79 HT_ ?_
 refine last_ (i := 12) (N := none) bq_80 rfl rfl (one_of HT_.out (by kernel_rfl)) (by decide) (fun K hK => ?_)
 refine skip_ (w1 := ?_) (by rfl) rfl ?_ ?_
 rotate_left
 ·go_simp
  rfl
 refine hK.out _ _ ?_
 clear hK K
 refine done_ (done_of HT_.out (by kernel_rfl)) ?_
 try go_wp2
 (try simp only [← hl289000_1])
 go_roundg k1
 case measure => have := HK1.out; omega
 case rel => exact ⟨(wrap64 (x15_1 + 1)), (y297), tq_4, H', ⟨tq_22⟩, ⟨(by (try simp only [hl289000_1]); (with_reducible repeat (first | apply Kd.R_alloc | apply Kd.R_drewN | apply Kd.R_drew)); exact Kd.R_mono HQ45.out (fun _ hk => trivial))⟩, ⟨tq_21⟩, ⟨tq_20⟩, ⟨tq_19⟩, ⟨(by repeat (first | (with_reducible first | exact HB.out | apply below_alloc | apply pw_below_drewN | apply below_drew1 | refine below_set ?_ GB43.out | refine below_set ?_ GE283.out | refine below_set ?_ GE284.out | refine below_set ?_ GE288.out | refine below_set ?_ GE290.out) | exact HB.out))⟩⟩

end Go.Proofs.YtmddplifammohaaDoor.PFnExactMovedItems
