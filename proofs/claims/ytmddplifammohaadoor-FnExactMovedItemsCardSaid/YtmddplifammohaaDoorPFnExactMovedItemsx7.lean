/- Contracts of Go functions, written by a program of ours over the print of the kit: each says that the call returns what the Lean function beside it computes. Conditions: as each theorem states them. -/
import Derived.Test.YtmddplifammohaaDoorPkFnExactMovedItems
import Derived.Test.YtmddplifammohaaDoorPFnExactMovedItemsx0
namespace Go.Proofs.YtmddplifammohaaDoor.PFnExactMovedItems
open Go.RowKit Go.Proofs.YtmddplifammohaaDoorW.PrintWords Go.Proofs.YtmddplifammohaaDoorW.PrintLast Go.Proofs.YtmddplifammohaaDoorW.PrintMore
attribute [local go_sem] max2_int min2_int max_two min_two max_three min_three max_four min_four   -- for this text's walks alone
set_option linter.unusedVariables false
set_option linter.unusedSimpArgs false

/-! ### slices_swapRangeCmpFunc_Item: function 55 -/
def slices_swapRangeCmpFunc_Item.l0 : Nat → List (S36) → Int → Int → Int → Int → Option ((List (S36)))
 | 0, _, _, _, _, _ => none
 | k + 1, x0, x1, x2, x3, x10 => if x10 < x3 then (if 0 ≤ (wrap64 (x2 + x10)) then (if (wrap64 (x2 + x10)) < (x0.length : Int) then (if 0 ≤ (wrap64 (x1 + x10)) then (if (wrap64 (x1 + x10)) < (x0.length : Int) then (slices_swapRangeCmpFunc_Item.l0 k ((x0.set ((wrap64 (x1 + x10)) : Int).toNat (⟨(rd_T36 x0 (wrap64 (x2 + x10))).f0, (rd_T36 x0 (wrap64 (x2 + x10))).f1, (rd_T36 x0 (wrap64 (x2 + x10))).f2⟩ : S36)).set ((wrap64 (x2 + x10)) : Int).toNat (⟨(rd_T36 x0 (wrap64 (x1 + x10))).f0, (rd_T36 x0 (wrap64 (x1 + x10))).f1, (rd_T36 x0 (wrap64 (x1 + x10))).f2⟩ : S36)) x1 x2 x3 (wrap64 (x10 + 1))) else (none)) else (none)) else (none)) else (none)) else (some x0)
def slices_swapRangeCmpFunc_Item.f (k : Nat) (l0 : List (S36)) (a1 : Int) (a2 : Int) (a3 : Int) (a4 : Unit) : Option ((List (S36))) := slices_swapRangeCmpFunc_Item.l0 k l0 a1 a2 a3 0
theorem slices_swapRangeCmpFunc_Item.mono_l : ∀ k, (∀ y0 y1 y2 y3 y4, LeO (slices_swapRangeCmpFunc_Item.l0 k y0 y1 y2 y3 y4) (slices_swapRangeCmpFunc_Item.l0 (k + 1) y0 y1 y2 y3 y4))
 | 0 => fun _ _ _ _ _ r h => by simp [slices_swapRangeCmpFunc_Item.l0] at h
 | k + 1 => by
  have ih0 := slices_swapRangeCmpFunc_Item.mono_l k
  ·intro y0 y1 y2 y3 y4
   unfold slices_swapRangeCmpFunc_Item.l0
   exact mo_0
theorem slices_swapRangeCmpFunc_Item.mono : ∀ a0 a1 a2 a3 a4 k, LeO (slices_swapRangeCmpFunc_Item.f k a0 a1 a2 a3 a4) (slices_swapRangeCmpFunc_Item.f (k + 1) a0 a1 a2 a3 a4) := by
 intro a0 a1 a2 a3 a4 k
 have ih0 := slices_swapRangeCmpFunc_Item.mono_l k
 unfold slices_swapRangeCmpFunc_Item.f
 repeat' first
   | (with_reducible exact ih0 ..)
   | (with_reducible exact LeO.refl _)
   | (with_reducible exact LeO.none _)
   | (with_reducible refine LeO.ite ?_ ?_)
   | (with_reducible refine LeO.bind ?_ (fun _ => ?_))
   | exact ih0 ..
   | exact LeO.none _
   | refine LeO.ite ?_ ?_
   | refine LeO.bind ?_ (fun _ => ?_)
def slices_swapRangeCmpFunc_Item.T3 : Bool × List (List Nat × List Nat) := (true, [([], []), ([], []), ([], []), ([1, 2], [1, 2]), ([], []), ([], []), ([], []), ([5, 6], [5, 6]), ([], []), ([], []), ([], []), ([9, 10], [9, 10]), ([8, 11], [8, 11]), ([12], [12]), ([], []), ([], []), ([], []), ([15, 16], [15, 16]), ([14, 17], [14, 17]), ([18], [18]), ([0, 3, 0, 1, 2, 3, 8, 9, 10, 11, 12, 13, 19], [0, 3]), ([20, 13, 0, 1, 2, 3, 8, 9, 10, 11, 12, 13, 19], [13, 20]), ([4, 7, 0, 1, 2, 3, 4, 5, 6, 7, 8, 9, 10, 11, 12, 13, 14, 15, 16, 17, 18, 19, 20, 21], [4, 7]), ([22, 19, 21, 0, 1, 2, 3, 4, 5, 6, 7, 8, 9, 10, 11, 12, 13, 14, 15, 16, 17, 18, 19, 20, 21], [19, 22])])
def slices_swapRangeCmpFunc_Item.B3 : List Nat := [0, 0, 0, 6, 0, 0, 0, 96, 0, 0, 0, 1536, 3840, 7936, 0, 0, 0, 98304, 245760, 507904, 1048335, 2096911, 4194303, 8388607]
theorem slices_swapRangeCmpFunc_Item.tab3 : rtab .any (opsOf Tryd.f55 3) = slices_swapRangeCmpFunc_Item.T3 := by kernel_rfl
theorem slices_swapRangeCmpFunc_Item.bits3 : waitsOk slices_swapRangeCmpFunc_Item.T3.2 slices_swapRangeCmpFunc_Item.B3 = true := by kernel_rfl
set_option maxHeartbeats 8000000 in
set_option maxRecDepth 100000 in
theorem slices_swapRangeCmpFunc_Item.calls (k : Nat) (P0_ : Nat → Prop) (u9000_ : Value) (l0 : List (S36)) (a1 : Int) (a2 : Int) (a3 : Int) (a4 : Unit) (r : List (S36)) (w0 w : World) (hB : Below w0.heap.size w0 w) (ho0 : Kd.R k36 36 w w0.heap.size P0_ u9000_ l0) (h : slices_swapRangeCmpFunc_Item.f k l0 a1 a2 a3 a4 = some r) :
  Calls Tryd.prog 55 #[u9000_, .int .i64 a1, .int .i64 a2, .int .i64 a3, .func (.func 17) #[] #[]] w fun e w' => e = .returned (.tuple #[]) ∧ Kd.R k36 36 w' w0.heap.size (fun k_ => (P0_ k_ ∨ w.heap.size ≤ k_)) u9000_ r ∧ Below w0.heap.size w0 w' ∧ Kept w w' (fun k_ => P0_ k_) := by
 have hu36 := Tryd.underlying36
 have HO0 := Aside0.mk (show Kd.R k36 36 w w0.heap.size (fun k_ => (P0_ k_ ∨ w.heap.size ≤ k_)) u9000_ l0 from Kd.R_mono ho0 (fun k_ hk => (.inl hk)))
 have HK := Aside0.mk (Kept.refl w (fun k_ => P0_ k_))
 have HW0 := Aside0.mk hB.size
 have HB := Aside0.mk hB
 clear hB
 unfold slices_swapRangeCmpFunc_Item.f at h
 have H := h
 clear h
 have H' := Aside0.mk H
 clear H
 go_enter Tryd.func55, Tryd.ntmps55
 go_wp2
 go_loopg [10] k (fun kq v10 w' => ∃ (x0_1 : List (S36)) (x10_1 : Int), v10 = .int .i64 x10_1 ∧ Aside0 (slices_swapRangeCmpFunc_Item.l0 kq x0_1 a1 a2 a3 x10_1 = some r) ∧ Aside0 (kq ≤ k) ∧ Aside0 (Kd.R k36 36 w' w0.heap.size (fun k_ => (P0_ k_ ∨ w.heap.size ≤ k_)) u9000_ x0_1) ∧ Aside0 (Kept w w' (fun k_ => P0_ k_)) ∧ Aside0 (Below w0.heap.size w0 w'))
 case atStart => exact ⟨(l0), (0), tq_4, H', ⟨Nat.le_refl _⟩, ⟨(raR_ HO0)⟩, ⟨tq_0⟩, ⟨th_⟩⟩
 case round =>
 clear H'
 try clear p2; try clear c5
 obtain ⟨x0_1, x10_1, rfl, HA, HK1, HO_0, HK, HB⟩ := hrel
 cases gk with
 | zero => exact absurd HA.out (by simp [slices_swapRangeCmpFunc_Item.l0])
 | succ k1 =>
 have H := HA.out
 clear HA
 simp only [slices_swapRangeCmpFunc_Item.l0] at H
 by_cases c6 : x10_1 < a3
 rotate_left
 ·rw [if_neg c6] at H
  have c6b0 := decide_eq_false c6
  clear c6
  obtain rfl := Option.some.inj H
  go_wp2
  first | go_end0 | ((try simp only [Exit.inBlock, Exit.then]); refine bodyPost_ret (results_none rfl _ _ _) rfl ?_)
  exact ⟨tq_3, (raR_ HO_0), th_, tq_0⟩
 rw [if_pos c6] at H
 have c6b0 := decide_eq_true c6
 clear c6
 obtain ⟨ji7, hji7⟩ : ∃ j_ : Int, (wrap64 (a2 + x10_1)) = j_ := ⟨_, rfl⟩
 replace H : (if 0 ≤ (ji7) then (if (ji7) < (x0_1.length : Int) then (if 0 ≤ (wrap64 (a1 + x10_1)) then (if (wrap64 (a1 + x10_1)) < (x0_1.length : Int) then (slices_swapRangeCmpFunc_Item.l0 k1 ((x0_1.set ((wrap64 (a1 + x10_1)) : Int).toNat (⟨(rd_T36 x0_1 (ji7)).f0, (rd_T36 x0_1 (ji7)).f1, (rd_T36 x0_1 (ji7)).f2⟩ : S36)).set ((ji7) : Int).toNat (⟨(rd_T36 x0_1 (wrap64 (a1 + x10_1))).f0, (rd_T36 x0_1 (wrap64 (a1 + x10_1))).f1, (rd_T36 x0_1 (wrap64 (a1 + x10_1))).f2⟩ : S36)) a1 a2 a3 (wrap64 (x10_1 + 1))) else (none)) else (none)) else (none)) else (none)) = some r := by first | (rw [hji7] at H; exact H) | (simp only [hji7] at H ⊢; exact H)
 have hji7w : (IntKind.i64.wrap (a2 + x10_1)) = ji7 := (i64_w _).trans hji7
 obtain ⟨c8, H⟩ := fc_ H
 have c8b0 := decide_eq_true c8
 clear c8
 obtain ⟨c9, H⟩ := fc_ H
 have c9b0 := decide_eq_true c9
 clear c9
 obtain ⟨ji10, hji10⟩ : ∃ j_ : Int, (wrap64 (a1 + x10_1)) = j_ := ⟨_, rfl⟩
 replace H : (if 0 ≤ (ji10) then (if (ji10) < (x0_1.length : Int) then (slices_swapRangeCmpFunc_Item.l0 k1 ((x0_1.set ((ji10) : Int).toNat (⟨(rd_T36 x0_1 (ji7)).f0, (rd_T36 x0_1 (ji7)).f1, (rd_T36 x0_1 (ji7)).f2⟩ : S36)).set ((ji7) : Int).toNat (⟨(rd_T36 x0_1 (ji10)).f0, (rd_T36 x0_1 (ji10)).f1, (rd_T36 x0_1 (ji10)).f2⟩ : S36)) a1 a2 a3 (wrap64 (x10_1 + 1))) else (none)) else (none)) = some r := by first | (rw [hji10] at H; exact H) | (simp only [hji10] at H ⊢; exact H)
 have hji10w : (IntKind.i64.wrap (a1 + x10_1)) = ji10 := (i64_w _).trans hji10
 obtain ⟨c11, H⟩ := fc_ H
 have c11b0 := decide_eq_true c11
 clear c11
 obtain ⟨c12, H⟩ := fc_ H
 have c12b0 := decide_eq_true c12
 clear c12
 obtain ⟨y252, hy252⟩ : ∃ y_ : List (S36), y_ = (x0_1.set ((ji10) : Int).toNat (⟨(rd_T36 x0_1 (ji7)).f0, (rd_T36 x0_1 (ji7)).f1, (rd_T36 x0_1 (ji7)).f2⟩ : S36)) := ⟨_, rfl⟩
 replace H : (slices_swapRangeCmpFunc_Item.l0 k1 (y252.set ((ji7) : Int).toNat (⟨(rd_T36 x0_1 (ji10)).f0, (rd_T36 x0_1 (ji10)).f1, (rd_T36 x0_1 (ji10)).f2⟩ : S36)) a1 a2 a3 (wrap64 (x10_1 + 1))) = some r := by first | (rw [hy252]; with_reducible exact H) | (have H2_ := (Option.bind_some _ _).symm.trans H; rw [hy252]; with_reducible exact H2_) | (have H2_ := (Option.bind_some _ _).symm.trans H; with_reducible exact H2_) | with_reducible exact H | (rw [hy252]; exact H) | exact H
 have Ny252 := Aside0.mk hy252
 clear hy252
 obtain ⟨y253, hy253⟩ : ∃ y_ : List (S36), y_ = (y252.set ((ji7) : Int).toNat (⟨(rd_T36 x0_1 (ji10)).f0, (rd_T36 x0_1 (ji10)).f1, (rd_T36 x0_1 (ji10)).f2⟩ : S36)) := ⟨_, rfl⟩
 replace H : (slices_swapRangeCmpFunc_Item.l0 k1 y253 a1 a2 a3 (wrap64 (x10_1 + 1))) = some r := by first | (rw [hy253]; with_reducible exact H) | (have H2_ := (Option.bind_some _ _).symm.trans H; rw [hy253]; with_reducible exact H2_) | (have H2_ := (Option.bind_some _ _).symm.trans H; with_reducible exact H2_) | with_reducible exact H | (rw [hy253]; exact H) | exact H
 have Ny253 := Aside0.mk hy253
 clear hy253
 have H' := Aside0.mk H
 clear H
 try go_wp2
 have z_ := p_ (Kd.R_drew HO_0.out) <| p_ (Kept.drew HK.out) <| a_ (below_drew1 HB.out)
 clear HO_0 HK HB
 obtain ⟨HO_0, HK, HB⟩ := z_
 obtain ⟨Ao16, co16, eo16⟩ := Kd.R_slice HO_0.out
 (first | subst eo16 | (injection eo16 with f1_ f2_ f3_; have f4_ := f1_.symm; have f5_ := f3_.symm; clear f1_ f2_ f3_; subst f4_; subst f5_))
 have p250 : 0 ≤ ((ji7) : Int) := of_decide_eq_true tq_1
 have q250 : (ji7) < (x0_1.length : Int) := of_decide_eq_true tq_1
 obtain ⟨ad250, e250, hx250_0, hx250_1, hx250_2⟩ := at_T36 (Kd.R_reads' HO_0.out).2.2 (ji7) p250 q250
 cases e250
 replace p250 := eq_true p250
 replace q250 := eq_true q250
 have p251 : 0 ≤ ((ji10) : Int) := of_decide_eq_true tq_1
 have q251 : (ji10) < (x0_1.length : Int) := of_decide_eq_true tq_1
 obtain ⟨ad251, e251, hx251_0, hx251_1, hx251_2⟩ := at_T36 (Kd.R_reads' HO_0.out).2.2 (ji10) p251 q251
 obtain rfl : ad250 = ad251 := (by injection e251)
 replace p251 := eq_true p251
 replace q251 := eq_true q251
 have p13 : 0 ≤ ((ji10) : Int) := of_decide_eq_true tq_1
 have q13 : ((ji10) : Int) < ((x0_1.length : Int) : Int) := of_decide_eq_true tq_1
 obtain ⟨go13, co13, eo13, gb13, gl13, cl13, HG13⟩ := Kd.R_form HO_0.out (by omega)
 (first | cases eo13 | (injection eo13 with ea_ en_ ec_; (first | subst ea_ | (injection ea_ with ea_; subst ea_)); subst ec_; clear en_))
 have GB13 := Aside0.mk gb13
 have GG13 := Aside0.mk HG13
 clear gb13 gl13 HG13
 have HMgo13 := Aside0.mk (show (P0_ go13 ∨ w.heap.size ≤ go13) from (HO_0.out.1 _ rfl))
 (first | simp only [add_plain] at hx250_0 | skip)
 (first | simp only [add_plain] at hx250_1 | skip)
 (first | simp only [add_plain] at hx250_2 | skip)
 (first | simp only [add_plain] at hx251_0 | skip)
 (first | simp only [add_plain] at hx251_1 | skip)
 (first | simp only [add_plain] at hx251_2 | skip)
 obtain ⟨ce13, hcl13, hM13, hcc13, hfr13⟩ := Kd.R_elem HO_0.out z36 ((ji10) : Int) p13 q13
 obtain rfl := k36_openM hM13
 have hx13_0 : World.cell? _ ⟨go13, ((ji10) : Int).toNat * 3, none⟩ = some (.string ((rd_T36 x0_1 (ji10)).f0)) := hcc13 0 _ rfl
 have hx13_1 : World.cell? _ ⟨go13, ((ji10) : Int).toNat * 3 + 1, none⟩ = some (.bool ((rd_T36 x0_1 (ji10)).f1)) := hcc13 1 _ rfl
 have hx13_2 : World.cell? _ ⟨go13, ((ji10) : Int).toNat * 3 + 2, none⟩ = some (.string ((rd_T36 x0_1 (ji10)).f2)) := hcc13 2 _ rfl
 have hf13_0 : World.frozen? _ ⟨go13, ((ji10) : Int).toNat * 3, none⟩ = false := hfr13 0
 have hf13_1 : World.frozen? _ ⟨go13, ((ji10) : Int).toNat * 3 + 1, none⟩ = false := hfr13 1
 have hf13_2 : World.frozen? _ ⟨go13, ((ji10) : Int).toNat * 3 + 2, none⟩ = false := hfr13 2
 clear hcl13 hcc13 hfr13 hM13
 replace p13 := eq_true p13
 replace q13 := eq_true q13
 obtain ⟨ce17, hcl17, hM17, hcc17, hfr17⟩ := Kd.R_elem HO_0.out z36 ((ji10) : Int) (of_decide_eq_true tq_1) (by have h_ : ((ji10) : Int) < ((x0_1.length : Int) : Int) := of_decide_eq_true tq_1; first | exact h_ | (have e_ := (Kd.R_reads' HO_0.out).1; omega) | simpa using h_)
 obtain rfl := k36_openM hM17
 have HP17 := (Kd.R_seg HO_0.out ((ji10) : Int) (of_decide_eq_true tq_1) (by have h_ : ((ji10) : Int) < ((x0_1.length : Int) : Int) := of_decide_eq_true tq_1; first | exact h_ | (have e_ := (Kd.R_reads' HO_0.out).1; omega) | simpa using h_) (seg := [.string ((rd_T36 x0_1 (ji7)).f0), .bool ((rd_T36 x0_1 (ji7)).f1), .string ((rd_T36 x0_1 (ji7)).f2)]) (j := 0) hcl17 hcc17 (show 3 ≤ 3 from by decide) (x' := (⟨(rd_T36 x0_1 (ji7)).f0, (rd_T36 x0_1 (ji7)).f1, (rd_T36 x0_1 (ji7)).f2⟩ : S36)) (k36_mkM _ _ _ (⟨(rd_T36 x0_1 (ji7)).f0, (rd_T36 x0_1 (ji7)).f1, (rd_T36 x0_1 (ji7)).f2⟩ : S36) ) (fun _ hk => hk)).1
 rw [← Ny252.out] at HP17
 have HQ17 := Aside0.mk HP17
 clear hcl17 hcc17 hfr17 hM17 HP17
 have p14 : 0 ≤ ((ji7) : Int) := of_decide_eq_true tq_1
 have q14 : ((ji7) : Int) < ((x0_1.length : Int) : Int) := of_decide_eq_true tq_1
 obtain ⟨ce14, hcl14, hM14, hcc14, hfr14⟩ := Kd.R_elem HQ17.out z36 ((ji7) : Int) p14 q14
 obtain rfl := k36_openM hM14
 have hx14_0 : World.cell? _ ⟨go13, ((ji7) : Int).toNat * 3, none⟩ = some (.string ((rd_T36 y252 (ji7)).f0)) := hcc14 0 _ rfl
 have hx14_1 : World.cell? _ ⟨go13, ((ji7) : Int).toNat * 3 + 1, none⟩ = some (.bool ((rd_T36 y252 (ji7)).f1)) := hcc14 1 _ rfl
 have hx14_2 : World.cell? _ ⟨go13, ((ji7) : Int).toNat * 3 + 2, none⟩ = some (.string ((rd_T36 y252 (ji7)).f2)) := hcc14 2 _ rfl
 have hf14_0 : World.frozen? _ ⟨go13, ((ji7) : Int).toNat * 3, none⟩ = false := hfr14 0
 have hf14_1 : World.frozen? _ ⟨go13, ((ji7) : Int).toNat * 3 + 1, none⟩ = false := hfr14 1
 have hf14_2 : World.frozen? _ ⟨go13, ((ji7) : Int).toNat * 3 + 2, none⟩ = false := hfr14 2
 clear hcl14 hcc14 hfr14 hM14
 replace p14 := eq_true p14
 replace q14 := eq_true q14
 obtain ⟨ce18, hcl18, hM18, hcc18, hfr18⟩ := Kd.R_elem HQ17.out z36 ((ji7) : Int) (of_decide_eq_true tq_1) (by have h_ : ((ji7) : Int) < ((x0_1.length : Int) : Int) := of_decide_eq_true tq_1; first | exact h_ | (have e_ := (Kd.R_reads' HO_0.out).1; omega) | simpa using h_)
 obtain rfl := k36_openM hM18
 have HP18 := (Kd.R_seg HQ17.out ((ji7) : Int) (of_decide_eq_true tq_1) (by have h_ : ((ji7) : Int) < ((x0_1.length : Int) : Int) := of_decide_eq_true tq_1; first | exact h_ | (have e_ := (Kd.R_reads' HO_0.out).1; omega) | simpa using h_) (seg := [.string ((rd_T36 x0_1 (ji10)).f0), .bool ((rd_T36 x0_1 (ji10)).f1), .string ((rd_T36 x0_1 (ji10)).f2)]) (j := 0) hcl18 hcc18 (show 3 ≤ 3 from by decide) (x' := (⟨(rd_T36 x0_1 (ji10)).f0, (rd_T36 x0_1 (ji10)).f1, (rd_T36 x0_1 (ji10)).f2⟩ : S36)) (k36_mkM _ _ _ (⟨(rd_T36 x0_1 (ji10)).f0, (rd_T36 x0_1 (ji10)).f1, (rd_T36 x0_1 (ji10)).f2⟩ : S36) ) (fun _ hk => hk)).1
 rw [← Ny253.out] at HP18
 have HQ18 := Aside0.mk HP18
 clear hcl18 hcc18 hfr18 hM18 HP18
 refine start_ (n := 24) (S := fun w' => w'.cell? ⟨go13, ((ji7)).toNat * 3, none⟩ = some (.string ((rd_T36 x0_1 (ji7)).f0)) ∧ w'.cell? ⟨go13, ((ji7)).toNat * 3 + 1, none⟩ = some (.bool ((rd_T36 x0_1 (ji7)).f1)) ∧ w'.cell? ⟨go13, ((ji7)).toNat * 3 + 2, none⟩ = some (.string ((rd_T36 x0_1 (ji7)).f2)) ∧ w'.cell? ⟨go13, ((ji10)).toNat * 3, none⟩ = some (.string ((rd_T36 x0_1 (ji10)).f0)) ∧ w'.cell? ⟨go13, ((ji10)).toNat * 3 + 1, none⟩ = some (.bool ((rd_T36 x0_1 (ji10)).f1)) ∧ w'.cell? ⟨go13, ((ji10)).toNat * 3 + 2, none⟩ = some (.string ((rd_T36 x0_1 (ji10)).f2))) (ds := [21, 23]) #[false, false, false, false, false, false, false, false, false, false, false, false, false, false, false, false, false, false, false, false, false, false, false, false] (by kernel_rfl) rfl rfl ⟨hx250_0, hx250_1, hx250_2, hx251_0, hx251_1, hx251_2⟩ (fun hHeld => ?_); refine with_tabW slices_swapRangeCmpFunc_Item.tab3 slices_swapRangeCmpFunc_Item.bits3 (fun HT_ HW_ => ?_)
 generalize wr.drew = w15 at HO_0 HK HB GG13 HQ17 HQ18 hf13_0 hf13_1 hf13_2 hf14_0 hf14_1 hf14_2 hx13_0 hx13_1 hx13_2 hx14_0 hx14_1 hx14_2 hx250_0 hx250_1 hx250_2 hx251_0 hx251_1 hx251_2 hHeld ⊢
 refine yr_ 0 16 #[true, false, false, false, false, false, false, false, false, false, false, false, false, false, false, false, false, false, false, false, false, false, false, false] HT_ ?_
 refine yr_ 1 17 #[true, true, false, false, false, false, false, false, false, false, false, false, false, false, false, false, false, false, false, false, false, false, false, false] HT_ ?_
 refine yr_ 2 18 #[true, true, true, false, false, false, false, false, false, false, false, false, false, false, false, false, false, false, false, false, false, false, false, false] HT_ ?_
 refine yr_ 3 19 #[true, true, true, true, false, false, false, false, false, false, false, false, false, false, false, false, false, false, false, false, false, false, false, false] HT_ ?_
 refine yr_ 4 20 #[true, true, true, true, true, false, false, false, false, false, false, false, false, false, false, false, false, false, false, false, false, false, false, false] HT_ ?_
 refine yr_ 5 21 #[true, true, true, true, true, true, false, false, false, false, false, false, false, false, false, false, false, false, false, false, false, false, false, false] HT_ ?_
 refine yr_ 6 22 #[true, true, true, true, true, true, true, false, false, false, false, false, false, false, false, false, false, false, false, false, false, false, false, false] HT_ ?_
 refine yr_ 7 23 #[true, true, true, true, true, true, true, true, false, false, false, false, false, false, false, false, false, false, false, false, false, false, false, false] HT_ ?_
 refine yr_ 8 24 #[true, true, true, true, true, true, true, true, true, false, false, false, false, false, false, false, false, false, false, false, false, false, false, false] HT_ ?_
 refine yr_ 9 25 #[true, true, true, true, true, true, true, true, true, true, false, false, false, false, false, false, false, false, false, false, false, false, false, false] HT_ ?_
 refine yr_ 10 26 #[true, true, true, true, true, true, true, true, true, true, true, false, false, false, false, false, false, false, false, false, false, false, false, false] HT_ ?_
 refine yr_ 11 27 #[true, true, true, true, true, true, true, true, true, true, true, true, false, false, false, false, false, false, false, false, false, false, false, false] HT_ ?_
 refine yr_ 12 28 #[true, true, true, true, true, true, true, true, true, true, true, true, true, false, false, false, false, false, false, false, false, false, false, false] HT_ ?_
 refine yr_ 14 30 #[true, true, true, true, true, true, true, true, true, true, true, true, true, false, true, false, false, false, false, false, false, false, false, false] HT_ ?_
 refine yr_ 15 31 #[true, true, true, true, true, true, true, true, true, true, true, true, true, false, true, true, false, false, false, false, false, false, false, false] HT_ ?_
 refine yr_ 16 32 #[true, true, true, true, true, true, true, true, true, true, true, true, true, false, true, true, true, false, false, false, false, false, false, false] HT_ ?_
 refine yr_ 17 33 #[true, true, true, true, true, true, true, true, true, true, true, true, true, false, true, true, true, true, false, false, false, false, false, false] HT_ ?_
 refine yr_ 18 34 #[true, true, true, true, true, true, true, true, true, true, true, true, true, false, true, true, true, true, true, false, false, false, false, false] HT_ ?_
 refine tr_ 13 29 #[true, true, true, true, true, true, true, true, true, true, true, true, true, true, true, true, true, true, true, false, false, false, false, false] HT_ HW_ hHeld ?_
 refine tr_ 19 35 #[true, true, true, true, true, true, true, true, true, true, true, true, true, true, true, true, true, true, true, true, false, false, false, false] HT_ HW_ hHeld ?_
 refine yr_ 20 36 #[true, true, true, true, true, true, true, true, true, true, true, true, true, true, true, true, true, true, true, true, true, false, false, false] HT_ ?_
 refine last_ (i := 21) (N := none) #[true, true, true, true, true, true, true, true, true, true, true, true, true, true, true, true, true, true, true, true, true, true, false, false] rfl rfl (one_of HT_.out (by kernel_rfl)) (by decide) (fun K hK => ?_)
 refine skip_ (w1 := ?_) (by rfl) rfl ?_ ?_
 rotate_left
 ·go_simp
  rfl
 refine hK.out _ _ ?_
 clear hK K
 refine yr_ 22 37 #[true, true, true, true, true, true, true, true, true, true, true, true, true, true, true, true, true, true, true, true, true, true, true, false] HT_ ?_
 refine last_ (i := 23) (N := none) #[true, true, true, true, true, true, true, true, true, true, true, true, true, true, true, true, true, true, true, true, true, true, true, true] rfl rfl (one_of HT_.out (by kernel_rfl)) (by decide) (fun K hK => ?_)
 refine skip_ (w1 := ?_) (by rfl) rfl ?_ ?_
 rotate_left
 ·obtain ⟨ceS, hclS, hMS, hccS, hfrS⟩ := Kd.R_elem HO_0.out z36 ((ji7) : Int) (of_eq_true p14) (of_eq_true q14)
  obtain rfl := k36_openM hMS
  have gS_0 : World.frozen? _ ⟨go13, ((ji7) : Int).toNat * 3, none⟩ = false := hfrS 0
  have tS_0 : World.cell? _ ⟨go13, ((ji7) : Int).toNat * 3, none⟩ = some _ := hccS 0 _ rfl
  obtain ⟨_, fS_0_0⟩ := cell?_setCell_some (p := ⟨go13, ((ji10) : Int).toNat * 3, none⟩) (x := .string ((rd_T36 x0_1 (ji7)).f0)) tS_0
  have gS_1 : World.frozen? _ ⟨go13, ((ji7) : Int).toNat * 3 + 1, none⟩ = false := hfrS 1
  have tS_1 : World.cell? _ ⟨go13, ((ji7) : Int).toNat * 3 + 1, none⟩ = some _ := hccS 1 _ rfl
  obtain ⟨_, fS_1_0⟩ := cell?_setCell_some (p := ⟨go13, ((ji10) : Int).toNat * 3, none⟩) (x := .string ((rd_T36 x0_1 (ji7)).f0)) tS_1
  obtain ⟨_, fS_1_1⟩ := cell?_setCell_some (p := ⟨go13, ((ji10) : Int).toNat * 3 + 1, none⟩) (x := .bool ((rd_T36 x0_1 (ji7)).f1)) fS_1_0
  have gS_2 : World.frozen? _ ⟨go13, ((ji7) : Int).toNat * 3 + 2, none⟩ = false := hfrS 2
  have tS_2 : World.cell? _ ⟨go13, ((ji7) : Int).toNat * 3 + 2, none⟩ = some _ := hccS 2 _ rfl
  obtain ⟨_, fS_2_0⟩ := cell?_setCell_some (p := ⟨go13, ((ji10) : Int).toNat * 3, none⟩) (x := .string ((rd_T36 x0_1 (ji7)).f0)) tS_2
  obtain ⟨_, fS_2_1⟩ := cell?_setCell_some (p := ⟨go13, ((ji10) : Int).toNat * 3 + 1, none⟩) (x := .bool ((rd_T36 x0_1 (ji7)).f1)) fS_2_0
  obtain ⟨_, fS_2_2⟩ := cell?_setCell_some (p := ⟨go13, ((ji10) : Int).toNat * 3 + 2, none⟩) (x := .string ((rd_T36 x0_1 (ji7)).f2)) fS_2_1
  go_simp
  rfl
 refine hK.out _ _ ?_
 clear hK K
 refine done_ (done_of HT_.out (by kernel_rfl)) ?_
 try go_wp2
 go_roundg k1
 case measure => have := HK1.out; omega
 case rel => exact ⟨(y253), (wrap64 (x10_1 + 1)), tq_4, H', ⟨tq_22⟩, ⟨(raR_ HQ18)⟩, ⟨(by repeat (first | (with_reducible first | exact HK.out | apply Kept.alloc | apply Kept.drewN | apply Kept.drew | refine Kept.setCell ?_ HMgo13.out _ | refine Kept.setCell ?_ HMgo13.out _ | refine Kept.setCell ?_ HMgo13.out _ | refine Kept.setCell ?_ HMgo13.out _ | refine Kept.setCell ?_ HMgo13.out _ | refine Kept.setCell ?_ HMgo13.out _) | exact HK.out))⟩, ⟨(by repeat (first | (with_reducible first | exact HB.out | apply below_alloc | apply pw_below_drewN | apply below_drew1 | refine below_set ?_ GB13.out | refine below_set ?_ GB13.out | refine below_set ?_ GB13.out | refine below_set ?_ GB13.out | refine below_set ?_ GB13.out | refine below_set ?_ GB13.out) | exact HB.out))⟩⟩

/-! ### slices_rotateCmpFunc_Item: function 50 -/
def slices_rotateCmpFunc_Item.l0 : Nat → List (S36) → Int → Unit → Int → Int → Option ((List (S36)))
 | 0, _, _, _, _, _ => none
 | k + 1, x0, x2, x4, x10, x11 => if x10 = x11 then ((slices_swapRangeCmpFunc_Item.f k x0 (wrap64 (x2 - x10)) x2 x10 x4).bind fun t254 => (some t254)) else (if x10 > x11 then ((slices_swapRangeCmpFunc_Item.f k x0 (wrap64 (x2 - x10)) x2 x11 x4).bind fun t255 => (slices_rotateCmpFunc_Item.l0 k t255 x2 x4 (wrap64 (x10 - x11)) x11)) else ((slices_swapRangeCmpFunc_Item.f k x0 (wrap64 (x2 - x10)) (wrap64 ((wrap64 (x2 + x11)) - x10)) x10 x4).bind fun t256 => (slices_rotateCmpFunc_Item.l0 k t256 x2 x4 x10 (wrap64 (x11 - x10)))))
def slices_rotateCmpFunc_Item.f (k : Nat) (l0 : List (S36)) (a1 : Int) (a2 : Int) (a3 : Int) (a4 : Unit) : Option ((List (S36))) := slices_rotateCmpFunc_Item.l0 k l0 a2 a4 (wrap64 (a2 - a1)) (wrap64 (a3 - a2))
theorem slices_rotateCmpFunc_Item.mono_l : ∀ k, (∀ y0 y1 y2 y3 y4, LeO (slices_rotateCmpFunc_Item.l0 k y0 y1 y2 y3 y4) (slices_rotateCmpFunc_Item.l0 (k + 1) y0 y1 y2 y3 y4))
 | 0 => fun _ _ _ _ _ r h => by simp [slices_rotateCmpFunc_Item.l0] at h
 | k + 1 => by
  have ih0 := slices_rotateCmpFunc_Item.mono_l k
  ·intro y0 y1 y2 y3 y4
   unfold slices_rotateCmpFunc_Item.l0
   repeat' first
   | (with_reducible exact ih0 ..)
   | (with_reducible exact slices_swapRangeCmpFunc_Item.mono ..)
   | (with_reducible exact LeO.refl _)
   | (with_reducible exact LeO.none _)
   | (with_reducible refine LeO.ite ?_ ?_)
   | (with_reducible refine LeO.bind ?_ (fun _ => ?_))
   | exact ih0 ..
   | exact slices_swapRangeCmpFunc_Item.mono ..
   | exact LeO.none _
   | refine LeO.ite ?_ ?_
   | refine LeO.bind ?_ (fun _ => ?_)
theorem slices_rotateCmpFunc_Item.mono : ∀ a0 a1 a2 a3 a4 k, LeO (slices_rotateCmpFunc_Item.f k a0 a1 a2 a3 a4) (slices_rotateCmpFunc_Item.f (k + 1) a0 a1 a2 a3 a4) := by
 intro a0 a1 a2 a3 a4 k
 have ih0 := slices_rotateCmpFunc_Item.mono_l k
 unfold slices_rotateCmpFunc_Item.f
 repeat' first
   | (with_reducible exact ih0 ..)
   | (with_reducible exact slices_swapRangeCmpFunc_Item.mono ..)
   | (with_reducible exact LeO.refl _)
   | (with_reducible exact LeO.none _)
   | (with_reducible refine LeO.ite ?_ ?_)
   | (with_reducible refine LeO.bind ?_ (fun _ => ?_))
   | exact ih0 ..
   | exact slices_swapRangeCmpFunc_Item.mono ..
   | exact LeO.none _
   | refine LeO.ite ?_ ?_
   | refine LeO.bind ?_ (fun _ => ?_)
set_option maxHeartbeats 8000000 in
set_option maxRecDepth 100000 in
theorem slices_rotateCmpFunc_Item.calls (k : Nat) (P0_ : Nat → Prop) (u9000_ : Value) (l0 : List (S36)) (a1 : Int) (a2 : Int) (a3 : Int) (a4 : Unit) (r : List (S36)) (w0 w : World) (hB : Below w0.heap.size w0 w) (ho0 : Kd.R k36 36 w w0.heap.size P0_ u9000_ l0) (h : slices_rotateCmpFunc_Item.f k l0 a1 a2 a3 a4 = some r) :
  Calls Tryd.prog 50 #[u9000_, .int .i64 a1, .int .i64 a2, .int .i64 a3, .func (.func 17) #[] #[]] w fun e w' => e = .returned (.tuple #[]) ∧ Kd.R k36 36 w' w0.heap.size (fun k_ => (P0_ k_ ∨ w.heap.size ≤ k_)) u9000_ r ∧ Below w0.heap.size w0 w' ∧ Kept w w' (fun k_ => P0_ k_) := by
 have HO0 := Aside0.mk (show Kd.R k36 36 w w0.heap.size (fun k_ => (P0_ k_ ∨ w.heap.size ≤ k_)) u9000_ l0 from Kd.R_mono ho0 (fun k_ hk => (.inl hk)))
 have HK := Aside0.mk (Kept.refl w (fun k_ => P0_ k_))
 have HW0 := Aside0.mk hB.size
 have HB := Aside0.mk hB
 clear hB
 unfold slices_rotateCmpFunc_Item.f at h
 have H := h
 clear h
 have H' := Aside0.mk H
 clear H
 go_enter Tryd.func50, Tryd.ntmps50
 go_wp2
 go_loopg [10, 11] k (fun kq v10 v11 w' => ∃ (x0_1 : List (S36)) (x10_1 : Int) (x11_1 : Int), v10 = .int .i64 x10_1 ∧ v11 = .int .i64 x11_1 ∧ Aside0 (slices_rotateCmpFunc_Item.l0 kq x0_1 a2 a4 x10_1 x11_1 = some r) ∧ Aside0 (kq ≤ k) ∧ Aside0 (Kd.R k36 36 w' w0.heap.size (fun k_ => (P0_ k_ ∨ w.heap.size ≤ k_)) u9000_ x0_1) ∧ Aside0 (Kept w w' (fun k_ => P0_ k_)) ∧ Aside0 (Below w0.heap.size w0 w'))
 case atStart => exact ⟨(l0), (wrap64 (a2 - a1)), (wrap64 (a3 - a2)), tq_4, tq_4, H', ⟨Nat.le_refl _⟩, ⟨(raR_ HO0)⟩, ⟨tq_0⟩, ⟨th_⟩⟩
 case round =>
 clear H'
 try clear p2; try clear c5
 obtain ⟨x0_1, x10_1, x11_1, rfl, rfl, HA, HK1, HO_0, HK, HB⟩ := hrel
 cases gk with
 | zero => exact absurd HA.out (by simp [slices_rotateCmpFunc_Item.l0])
 | succ k1 =>
 have H := HA.out
 clear HA
 simp only [slices_rotateCmpFunc_Item.l0] at H
 by_cases c6 : x10_1 = x11_1
 ·rw [if_pos c6] at H
  have c6b0 := beq_iff_eq.mpr c6
  have c6b1 := bne_eq_false_iff_eq.mpr c6
  clear c6
  obtain ⟨t254, A7, H⟩ := bd_ H
  obtain rfl := Option.some.inj H
  obtain ⟨Ao8, co8, eo8⟩ := Kd.R_slice HO_0.out
  subst eo8
  go_wp2_with (first | ((with_reducible refine gate_callee (f := 55) rfl ?_); refine goesL_ (some 57) rfl rfl Tryd.func55 (by kernel_rfl) rfl #[.slice Ao8 x0_1.length co8, .int .i64 (wrap64 (a2 - x10_1)), .int .i64 a2, .int .i64 x10_1, .func (.func 17) #[] #[]] rfl tq_2 ?_; (with_reducible refine (slices_swapRangeCmpFunc_Item.calls k1 (fun k_ => some k_ = (.slice Ao8 x0_1.length co8 : Value).ownBlock) (.slice Ao8 x0_1.length co8) x0_1 (wrap64 (a2 - x10_1)) a2 x10_1 a4 t254 w0 _ ?side1 ?side2 A7.out).mono ?_); (case side1 => exact tq_8); (case side2 => exact Kd.R_tight rfl HO_0.out); rintro e w9 ⟨rfl, hy0, hb, hkp⟩; refine ⟨_, rfl, ?_⟩; have z_ := p_ (Kd.R_reok rfl hy0 (fun k_ e_ => HO_0.out.1 k_ e_)) <| p_ (Kept.then_ (S := (fun k_ => P0_ k_)) tq_0 hkp (fun k_ hs_ => (fun e_ => (HO_0.out.1 k_ e_.symm)) hs_)) <| a_ (hb); clear HO_0 HK HB; obtain ⟨HO_0, HK, HB⟩ := z_; (try clear hb); (try clear hkp); (try clear hy0)))
  first | go_end0 | ((try simp only [Exit.inBlock, Exit.then]); refine bodyPost_ret (results_none rfl _ _ _) rfl ?_)
  exact ⟨tq_3, (raR_ HO_0), th_, tq_0⟩
 rw [if_neg c6] at H
 have c6b0 := beq_eq_false_iff_ne.mpr c6
 have c6b1 := bne_iff_ne.mpr c6
 by_cases c10 : x10_1 > x11_1
 ·rw [if_pos c10] at H
  have c10b0 := decide_eq_true c10
  clear c10
  obtain ⟨t255, A11, H⟩ := bd_ H
  have H' := Aside0.mk H
  clear H
  obtain ⟨Ao12, co12, eo12⟩ := Kd.R_slice HO_0.out
  subst eo12
  go_wp2_with (first | ((with_reducible refine gate_callee (f := 55) rfl ?_); refine goesL_ (some 31) rfl rfl Tryd.func55 (by kernel_rfl) rfl #[.slice Ao12 x0_1.length co12, .int .i64 (wrap64 (a2 - x10_1)), .int .i64 a2, .int .i64 x11_1, .func (.func 17) #[] #[]] rfl tq_2 ?_; (with_reducible refine (slices_swapRangeCmpFunc_Item.calls k1 (fun k_ => some k_ = (.slice Ao12 x0_1.length co12 : Value).ownBlock) (.slice Ao12 x0_1.length co12) x0_1 (wrap64 (a2 - x10_1)) a2 x11_1 a4 t255 w0 _ ?side1 ?side2 A11.out).mono ?_); (case side1 => exact tq_8); (case side2 => exact Kd.R_tight rfl HO_0.out); rintro e w13 ⟨rfl, hy0, hb, hkp⟩; refine ⟨_, rfl, ?_⟩; have z_ := p_ (Kd.R_reok rfl hy0 (fun k_ e_ => HO_0.out.1 k_ e_)) <| p_ (Kept.then_ (S := (fun k_ => P0_ k_)) tq_0 hkp (fun k_ hs_ => (fun e_ => (HO_0.out.1 k_ e_.symm)) hs_)) <| a_ (hb); clear HO_0 HK HB; obtain ⟨HO_0, HK, HB⟩ := z_; (try clear hb); (try clear hkp); (try clear hy0)))
  go_roundg k1
  case measure => have := HK1.out; omega
  case rel => exact ⟨(t255), (wrap64 (x10_1 - x11_1)), (x11_1), tq_4, tq_4, H', ⟨tq_22⟩, ⟨(raR_ HO_0)⟩, ⟨tq_0⟩, ⟨th_⟩⟩
 rw [if_neg c10] at H
 have c10b0 := decide_eq_false c10
 clear c10
 obtain ⟨t256, A14, H⟩ := bd_ H
 have H' := Aside0.mk H
 clear H
 obtain ⟨Ao15, co15, eo15⟩ := Kd.R_slice HO_0.out
 subst eo15
 go_wp2_with (first | ((with_reducible refine gate_callee (f := 55) rfl ?_); refine goesL_ (some 46) rfl rfl Tryd.func55 (by kernel_rfl) rfl #[.slice Ao15 x0_1.length co15, .int .i64 (wrap64 (a2 - x10_1)), .int .i64 (wrap64 ((wrap64 (a2 + x11_1)) - x10_1)), .int .i64 x10_1, .func (.func 17) #[] #[]] rfl tq_2 ?_; (with_reducible refine (slices_swapRangeCmpFunc_Item.calls k1 (fun k_ => some k_ = (.slice Ao15 x0_1.length co15 : Value).ownBlock) (.slice Ao15 x0_1.length co15) x0_1 (wrap64 (a2 - x10_1)) (wrap64 ((wrap64 (a2 + x11_1)) - x10_1)) x10_1 a4 t256 w0 _ ?side1 ?side2 A14.out).mono ?_); (case side1 => exact tq_8); (case side2 => exact Kd.R_tight rfl HO_0.out); rintro e w16 ⟨rfl, hy0, hb, hkp⟩; refine ⟨_, rfl, ?_⟩; have z_ := p_ (Kd.R_reok rfl hy0 (fun k_ e_ => HO_0.out.1 k_ e_)) <| p_ (Kept.then_ (S := (fun k_ => P0_ k_)) tq_0 hkp (fun k_ hs_ => (fun e_ => (HO_0.out.1 k_ e_.symm)) hs_)) <| a_ (hb); clear HO_0 HK HB; obtain ⟨HO_0, HK, HB⟩ := z_; (try clear hb); (try clear hkp); (try clear hy0)))
 go_roundg k1
 case measure => have := HK1.out; omega
 case rel => exact ⟨(t256), (x10_1), (wrap64 (x11_1 - x10_1)), tq_4, tq_4, H', ⟨tq_22⟩, ⟨(raR_ HO_0)⟩, ⟨tq_0⟩, ⟨th_⟩⟩

end Go.Proofs.YtmddplifammohaaDoor.PFnExactMovedItems
