/- Contracts of Go functions, written by a program of ours over the print of the kit: each says that the call returns what the Lean function beside it computes. Conditions: as each theorem states them. -/
import Derived.Test.YtmddplifammohaaDoorPkFnExactMovedItems
import Derived.Test.YtmddplifammohaaDoorPFnExactMovedItemsx0
import Derived.Test.YtmddplifammohaaDoorPFnExactMovedItemsx4
namespace Go.Proofs.YtmddplifammohaaDoor.PFnExactMovedItems
open Go.RowKit Go.Proofs.YtmddplifammohaaDoorW.PrintWords Go.Proofs.YtmddplifammohaaDoorW.PrintLast Go.Proofs.YtmddplifammohaaDoorW.PrintMore
attribute [local go_sem] max2_int min2_int max_two min_two max_three min_three max_four min_four   -- for this text's walks alone
set_option linter.unusedVariables false
set_option linter.unusedSimpArgs false

/-! ### slices_Equal_string: function 27 -/
def slices_Equal_string.l0 : Nat → List ByteArray → List ByteArray → Int → Int → Option (Bool)
 | 0, _, _, _, _ => none
 | k + 1, x0, x1, x12, x13 => if x13 < x12 then (if 0 ≤ x13 then (if x13 < (x0.length : Int) then (if x13 < (x1.length : Int) then (if (rdOf ByteArray.empty x0 x13).toList = (rdOf ByteArray.empty x1 x13).toList then (slices_Equal_string.l0 k x0 x1 x12 (wrap64 (x13 + 1))) else (some false)) else (none)) else (none)) else (none)) else (some true)
def slices_Equal_string.f (k : Nat) (l0 : List ByteArray) (l1 : List ByteArray) : Option (Bool) := if (l0.length : Int) = (l1.length : Int) then (slices_Equal_string.l0 k l0 l1 (l0.length : Int) 0) else (some false)
theorem slices_Equal_string.mono_l : ∀ k, (∀ y0 y1 y2 y3, LeO (slices_Equal_string.l0 k y0 y1 y2 y3) (slices_Equal_string.l0 (k + 1) y0 y1 y2 y3))
 | 0 => fun _ _ _ _ r h => by simp [slices_Equal_string.l0] at h
 | k + 1 => by
  have ih0 := slices_Equal_string.mono_l k
  ·intro y0 y1 y2 y3
   unfold slices_Equal_string.l0
   exact mo_0
theorem slices_Equal_string.mono : ∀ a0 a1 k, LeO (slices_Equal_string.f k a0 a1) (slices_Equal_string.f (k + 1) a0 a1) := by
 intro a0 a1 k
 have ih0 := slices_Equal_string.mono_l k
 unfold slices_Equal_string.f
 repeat' first
   | (with_reducible exact ih0 ..)
   | (with_reducible exact LeO.refl _)
   | (with_reducible exact LeO.none _)
   | (with_reducible refine LeO.ite ?_ ?_)
   | (with_reducible refine LeO.bind ?_ (fun _ => ?_))
   | exact ih0 ..
   | exact LeO.none _
   | refine LeO.ite ?_ ?_
   | refine LeO.bind ?_ (fun _ => ?_)
set_option maxHeartbeats 8000000 in
set_option maxRecDepth 100000 in
theorem slices_Equal_string.calls (k : Nat) (A0 : Option Addr) (c0 : Nat) (l0 : List ByteArray) (A1 : Option Addr) (c1 : Nat) (l1 : List ByteArray) (r : Bool) (w : World) (hr0 : Kd.C Kd.string w A0 l0.length l0) (hc0 : l0.length ≤ c0) (hr1 : Kd.C Kd.string w A1 l1.length l1) (hc1 : l1.length ≤ c1) (h : slices_Equal_string.f k l0 l1 = some r) :
  Calls Tryd.prog 27 #[.slice A0 l0.length c0, .slice A1 l1.length c1] w fun e w' => e = .returned (.bool r) ∧ Drawn0 w w' := by
 have HR0 := Aside0.mk hr0
 have HC0 := Aside0.mk hc0
 clear hr0 hc0
 have HR1 := Aside0.mk hr1
 have HC1 := Aside0.mk hc1
 clear hr1 hc1
 unfold slices_Equal_string.f at h
 have H := h
 clear h
 by_cases c3 : (l0.length : Int) = (l1.length : Int)
 rotate_left
 ·rw [if_neg c3] at H
  have c3b0 := beq_eq_false_iff_ne.mpr c3
  have c3b1 := bne_iff_ne.mpr c3
  have c3b2 : (l0.length == l1.length) = false := by first | simpa using c3 | (simp at c3 ⊢; omega)
  obtain rfl := Option.some.inj H
  go_enter Tryd.func27, Tryd.ntmps27
  go_wp2
  repeat (go_quiet (fail); try go_wp2)
  go_ret
  exact ⟨tq_4, tq_6⟩
 rw [if_pos c3] at H
 have c3b0 := beq_iff_eq.mpr c3
 have c3b1 := bne_eq_false_iff_eq.mpr c3
 have c3b2 : (l0.length == l1.length) = true := by first | simpa using c3 | (simp at c3 ⊢; omega)
 clear c3
 have H' := Aside0.mk H
 clear H
 go_enter Tryd.func27, Tryd.ntmps27
 go_wp2
 repeat (go_quiet (fail); try go_wp2)
 go_loopg [13] k (fun kq v13 w' => ∃ (x13_1 : Int), v13 = .int .i64 x13_1 ∧ Aside0 (slices_Equal_string.l0 kq l0 l1 (l0.length : Int) x13_1 = some r) ∧ Aside0 (kq ≤ k) ∧ Drawn0 w w')
 case atStart => exact ⟨(0), tq_4, H', ⟨Nat.le_refl _⟩, tq_6⟩
 case round =>
 clear H'
 try clear c1; try clear c2; try clear p2; try clear c3; try clear c3b0; try clear c3b1; try clear c3b2
 obtain ⟨x13_1, rfl, HA, HK1, ⟨m1, rfl⟩⟩ := hrel
 cases gk with
 | zero => exact absurd HA.out (by simp [slices_Equal_string.l0])
 | succ k1 =>
 have H := HA.out
 clear HA
 simp only [slices_Equal_string.l0] at H
 by_cases c4 : x13_1 < (l0.length : Int)
 rotate_left
 ·rw [if_neg c4] at H
  have c4b0 := decide_eq_false c4
  clear c4
  obtain rfl := Option.some.inj H
  go_wp2
  repeat (go_quiet (fail); try go_wp2)
  go_ret
  exact ⟨tq_4, tq_6⟩
 rw [if_pos c4] at H
 have c4b0 := decide_eq_true c4
 clear c4
 obtain ⟨c5, H⟩ := fc_ H
 have c5b0 := decide_eq_true c5
 clear c5
 obtain ⟨c6, H⟩ := fc_ H
 have c6b0 := decide_eq_true c6
 clear c6
 obtain ⟨c7, H⟩ := fc_ H
 have c7b0 := decide_eq_true c7
 clear c7
 have HC8 := Aside0.mk H
 clear H
 have p223 : 0 ≤ (x13_1 : Int) := of_decide_eq_true tq_1
 have q223 : x13_1 < (l0.length : Int) := of_decide_eq_true tq_1
 obtain ⟨ad223, e223, hx223_0⟩ := Kd.at_string HR0.out x13_1 p223 q223
 cases e223
 replace p223 := eq_true p223
 replace q223 := eq_true q223
 have p224 : 0 ≤ (x13_1 : Int) := of_decide_eq_true tq_1
 have q224 : x13_1 < (l1.length : Int) := of_decide_eq_true tq_1
 obtain ⟨ad224, e224, hx224_0⟩ := Kd.at_string HR1.out x13_1 p224 q224
 cases e224
 replace p224 := eq_true p224
 replace q224 := eq_true q224
 go_upto_if 24 with (fail)
 repeat (go_quiet (fail); go_upto_if 24 with (fail))
 (try clear hx223_0)
 (try clear hx224_0)
 have H := HC8.out
 clear HC8
 by_cases c9 : (rdOf ByteArray.empty l0 x13_1).toList = (rdOf ByteArray.empty l1 x13_1).toList
 rotate_left
 ·rw [if_neg c9] at H
  have c9b0 := beq_eq_false_iff_ne.mpr c9
  have c9b1 := bne_iff_ne.mpr c9
  (first | rw [c9b0] | (simp only [i64_w, i32_w]; rw [c9b0]) | skip)
  obtain rfl := Option.some.inj H
  go_wp2
  repeat (go_quiet (fail); try go_wp2)
  go_ret
  exact ⟨tq_4, tq_6⟩
 rw [if_pos c9] at H
 have c9b0 := beq_iff_eq.mpr c9
 have c9b1 := bne_eq_false_iff_eq.mpr c9
 clear c9
 (first | rw [c9b0] | (simp only [i64_w, i32_w]; rw [c9b0]) | skip)
 have H' := Aside0.mk H
 clear H
 go_wp2
 repeat (go_quiet (fail); try go_wp2)
 go_roundg k1
 case measure => have := HK1.out; omega
 case rel => exact ⟨(wrap64 (x13_1 + 1)), tq_4, H', ⟨tq_22⟩, tq_6⟩

/-! ### impl_IsUnder: function 15 -/
def impl_IsUnder.f (k : Nat) (a0 : ByteArray) (a1 : ByteArray) : Option (Bool) := (impl_SplitPath.f k a0).bind fun bt225 => ((impl_SplitPath.f k a1).bind fun bt229 => (if bt225.2 = 0 then (if bt229.2 = 0 then (if (bt225.1.length : Int) > (bt229.1.length : Int) then (if 0 ≤ (bt229.1.length : Int) then (if (bt229.1.length : Int) ≤ (bt225.1.length : Int) then ((slices_Equal_string.f k (bt225.1.take ((bt229.1.length : Int) : Int).toNat) bt229.1).bind fun t237 => (some t237)) else (none)) else (none)) else (some false)) else (some false)) else (some false)))
theorem impl_IsUnder.mono : ∀ a0 a1 k, LeO (impl_IsUnder.f k a0 a1) (impl_IsUnder.f (k + 1) a0 a1) := by
 intro a0 a1 k
 unfold impl_IsUnder.f
 repeat' first
   | (with_reducible exact impl_SplitPath.mono ..)
   | (with_reducible exact slices_Equal_string.mono ..)
   | (with_reducible exact LeO.refl _)
   | (with_reducible exact LeO.none _)
   | (with_reducible refine LeO.ite ?_ ?_)
   | (with_reducible refine LeO.bind ?_ (fun _ => ?_))
   | exact impl_SplitPath.mono ..
   | exact slices_Equal_string.mono ..
   | exact LeO.none _
   | refine LeO.ite ?_ ?_
   | refine LeO.bind ?_ (fun _ => ?_)
set_option maxHeartbeats 8000000 in
set_option maxRecDepth 100000 in
theorem impl_IsUnder.calls (k : Nat) (a0 : ByteArray) (a1 : ByteArray) (r : Bool) (w : World) (hD_ : DoorOk w) (h : impl_IsUnder.f k a0 a1 = some r) :
  Calls Tryd.prog 15 #[.string a0, .string a1] w fun e w' => e = .returned (.bool r) ∧ Below w.heap.size w w' := by
 have HD := Aside0.mk hD_
 clear hD_
 have HB := Aside0.mk (Below.refl w.heap.size w)
 unfold impl_IsUnder.f at h
 have H := h
 clear h
 obtain ⟨⟨t225, t226⟩, A3, H⟩ := bd_ H
 try dsimp -simprocs only at H
 obtain ⟨⟨t229, t230⟩, A4, H⟩ := bd_ H
 try dsimp -simprocs only at H
 by_cases c5 : t226 = 0
 rotate_left
 ·rw [if_neg c5] at H
  have c5b0 := beq_eq_false_iff_ne.mpr c5
  have c5b1 := bne_iff_ne.mpr c5
  obtain rfl := Option.some.inj H
  go_enter Tryd.func15, Tryd.ntmps15
  go_wp2_with (first | ((with_reducible refine gate_callee (f := 26) rfl ?_); refine goesL_ (some 11) rfl rfl Tryd.func26 (by kernel_rfl) rfl #[.string a0] rfl tq_2 ?_; (with_reducible refine (impl_SplitPath.calls k a0 t225 t226 _ ?side1 A3.out).mono ?_); (case side1 => exact DoorOk.below HD.out th_); rintro e w22 ⟨v227, rfl, ho0, hb⟩; refine ⟨_, rfl, ?_⟩; have z_ := p_ (Kd.R_lower ho0 (below_size th_)) <| a_ (below_step th_ hb); clear HB; obtain ⟨HO228, HB⟩ := z_; (try clear hb); (try clear ho0)) | ((with_reducible refine gate_callee (f := 26) rfl ?_); refine goesL_ (some 16) rfl rfl Tryd.func26 (by kernel_rfl) rfl #[.string a1] rfl tq_2 ?_; (with_reducible refine (impl_SplitPath.calls k a1 t229 t230 _ ?side1 A4.out).mono ?_); (case side1 => exact DoorOk.below HD.out th_); rintro e w23 ⟨v231, rfl, ho0, hb⟩; refine ⟨_, rfl, ?_⟩; have z_ := p_ (Kd.R_elder' (raR_ HO228) (Kd.R_base ho0) hb) <| p_ (Kd.R_lower (Kd.R_new' ho0 (Kd.R_lt (raR_ HO228))) (below_size th_)) <| a_ (below_step th_ hb); clear HO228 HB; obtain ⟨HO228, HO232, HB⟩ := z_; (try clear hb); (try clear ho0)))
  go_ret
  exact ⟨tq_3, th_⟩
 rw [if_pos c5] at H
 have c5b0 := beq_iff_eq.mpr c5
 have c5b1 := bne_eq_false_iff_eq.mpr c5
 clear c5
 by_cases c6 : t230 = 0
 rotate_left
 ·rw [if_neg c6] at H
  have c6b0 := beq_eq_false_iff_ne.mpr c6
  have c6b1 := bne_iff_ne.mpr c6
  obtain rfl := Option.some.inj H
  go_enter Tryd.func15, Tryd.ntmps15
  go_wp2_with (first | ((with_reducible refine gate_callee (f := 26) rfl ?_); refine goesL_ (some 11) rfl rfl Tryd.func26 (by kernel_rfl) rfl #[.string a0] rfl tq_2 ?_; (with_reducible refine (impl_SplitPath.calls k a0 t225 t226 _ ?side1 A3.out).mono ?_); (case side1 => exact DoorOk.below HD.out th_); rintro e w20 ⟨v227, rfl, ho0, hb⟩; refine ⟨_, rfl, ?_⟩; have z_ := p_ (Kd.R_lower ho0 (below_size th_)) <| a_ (below_step th_ hb); clear HB; obtain ⟨HO228, HB⟩ := z_; (try clear hb); (try clear ho0)) | ((with_reducible refine gate_callee (f := 26) rfl ?_); refine goesL_ (some 16) rfl rfl Tryd.func26 (by kernel_rfl) rfl #[.string a1] rfl tq_2 ?_; (with_reducible refine (impl_SplitPath.calls k a1 t229 t230 _ ?side1 A4.out).mono ?_); (case side1 => exact DoorOk.below HD.out th_); rintro e w21 ⟨v231, rfl, ho0, hb⟩; refine ⟨_, rfl, ?_⟩; have z_ := p_ (Kd.R_elder' (raR_ HO228) (Kd.R_base ho0) hb) <| p_ (Kd.R_lower (Kd.R_new' ho0 (Kd.R_lt (raR_ HO228))) (below_size th_)) <| a_ (below_step th_ hb); clear HO228 HB; obtain ⟨HO228, HO232, HB⟩ := z_; (try clear hb); (try clear ho0)))
  go_ret
  exact ⟨tq_3, th_⟩
 rw [if_pos c6] at H
 have c6b0 := beq_iff_eq.mpr c6
 have c6b1 := bne_eq_false_iff_eq.mpr c6
 clear c6
 by_cases c7 : (t225.length : Int) > (t229.length : Int)
 rotate_left
 ·rw [if_neg c7] at H
  have c7b0 := decide_eq_false c7
  have c7b1 : decide (t229.length < t225.length) = false := decide_eq_false (fun h => c7 (Int.ofNat_lt.mpr h))
  clear c7
  obtain rfl := Option.some.inj H
  go_enter Tryd.func15, Tryd.ntmps15
  go_wp2_with (first | ((with_reducible refine gate_callee (f := 26) rfl ?_); refine goesL_ (some 11) rfl rfl Tryd.func26 (by kernel_rfl) rfl #[.string a0] rfl tq_2 ?_; (with_reducible refine (impl_SplitPath.calls k a0 t225 t226 _ ?side1 A3.out).mono ?_); (case side1 => exact DoorOk.below HD.out th_); rintro e w16 ⟨v227, rfl, ho0, hb⟩; refine ⟨_, rfl, ?_⟩; have z_ := p_ (Kd.R_lower ho0 (below_size th_)) <| a_ (below_step th_ hb); clear HB; obtain ⟨HO228, HB⟩ := z_; (try clear hb); (try clear ho0)) | ((with_reducible refine gate_callee (f := 26) rfl ?_); refine goesL_ (some 16) rfl rfl Tryd.func26 (by kernel_rfl) rfl #[.string a1] rfl tq_2 ?_; (with_reducible refine (impl_SplitPath.calls k a1 t229 t230 _ ?side1 A4.out).mono ?_); (case side1 => exact DoorOk.below HD.out th_); rintro e w17 ⟨v231, rfl, ho0, hb⟩; refine ⟨_, rfl, ?_⟩; have z_ := p_ (Kd.R_elder' (raR_ HO228) (Kd.R_base ho0) hb) <| p_ (Kd.R_lower (Kd.R_new' ho0 (Kd.R_lt (raR_ HO228))) (below_size th_)) <| a_ (below_step th_ hb); clear HO228 HB; obtain ⟨HO228, HO232, HB⟩ := z_; (try clear hb); (try clear ho0); obtain ⟨Ao18, co18, eo18⟩ := Kd.R_slice HO228.out; subst eo18; obtain ⟨Ao19, co19, eo19⟩ := Kd.R_slice HO232.out; subst eo19))
  go_ret
  exact ⟨tq_3, th_⟩
 rw [if_pos c7] at H
 have c7b0 := decide_eq_true c7
 have c7b1 : decide (t229.length < t225.length) = true := decide_eq_true (Int.ofNat_lt.mp c7)
 clear c7
 obtain ⟨c8, H⟩ := fc_ H
 have c8b0 := eq_true c8
 have c8b1 := decide_eq_true c8
 clear c8
 obtain ⟨c9, H⟩ := fc_ H
 have c9b0 := eq_true c9
 have c9b1 := decide_eq_true c9
 clear c9
 obtain ⟨y233, hy233⟩ : ∃ y_ : List ByteArray, y_ = (t225.take ((t229.length : Int) : Int).toNat) := ⟨_, rfl⟩
 replace H : ((slices_Equal_string.f k y233 t229).bind fun t237 => (some t237)) = some r := by first | (rw [hy233]; with_reducible exact H) | (have H2_ := (Option.bind_some _ _).symm.trans H; rw [hy233]; with_reducible exact H2_) | (have H2_ := (Option.bind_some _ _).symm.trans H; with_reducible exact H2_) | with_reducible exact H | (rw [hy233]; exact H) | exact H
 have Ny233 := Aside0.mk hy233
 clear hy233
 obtain ⟨t237, A10, H⟩ := bd_ H
 obtain rfl := Option.some.inj H
 go_enter Tryd.func15, Tryd.ntmps15
 go_wp2_with (first | ((with_reducible refine gate_callee (f := 26) rfl ?_); refine goesL_ (some 11) rfl rfl Tryd.func26 (by kernel_rfl) rfl #[.string a0] rfl tq_2 ?_; (with_reducible refine (impl_SplitPath.calls k a0 t225 t226 _ ?side1 A3.out).mono ?_); (case side1 => exact DoorOk.below HD.out th_); rintro e w11 ⟨v227, rfl, ho0, hb⟩; refine ⟨_, rfl, ?_⟩; have z_ := p_ (Kd.R_lower ho0 (below_size th_)) <| a_ (below_step th_ hb); clear HB; obtain ⟨HO228, HB⟩ := z_; (try clear hb); (try clear ho0)) | ((with_reducible refine gate_callee (f := 26) rfl ?_); refine goesL_ (some 16) rfl rfl Tryd.func26 (by kernel_rfl) rfl #[.string a1] rfl tq_2 ?_; (with_reducible refine (impl_SplitPath.calls k a1 t229 t230 _ ?side1 A4.out).mono ?_); (case side1 => exact DoorOk.below HD.out th_); rintro e w12 ⟨v231, rfl, ho0, hb⟩; refine ⟨_, rfl, ?_⟩; have z_ := p_ (Kd.R_elder' (raR_ HO228) (Kd.R_base ho0) hb) <| p_ (Kd.R_lower (Kd.R_new' ho0 (Kd.R_lt (raR_ HO228))) (below_size th_)) <| a_ (below_step th_ hb); clear HO228 HB; obtain ⟨HO228, HO232, HB⟩ := z_; (try clear hb); (try clear ho0); obtain ⟨Ao13, co13, eo13⟩ := Kd.R_slice HO228.out; subst eo13; obtain ⟨Ao14, co14, eo14⟩ := Kd.R_slice HO232.out; subst eo14; have q15 : ((t229.length : Int) : Int) ≤ ((t225.length : Int) : Int) := of_decide_eq_true tq_1; obtain ⟨i015, hi015, _, hsz15, _⟩ := info_parts info9; have hroom15 : t225.length ≤ co13 := (Kd.R_reads' HO228.out).2.1; have hC15 : Kd.C Kd.string _ Ao13 t225.length t225 := (Kd.R_reads' HO228.out).2.2; have hcut15 := cut_to (P := Tryd.prog) 47 9 .i64 Tryd.underlying47 hi015 Ao13 t225.length co13 (t229.length : Int) (of_decide_eq_true tq_1) q15 hroom15; have hr15 := Kd.C_take (m := ((t229.length : Int) : Int).toNat) hC15 (by omega); have hy15 : y233.length = ((t229.length : Int) : Int).toNat := (by rw [Ny233.out, List.length_take]; omega); rw [← Ny233.out] at hr15; rw [← hy15] at hcut15; have HR236 := Aside0.mk hr15; have HC236 := Aside0.mk (show y233.length ≤ co13 from by omega); clear hr15 hC15 hroom15 hi015 hsz15; have KY15 := Aside0.mk hy15; clear hy15; have KL15 := Aside0.mk (show ((t229.length : Int) : Int).toNat ≤ t225.length from by omega); replace q15 := eq_true q15) | (go_at_call 27; (with_reducible refine (slices_Equal_string.calls k _ _ y233 _ _ t229 t237 _ ?side1 ?side2 ?side3 ?side4 A10.out).mono ?_); (case side1 => repeat (first | exact (by repeat (first | (with_reducible exact HR236.out) | (with_reducible refine Kd.C_alloc ?_ _) | (with_reducible refine Kd.C_drewN ?_ _) | (with_reducible refine Kd.C_drew ?_) | exact HR236.out)) | (with_reducible refine Kd.C_alloc ?_ _) | (with_reducible refine Kd.C_drewN ?_ _) | (with_reducible refine Kd.C_drew ?_))); (case side2 => exact HC236.out); (case side3 => repeat (first | exact (Kd.R_reads' HO232.out).2.2 | (with_reducible refine Kd.C_alloc ?_ _) | (with_reducible refine Kd.C_drewN ?_ _) | (with_reducible refine Kd.C_drew ?_))); (case side4 => exact (Kd.R_reads' HO232.out).2.1); rintro e w' ⟨rfl, ⟨nd, rfl⟩⟩))
 go_ret
 exact ⟨tq_3, th_⟩

/-! ### cmp_isNaN_string: function 29 -/
def cmp_isNaN_string.f (a0 : ByteArray) : Option (Bool) := some (a0.toList != a0.toList)
set_option maxHeartbeats 8000000 in
set_option maxRecDepth 100000 in
theorem cmp_isNaN_string.calls (a0 : ByteArray) (r : Bool) (w : World) (h : cmp_isNaN_string.f a0 = some r) :
  Calls Tryd.prog 29 #[.string a0] w fun e w' => e = .returned (.bool r) ∧ Drawn0 w w' := by
 unfold cmp_isNaN_string.f at h
 have H := h
 clear h
 obtain rfl := Option.some.inj H
 go_enter Tryd.func29, Tryd.ntmps29
 go_wp2
 go_ret
 exact ⟨tq_4, tq_6⟩

/-! ### cmp_Compare_string: function 18 -/
def cmp_Compare_string.f (a0 : ByteArray) (a1 : ByteArray) : Option (Int) := (cmp_isNaN_string.f a0).bind fun t238 => ((cmp_isNaN_string.f a1).bind fun t239 => (if t238 = true then (if t239 = true then (some 0) else (some (-1))) else (if t239 = true then (some 1) else (if (Op.bytesLess a0.toList a1.toList) = true then (some (-1)) else (if (Op.bytesLess a1.toList a0.toList) = true then (some 1) else (some 0))))))
set_option maxHeartbeats 8000000 in
set_option maxRecDepth 100000 in
theorem cmp_Compare_string.calls (a0 : ByteArray) (a1 : ByteArray) (r : Int) (w : World) (h : cmp_Compare_string.f a0 a1 = some r) :
  Calls Tryd.prog 18 #[.string a0, .string a1] w fun e w' => e = .returned (.int .i64 r) ∧ Drawn0 w w' := by
 unfold cmp_Compare_string.f at h
 have H := h
 clear h
 obtain ⟨t238, A3, H⟩ := bd_ H
 obtain ⟨t239, A4, H⟩ := bd_ H
 have HC5 := Aside0.mk H
 clear H
 go_enter Tryd.func18, Tryd.ntmps18
 go_upto_if 11 with (first | ((with_reducible refine gate_callee (f := 29) rfl ?_); refine goesL_ (some 8) rfl rfl Tryd.func29 (by kernel_rfl) rfl #[.string a0] rfl tq_2 ?_; (with_reducible refine (cmp_isNaN_string.calls a0 t238 _ A3.out).mono ?_); rintro e w' ⟨rfl, ⟨nd, rfl⟩⟩; refine ⟨_, rfl, ?_⟩) | ((with_reducible refine gate_callee (f := 29) rfl ?_); refine goesL_ (some 10) rfl rfl Tryd.func29 (by kernel_rfl) rfl #[.string a1] rfl tq_2 ?_; (with_reducible refine (cmp_isNaN_string.calls a1 t239 _ A4.out).mono ?_); rintro e w' ⟨rfl, ⟨nd, rfl⟩⟩; refine ⟨_, rfl, ?_⟩))
 (try simp only [Act.put, List.setIfInBounds_toArray, List.set_cons_zero, List.set_cons_succ])
 have H := HC5.out
 clear HC5
 by_cases c6 : t238 = true
 ·subst c6
  rw [if_pos rfl] at H
  by_cases c7 : t239 = true
  ·subst c7
   rw [if_pos rfl] at H
   obtain rfl := Option.some.inj H
   go_wp2
   go_ret
   exact ⟨tq_4, tq_6⟩
  replace c7 := Bool.eq_false_iff.mpr c7
  subst c7
  rw [if_neg nf_] at H
  obtain rfl := Option.some.inj H
  go_wp2
  go_ret
  exact ⟨tq_4, tq_6⟩
 replace c6 := Bool.eq_false_iff.mpr c6
 subst c6
 rw [if_neg nf_] at H
 by_cases c8 : t239 = true
 ·subst c8
  rw [if_pos rfl] at H
  obtain rfl := Option.some.inj H
  go_wp2
  go_ret
  exact ⟨tq_4, tq_6⟩
 replace c8 := Bool.eq_false_iff.mpr c8
 subst c8
 rw [if_neg nf_] at H
 by_cases c9 : (Op.bytesLess a0.toList a1.toList) = true
 ·rw [if_pos c9] at H
  have c9b0 : (Op.bytesLess a0.toList a1.toList) = true := c9
  clear c9
  (first | rw [c9b0] | (simp only [i64_w, i32_w]; rw [c9b0]) | rw [bl_leq, c9b0] | rw [bl_gtr, c9b0] | skip)
  obtain rfl := Option.some.inj H
  go_wp2
  go_ret
  exact ⟨tq_4, tq_6⟩
 rw [if_neg c9] at H
 have c9b0 : (Op.bytesLess a0.toList a1.toList) = false := by simpa using c9
 clear c9
 (first | rw [c9b0] | (simp only [i64_w, i32_w]; rw [c9b0]) | rw [bl_leq, c9b0] | rw [bl_gtr, c9b0] | skip)
 by_cases c10 : (Op.bytesLess a1.toList a0.toList) = true
 ·rw [if_pos c10] at H
  have c10b0 : (Op.bytesLess a1.toList a0.toList) = true := c10
  have c10g : (!(a0.toList == a1.toList)) = true := by have q_ := bl_gtr a1.toList a0.toList; rw [c9b0, c10b0] at q_; simpa using q_
  clear c10
  obtain rfl := Option.some.inj H
  go_wp2
  go_ret
  exact ⟨tq_4, tq_6⟩
 rw [if_neg c10] at H
 have c10b0 : (Op.bytesLess a1.toList a0.toList) = false := by simpa using c10
 have c10g : (!(a0.toList == a1.toList)) = false := by have q_ := bl_gtr a1.toList a0.toList; rw [c9b0, c10b0] at q_; simpa using q_
 clear c10
 obtain rfl := Option.some.inj H
 go_wp2
 go_ret
 exact ⟨tq_4, tq_6⟩

/-! ### impl_MovedItems_1: function 17 -/
def impl_MovedItems_1.f (a0_0 : ByteArray) (a0_1 : Bool) (a0_2 : ByteArray) (a1_0 : ByteArray) (a1_1 : Bool) (a1_2 : ByteArray) : Option (Int) := (cmp_Compare_string.f a0_0 a1_0).bind fun t242 => (some t242)
set_option maxHeartbeats 8000000 in
set_option maxRecDepth 100000 in
theorem impl_MovedItems_1.calls (a0_0 : ByteArray) (a0_1 : Bool) (a0_2 : ByteArray) (a1_0 : ByteArray) (a1_1 : Bool) (a1_2 : ByteArray) (r : Int) (w : World) (h : impl_MovedItems_1.f a0_0 a0_1 a0_2 a1_0 a1_1 a1_2 = some r) :
  Calls Tryd.prog 17 #[.agg #[.string a0_0, .bool a0_1, .string a0_2], .agg #[.string a1_0, .bool a1_1, .string a1_2]] w fun e w' => e = .returned (.int .i64 r) ∧ Below w.heap.size w w' := by
 have hu36 := Tryd.underlying36
 have HB := Aside0.mk (Below.refl w.heap.size w)
 unfold impl_MovedItems_1.f at h
 have H := h
 clear h
 obtain ⟨t242, A3, H⟩ := bd_ H
 obtain rfl := Option.some.inj H
 go_enter Tryd.func17, Tryd.ntmps17
 go_wp2_with (first | ((with_reducible refine gate_dst (N := 2) rfl ?_); refine be_ 2 (cs := #[.string a0_0, .bool a0_1, .string a0_2]) 36 ?_; intro gb240 hg w4 hbox hb; have z_ := bx0_ th_ hb hbox hg; clear HB; obtain ⟨HB, BK240, GW240, GE240⟩ := z_; clear hb hbox hg) | ((with_reducible refine gate_dst (N := 3) rfl ?_); refine be_ 3 (cs := #[.string a1_0, .bool a1_1, .string a1_2]) 36 ?_; intro gb241 hg w5 hbox hb; have z_ := bx1_ (kb_ BK240) th_ hb hbox hg; clear BK240 HB; obtain ⟨BK240, HB, BK241, GW241, GE241, NB240_241, NB241_240⟩ := z_; clear hb hbox hg; obtain ⟨n240_241, n241_240⟩ := an2_ NB240_241 NB241_240; obtain ⟨hcz7_0, hcz7_1, hcz7_2⟩ := bk3_ BK240.out; obtain ⟨hfz7_0, hfz7_1, hfz7_2⟩ := bf3_ BK240.out; obtain ⟨hcz8_0, hcz8_1, hcz8_2⟩ := bk3_ BK241.out; obtain ⟨hfz8_0, hfz8_1, hfz8_2⟩ := bf3_ BK241.out) | ((with_reducible refine gate_callee (f := 18) rfl ?_); refine goesL_ (some 9) rfl rfl Tryd.func18 (by kernel_rfl) rfl #[.string a0_0, .string a1_0] rfl tq_2 ?_; (with_reducible refine (cmp_Compare_string.calls a0_0 a1_0 t242 _ A3.out).mono ?_); rintro e w' ⟨rfl, ⟨nd, rfl⟩⟩; refine ⟨_, rfl, ?_⟩))
 go_ret
 exact ⟨tq_3, th_⟩

end Go.Proofs.YtmddplifammohaaDoor.PFnExactMovedItems
