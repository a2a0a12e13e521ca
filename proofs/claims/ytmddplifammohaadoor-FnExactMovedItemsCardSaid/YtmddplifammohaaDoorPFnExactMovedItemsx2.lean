/- Contracts of Go functions, written by a program of ours over the print of the kit: each says that the call returns what the Lean function beside it computes. Conditions: as each theorem states them. -/
import Derived.Test.YtmddplifammohaaDoorPkFnExactMovedItems
import Derived.Test.YtmddplifammohaaDoorPFnExactMovedItemsx0
import Derived.Test.YtmddplifammohaaDoorPFnExactMovedItemsx1
namespace Go.Proofs.YtmddplifammohaaDoor.PFnExactMovedItems
open Go.RowKit Go.Proofs.YtmddplifammohaaDoorW.PrintWords Go.Proofs.YtmddplifammohaaDoorW.PrintLast Go.Proofs.YtmddplifammohaaDoorW.PrintMore
attribute [local go_sem] max2_int min2_int max_two min_two max_three min_three max_four min_four   -- for this text's walks alone
set_option linter.unusedVariables false
set_option linter.unusedSimpArgs false

/-! ### spec_IsUnder: function 12 -/
mutual
def spec_IsUnder.j0 : Nat → List ByteArray → List ByteArray → Bool → Option (Bool)
 | 0, _, _, _ => none
 | k + 1, x5, x7, x32 => if x32 = true then (some false) else (spec_IsUnder.l0 k x5 x7 0)
def spec_IsUnder.l0 : Nat → List ByteArray → List ByteArray → Int → Option (Bool)
 | 0, _, _, _ => none
 | k + 1, x5, x7, x9 => if x9 < (x7.length : Int) then (if 0 ≤ x9 then (if x9 < (x5.length : Int) then (if (rdOf ByteArray.empty x5 x9).toList = (rdOf ByteArray.empty x7 x9).toList then (spec_IsUnder.l0 k x5 x7 (wrap64 (x9 + 1))) else (some false)) else (none)) else (none)) else (some true)
end
def spec_IsUnder.f (k : Nat) (a0 : ByteArray) (a1 : ByteArray) : Option (Bool) := (spec_SplitPath.f k a0).bind fun bt120 => ((spec_SplitPath.f k a1).bind fun bt124 => (if bt120.2 = 0 then (if bt124.2 = 0 then (spec_IsUnder.j0 k bt120.1 bt124.1 (decide ((bt120.1.length : Int) ≤ (bt124.1.length : Int)))) else (spec_IsUnder.j0 k bt120.1 bt124.1 true)) else (spec_IsUnder.j0 k bt120.1 bt124.1 true)))
theorem spec_IsUnder.mono_l : ∀ k, (∀ y0 y1 y2, LeO (spec_IsUnder.j0 k y0 y1 y2) (spec_IsUnder.j0 (k + 1) y0 y1 y2)) ∧ (∀ y0 y1 y2, LeO (spec_IsUnder.l0 k y0 y1 y2) (spec_IsUnder.l0 (k + 1) y0 y1 y2))
 | 0 => ⟨fun _ _ _ r h => by simp [spec_IsUnder.j0] at h, fun _ _ _ r h => by simp [spec_IsUnder.l0] at h⟩
 | k + 1 => by
  obtain ⟨ih0, ih1⟩ := spec_IsUnder.mono_l k
  refine ⟨?_, ?_⟩
  ·intro y0 y1 y2
   unfold spec_IsUnder.j0
   exact mo_2
  ·intro y0 y1 y2
   unfold spec_IsUnder.l0
   exact mo_2
theorem spec_IsUnder.mono : ∀ a0 a1 k, LeO (spec_IsUnder.f k a0 a1) (spec_IsUnder.f (k + 1) a0 a1) := by
 intro a0 a1 k
 obtain ⟨ih0, ih1⟩ := spec_IsUnder.mono_l k
 unfold spec_IsUnder.f
 repeat' first
   | (with_reducible exact ih0 ..)
   | (with_reducible exact ih1 ..)
   | (with_reducible exact spec_SplitPath.mono ..)
   | (with_reducible exact LeO.refl _)
   | (with_reducible exact LeO.none _)
   | (with_reducible refine LeO.ite ?_ ?_)
   | (with_reducible refine LeO.bind ?_ (fun _ => ?_))
   | exact ih0 ..
   | exact ih1 ..
   | exact spec_SplitPath.mono ..
   | exact LeO.none _
   | refine LeO.ite ?_ ?_
   | refine LeO.bind ?_ (fun _ => ?_)
set_option maxHeartbeats 8000000 in
set_option maxRecDepth 100000 in
theorem spec_IsUnder.calls (k : Nat) (a0 : ByteArray) (a1 : ByteArray) (r : Bool) (w : World) (h : spec_IsUnder.f k a0 a1 = some r) :
  Calls Tryd.prog 12 #[.string a0, .string a1] w fun e w' => e = .returned (.bool r) ∧ Below w.heap.size w w' := by
 have HB := Aside0.mk (Below.refl w.heap.size w)
 unfold spec_IsUnder.f at h
 have H := h
 clear h
 obtain ⟨⟨t120, t121⟩, A3, H⟩ := bd_ H
 try dsimp -simprocs only at H
 obtain ⟨⟨t124, t125⟩, A4, H⟩ := bd_ H
 try dsimp -simprocs only at H
 have HC5 := Aside0.mk H
 clear H
 go_enter Tryd.func12, Tryd.ntmps12
 go_upto_region 3 with (first | (go_at_call 23; (with_reducible refine (spec_SplitPath.calls k a0 t120 t121 _ A3.out).mono ?_); rintro e w6 ⟨v122, rfl, ho0, hb⟩; have z_ := p_ (Kd.R_lower ho0 (below_size th_)) <| a_ (below_step th_ hb); clear HB; obtain ⟨HO123, HB⟩ := z_; (try clear hb); (try clear ho0)) | (go_at_call 23; (with_reducible refine (spec_SplitPath.calls k a1 t124 t125 _ A4.out).mono ?_); rintro e w7 ⟨v126, rfl, ho0, hb⟩; have z_ := p_ (Kd.R_elder' (raR_ HO123) (Kd.R_base ho0) hb) <| p_ (Kd.R_lower (Kd.R_new' ho0 (Kd.R_lt (raR_ HO123))) (below_size th_)) <| a_ (below_step th_ hb); clear HO123 HB; obtain ⟨HO123, HO127, HB⟩ := z_; (try clear hb); (try clear ho0)))
 repeat (go_quiet (first | (go_at_call 23; (with_reducible refine (spec_SplitPath.calls k a0 t120 t121 _ A3.out).mono ?_); rintro e w6 ⟨v122, rfl, ho0, hb⟩; have z_ := p_ (Kd.R_lower ho0 (below_size th_)) <| a_ (below_step th_ hb); clear HB; obtain ⟨HO123, HB⟩ := z_; (try clear hb); (try clear ho0)) | (go_at_call 23; (with_reducible refine (spec_SplitPath.calls k a1 t124 t125 _ A4.out).mono ?_); rintro e w7 ⟨v126, rfl, ho0, hb⟩; have z_ := p_ (Kd.R_elder' (raR_ HO123) (Kd.R_base ho0) hb) <| p_ (Kd.R_lower (Kd.R_new' ho0 (Kd.R_lt (raR_ HO123))) (below_size th_)) <| a_ (below_step th_ hb); clear HO123 HB; obtain ⟨HO123, HO127, HB⟩ := z_; (try clear hb); (try clear ho0))); go_upto_region 3 with (first | (go_at_call 23; (with_reducible refine (spec_SplitPath.calls k a0 t120 t121 _ A3.out).mono ?_); rintro e w6 ⟨v122, rfl, ho0, hb⟩; have z_ := p_ (Kd.R_lower ho0 (below_size th_)) <| a_ (below_step th_ hb); clear HB; obtain ⟨HO123, HB⟩ := z_; (try clear hb); (try clear ho0)) | (go_at_call 23; (with_reducible refine (spec_SplitPath.calls k a1 t124 t125 _ A4.out).mono ?_); rintro e w7 ⟨v126, rfl, ho0, hb⟩; have z_ := p_ (Kd.R_elder' (raR_ HO123) (Kd.R_base ho0) hb) <| p_ (Kd.R_lower (Kd.R_new' ho0 (Kd.R_lt (raR_ HO123))) (below_size th_)) <| a_ (below_step th_ hb); clear HO123 HB; obtain ⟨HO123, HO127, HB⟩ := z_; (try clear hb); (try clear ho0))))
 (try simp only [Act.put, List.setIfInBounds_toArray, List.set_cons_zero, List.set_cons_succ])
 go_cut [32] (fun v32 wc => ∃ (kq : Nat) (x32_4 : Bool), v32 = .bool x32_4 ∧ Aside0 (spec_IsUnder.j0 kq t120 t124 x32_4 = some r) ∧ Aside0 (kq ≤ k) ∧ Aside0 (Kd.R Kd.string 9 wc w.heap.size (fun k_ => some k_ ≠ (v126 : Value).ownBlock) v122 t120) ∧ Aside0 (Kd.R Kd.string 9 wc w.heap.size (fun k_ => some k_ ≠ (v122 : Value).ownBlock) v126 t124) ∧ Aside0 (Below w.heap.size w wc))
 case first =>
  have H := HC5.out
  clear HC5
  by_cases c8 : t121 = 0
  rotate_left
  ·rw [if_neg c8] at H
   have c8b0 := beq_eq_false_iff_ne.mpr c8
   have c8b1 := bne_iff_ne.mpr c8
   (first | rw [c8b0] | (simp only [i64_w, i32_w]; rw [c8b0]) | skip)
   have H' := Aside0.mk H
   clear H
   go_wp2
   repeat (go_quiet (fail); try go_wp2)
   go_meet
   case rel => exact ⟨_, (true), tq_4, H', ⟨tq_17⟩, ⟨tq_32⟩, ⟨tq_31⟩, ⟨th_⟩⟩
  rw [if_pos c8] at H
  have c8b0 := beq_iff_eq.mpr c8
  have c8b1 := bne_eq_false_iff_eq.mpr c8
  clear c8
  (first | rw [c8b0] | (simp only [i64_w, i32_w]; rw [c8b0]) | skip)
  by_cases c9 : t125 = 0
  rotate_left
  ·rw [if_neg c9] at H
   have c9b0 := beq_eq_false_iff_ne.mpr c9
   have c9b1 := bne_iff_ne.mpr c9
   have H' := Aside0.mk H
   clear H
   go_wp2
   repeat (go_quiet (fail); try go_wp2)
   go_meet
   case rel => exact ⟨_, (true), tq_4, H', ⟨tq_17⟩, ⟨tq_32⟩, ⟨tq_31⟩, ⟨th_⟩⟩
  rw [if_pos c9] at H
  have c9b0 := beq_iff_eq.mpr c9
  have c9b1 := bne_eq_false_iff_eq.mpr c9
  clear c9
  have H' := Aside0.mk H
  clear H
  obtain ⟨Ao10, co10, eo10⟩ := Kd.R_slice HO123.out
  subst eo10
  obtain ⟨Ao11, co11, eo11⟩ := Kd.R_slice HO127.out
  subst eo11
  go_wp2
  repeat (go_quiet (fail); try go_wp2)
  go_meet
  case rel => exact ⟨_, (decide ((t120.length : Int) ≤ (t124.length : Int))), tq_4, H', ⟨tq_17⟩, ⟨tq_32⟩, ⟨tq_31⟩, ⟨th_⟩⟩
 case rest =>
 clear HC5
 try clear c1; try clear p2; try clear c8; try clear c8b0; try clear c8b1; try clear c9; try clear c9b0; try clear c9b1
 obtain ⟨kq, x32_4, rfl, HA, HJ4, HO_5, HO_7, HB⟩ := hcut
 cases kq with
 | zero => exact absurd HA.out (by simp [spec_IsUnder.j0])
 | succ kj4 =>
 have H := HA.out
 clear HA
 simp only [spec_IsUnder.j0] at H
 by_cases c12 : x32_4 = true
 ·subst c12
  rw [if_pos rfl] at H
  obtain rfl := Option.some.inj H
  go_wp2
  repeat (go_quiet (fail); try go_wp2)
  go_ret
  exact ⟨tq_3, th_⟩
 replace c12 := Bool.eq_false_iff.mpr c12
 subst c12
 rw [if_neg nf_] at H
 have H' := Aside0.mk H
 clear H
 go_wp2
 repeat (go_quiet (fail); try go_wp2)
 go_loopg [9] kj4 (fun kq v9 w' => ∃ (x9_2 : Int), v9 = .int .i64 x9_2 ∧ Aside0 (spec_IsUnder.l0 kq t120 t124 x9_2 = some r) ∧ Aside0 (kq ≤ kj4) ∧ Aside0 (Kd.R Kd.string 9 w' w.heap.size (fun k_ => some k_ ≠ (v126 : Value).ownBlock) v122 t120) ∧ Aside0 (Kd.R Kd.string 9 w' w.heap.size (fun k_ => some k_ ≠ (v122 : Value).ownBlock) v126 t124) ∧ Aside0 (Below w.heap.size w w'))
 case atStart => exact ⟨(0), tq_4, H', ⟨Nat.le_refl _⟩, ⟨(raR_ HO_5)⟩, ⟨(raR_ HO_7)⟩, ⟨th_⟩⟩
 case round =>
 clear H'
 try clear c1; try clear p2; try clear c8; try clear c8b0; try clear c8b1; try clear c9; try clear c9b0; try clear c9b1; try clear c12; try clear p2
 obtain ⟨x9_2, rfl, HA, HK2, HO_5, HO_7, HB⟩ := hrel
 cases gk with
 | zero => exact absurd HA.out (by simp [spec_IsUnder.l0])
 | succ k2 =>
 have H := HA.out
 clear HA
 simp only [spec_IsUnder.l0] at H
 have HC13 := Aside0.mk H
 clear H
 obtain ⟨Ao14, co14, eo14⟩ := Kd.R_slice HO_7.out
 subst eo14
 go_upto_if 36 with (fail)
 repeat (go_quiet (fail); go_upto_if 36 with (fail))
 have H := HC13.out
 clear HC13
 by_cases c15 : x9_2 < (t124.length : Int)
 rotate_left
 ·rw [if_neg c15] at H
  have c15b0 := decide_eq_false c15
  clear c15
  (first | rw [c15b0] | (simp only [i64_w, i32_w]; rw [c15b0]) | skip)
  obtain rfl := Option.some.inj H
  go_wp2
  repeat (go_quiet (fail); try go_wp2)
  go_ret
  exact ⟨tq_3, th_⟩
 rw [if_pos c15] at H
 have c15b0 := decide_eq_true c15
 clear c15
 (first | rw [c15b0] | (simp only [i64_w, i32_w]; rw [c15b0]) | skip)
 obtain ⟨c16, H⟩ := fc_ H
 have c16b0 := decide_eq_true c16
 clear c16
 obtain ⟨c17, H⟩ := fc_ H
 have c17b0 := decide_eq_true c17
 clear c17
 have HC18 := Aside0.mk H
 clear H
 obtain ⟨Ao19, co19, eo19⟩ := Kd.R_slice HO_5.out
 subst eo19
 have p128 : 0 ≤ (x9_2 : Int) := of_decide_eq_true tq_1
 have q128 : x9_2 < (t120.length : Int) := of_decide_eq_true tq_1
 obtain ⟨ad128, e128, hx128_0⟩ := Kd.at_string (Kd.R_reads' HO_5.out).2.2 x9_2 p128 q128
 cases e128
 replace p128 := eq_true p128
 replace q128 := eq_true q128
 have p129 : 0 ≤ (x9_2 : Int) := of_decide_eq_true tq_1
 have q129 : x9_2 < (t124.length : Int) := of_decide_eq_true tq_1
 obtain ⟨ad129, e129, hx129_0⟩ := Kd.at_string (Kd.R_reads' HO_7.out).2.2 x9_2 p129 q129
 cases e129
 replace p129 := eq_true p129
 replace q129 := eq_true q129
 go_upto_if 47 with (fail)
 repeat (go_quiet (fail); go_upto_if 47 with (fail))
 (try clear hx128_0)
 (try clear hx129_0)
 have H := HC18.out
 clear HC18
 by_cases c20 : (rdOf ByteArray.empty t120 x9_2).toList = (rdOf ByteArray.empty t124 x9_2).toList
 rotate_left
 ·rw [if_neg c20] at H
  have c20b0 := beq_eq_false_iff_ne.mpr c20
  have c20b1 := bne_iff_ne.mpr c20
  (first | rw [c20b0] | (simp only [i64_w, i32_w]; rw [c20b0]) | skip)
  obtain rfl := Option.some.inj H
  go_wp2
  repeat (go_quiet (fail); try go_wp2)
  go_ret
  exact ⟨tq_3, th_⟩
 rw [if_pos c20] at H
 have c20b0 := beq_iff_eq.mpr c20
 have c20b1 := bne_eq_false_iff_eq.mpr c20
 clear c20
 (first | rw [c20b0] | (simp only [i64_w, i32_w]; rw [c20b0]) | skip)
 have H' := Aside0.mk H
 clear H
 go_wp2
 repeat (go_quiet (fail); try go_wp2)
 go_roundg k2
 case measure => have := HJ4.out; have := HK2.out; omega
 case rel => exact ⟨(wrap64 (x9_2 + 1)), tq_4, H', ⟨(by have := HJ4.out; have := HK2.out; omega)⟩, ⟨(raR_ HO_5)⟩, ⟨(raR_ HO_7)⟩, ⟨th_⟩⟩

end Go.Proofs.YtmddplifammohaaDoor.PFnExactMovedItems
