/- Contracts of Go functions, written by a program of ours over the print of the kit: each says that the call returns what the Lean function beside it computes. Conditions: as each theorem states them. -/
import Derived.Test.YtljnnmpfeningaaPkFnViews
import Derived.Test.YtljnnmpfeningaaPFnViewsx0
import Derived.Test.YtljnnmpfeningaaPFnViewsx2
import Derived.Test.YtljnnmpfeningaaPFnViewsx4
import Derived.Test.YtljnnmpfeningaaPFnViewsx13
namespace Go.Proofs.Ytljnnmpfeningaa.PFnViews
open Go.RowKit Go.Proofs.YtljnnmpfeningaaW.PrintWords Go.Proofs.YtljnnmpfeningaaW.PrintLast Go.Proofs.YtljnnmpfeningaaW.PrintMore
attribute [local go_sem] max2_int min2_int max_two min_two max_three min_three max_four min_four   -- for this text's walks alone
set_option linter.unusedVariables false
set_option linter.unusedSimpArgs false

/-! ### spec_l01Text: function 52 -/
mutual
def spec_l01Text.j0 : Nat → Int → List Int → Int → Int → Option (ByteArray × Int × Int)
 | 0, _, _, _, _ => none
 | k + 1, x1, x1000, x1001, x1002 => spec_l01Text.l0 k x1 (([] : List Int)) 0 x1000 x1001 x1002
def spec_l01Text.l0 : Nat → Int → List Int → Int → List Int → Int → Int → Option (ByteArray × Int × Int)
 | 0, _, _, _, _, _, _ => none
 | k + 1, x1, x5, x6, x1000, x1001, x1002 => if x6 < x1 then ((spec_l01Byte.f x1000 x1001 x1002).bind fun bt600 => (if x5.length < 140737488355328 then (spec_l01Text.l0 k x1 (x5 ++ [(bt600.1) % 256]) (wrap64 (x6 + 1)) x1000 bt600.2.1 bt600.2.2) else (none))) else (some (strOfNums x5, x1001, x1002))
end
def spec_l01Text.f (k : Nat) (s0_0 : List Int) (s0_1 : Int) (s0_2 : Int) (a1 : Int) : Option (ByteArray × Int × Int) := if a1 > 5000 then (spec_l01Text.j0 k 5000 s0_0 s0_1 s0_2) else (spec_l01Text.j0 k a1 s0_0 s0_1 s0_2)
theorem spec_l01Text.mono_l : ∀ k, (∀ y0 y1 y2 y3, LeO (spec_l01Text.j0 k y0 y1 y2 y3) (spec_l01Text.j0 (k + 1) y0 y1 y2 y3)) ∧ (∀ y0 y1 y2 y3 y4 y5, LeO (spec_l01Text.l0 k y0 y1 y2 y3 y4 y5) (spec_l01Text.l0 (k + 1) y0 y1 y2 y3 y4 y5))
 | 0 => ⟨fun _ _ _ _ r h => by simp [spec_l01Text.j0] at h, fun _ _ _ _ _ _ r h => by simp [spec_l01Text.l0] at h⟩
 | k + 1 => by
  obtain ⟨ih0, ih1⟩ := spec_l01Text.mono_l k
  refine ⟨?_, ?_⟩
  ·intro y0 y1 y2 y3
   unfold spec_l01Text.j0
   exact mo_1
  ·intro y0 y1 y2 y3 y4 y5
   unfold spec_l01Text.l0
   exact mo_1
theorem spec_l01Text.mono : ∀ a0 a1 a2 a3 k, LeO (spec_l01Text.f k a0 a1 a2 a3) (spec_l01Text.f (k + 1) a0 a1 a2 a3) := by
 intro a0 a1 a2 a3 k
 obtain ⟨ih0, ih1⟩ := spec_l01Text.mono_l k
 unfold spec_l01Text.f
 repeat' first
   | (with_reducible exact ih0 ..)
   | (with_reducible exact ih1 ..)
   | (with_reducible exact LeO.refl _)
   | (with_reducible exact LeO.none _)
   | (with_reducible refine LeO.ite ?_ ?_)
   | (with_reducible refine LeO.bind ?_ (fun _ => ?_))
   | exact ih0 ..
   | exact ih1 ..
   | exact LeO.none _
   | refine LeO.ite ?_ ?_
   | refine LeO.bind ?_ (fun _ => ?_)
set_option maxHeartbeats 8000000 in
set_option maxRecDepth 100000 in
theorem spec_l01Text.calls (k : Nat) (g : Nat) (s0_0 : List Int) (s0_1 : Int) (s0_2 : Int) (a1 : Int) (r1 : ByteArray) (r2 : Int) (r3 : Int) (w0 w : World) (hI : IsS105 w0 w g s0_0 s0_1 s0_2) (hB : Below w0.heap.size w0 w) (h : spec_l01Text.f k s0_0 s0_1 s0_2 a1 = some (r1, r2, r3)) :
  Calls Try.prog 52 #[.pointer (some ⟨g, 0, none⟩), .int .i64 a1] w fun e w' => e = .returned (.string r1) ∧ IsS105 w0 w' g s0_0 r2 r3 ∧ Below w0.heap.size w0 w' ∧ KeepBut w w' g none := by
 have HI0 := Aside0.mk hI
 have HK := Aside0.mk (KeepBut.refl w g none)
 have HL := Aside0.mk hB.size
 clear hI
 have HW0 := Aside0.mk hB.size
 have HB := Aside0.mk hB
 clear hB
 unfold spec_l01Text.f at h
 have H := h
 clear h
 have HC3 := Aside0.mk H
 clear H
 go_enter Try.func52, Try.ntmps52
 go_upto_if 8 with (fail)
 go_cut [1] (fun v1 wc => ∃ (kq : Nat) (x1_2 : Int), v1 = .int .i64 x1_2 ∧ Aside0 (spec_l01Text.j0 kq x1_2 s0_0 s0_1 s0_2 = some (r1, r2, r3)) ∧ Aside0 (kq ≤ k) ∧ Aside0 (IsS105 w0 wc g s0_0 s0_1 s0_2) ∧ Aside0 (KeepBut w wc g none) ∧ Aside0 (Below w0.heap.size w0 wc))
 case first =>
  have H := HC3.out
  clear HC3
  by_cases c4 : a1 > 5000
  rotate_left
  ·rw [if_neg c4] at H
   have c4b0 := decide_eq_false c4
   clear c4
   (first | rw [c4b0] | (simp only [i64_w, i32_w]; rw [c4b0]) | skip)
   have H' := Aside0.mk H
   clear H
   go_wp2
   go_meet
   case rel => exact ⟨_, (a1), tq_5, H', ⟨tq_38⟩, ⟨tq_4⟩, ⟨tq_2⟩, ⟨tq_12⟩⟩
  rw [if_pos c4] at H
  have c4b0 := decide_eq_true c4
  clear c4
  (first | rw [c4b0] | (simp only [i64_w, i32_w]; rw [c4b0]) | skip)
  have H' := Aside0.mk H
  clear H
  go_wp2
  go_meet
  case rel => exact ⟨_, (5000), tq_5, H', ⟨tq_38⟩, ⟨tq_4⟩, ⟨tq_2⟩, ⟨tq_12⟩⟩
 case rest =>
 clear HC3
 try clear p2; try clear c4; try clear c4b0
 obtain ⟨kq, x1_2, rfl, HA, HJ2, HI0, HK, HB⟩ := hcut
 cases kq with
 | zero => exact absurd HA.out (by simp [spec_l01Text.j0])
 | succ kj2 =>
 have H := HA.out
 clear HA
 simp only [spec_l01Text.j0] at H
 obtain ⟨y597, hy597⟩ : ∃ y_ : List Int, y_ = (([] : List Int)) := ⟨_, rfl⟩
 replace H : (spec_l01Text.l0 kj2 x1_2 y597 0 s0_0 s0_1 s0_2) = some (r1, r2, r3) := by first | (rw [hy597]; with_reducible exact H) | (have H2_ := (Option.bind_some _ _).symm.trans H; rw [hy597]; with_reducible exact H2_) | (have H2_ := (Option.bind_some _ _).symm.trans H; with_reducible exact H2_) | with_reducible exact H | (rw [hy597]; exact H) | exact H
 have Ny597 := Aside0.mk hy597
 clear hy597
 have H' := Aside0.mk H
 clear H
 go_wp2_with (first | ((with_reducible refine gate_dst (N := 9) rfl ?_); refine Kd.R_lit (Kd.int .u8) _ 5 ?hg (N := 9) ?hd (xs := ([] : List Int)) (inner := []) (ok := fun _ => True) (okp := fun _ => True) ?hr ?hp (fun _ hk => hk) trivial (Below.refl _ _) (Nat.le_refl _) (by simp) ?_; (case hd => rfl); (case hg => rfl); (case hr => first | (go_simp; done) | (go_simp; rfl)); (case hp => exact (Reps.none _ _)); intro v598 w5 ho6 hb hg_ hnew_; clear hg_ hnew_; (first | rw [← Ny597.out] at ho6 | (simp only [Int.reduceToNat] at ho6; rw [← Ny597.out] at ho6)); have z_ := p_ (Kd.R_lower ho6 (keep_size (w := w) (g := g) (row := none) tq_2)) <| p_ (IsS105.below tq_4 hb) <| p_ (KeepBut.trans tq_2 (KeepBut.of_below hb g none) (.inl rfl)) <| a_ (below_step tq_12 hb); clear HI0 HK HB; obtain ⟨HO599, HI0, HK, HB⟩ := z_; clear hb ho6))
 go_loopg [5, 6] kj2 (fun kq v5 v6 w' => ∃ (x5_2 : List Int) (x6_2 : Int) (x1001_2 : Int) (x1002_2 : Int), v6 = .int .i64 x6_2 ∧ Aside0 (spec_l01Text.l0 kq x1_2 x5_2 x6_2 s0_0 x1001_2 x1002_2 = some (r1, r2, r3)) ∧ Aside0 (kq ≤ kj2) ∧ Aside0 (Kd.R (Kd.int .u8) 5 w' w.heap.size (fun _ => True) v5 x5_2) ∧ Aside0 (IsS105 w0 w' g s0_0 x1001_2 x1002_2) ∧ Aside0 (KeepBut w w' g none) ∧ Aside0 (Below w0.heap.size w0 w'))
 case atStart => exact ⟨(y597), (0), (s0_1), (s0_2), tq_5, H', ⟨Nat.le_refl _⟩, ⟨(raR_ HO599)⟩, ⟨tq_4⟩, ⟨tq_2⟩, ⟨tq_12⟩⟩
 case round =>
 clear H'
 try clear p2; try clear c4; try clear c4b0; try clear c5; try clear p2
 obtain ⟨x5_2, x6_2, x1001_2, x1002_2, rfl, HA, HK2, HO_5, HI0, HK, HB⟩ := hrel
 cases gk with
 | zero => exact absurd HA.out (by simp [spec_l01Text.l0])
 | succ k2 =>
 have H := HA.out
 clear HA
 simp only [spec_l01Text.l0] at H
 by_cases c7 : x6_2 < x1_2
 rotate_left
 ·rw [if_neg c7] at H
  have c7b0 := decide_eq_false c7
  clear c7
  simp only [Option.some.injEq, Prod.mk.injEq] at H
  obtain ⟨rfl, rfl, rfl⟩ := H
  have hcv12 := own_string (P := Try.prog) Try.underlying38 Try.underlying5 Try.underlying9 (Kd.own_of_R HO_5.out)
  go_wp2
  go_ret
  exact ⟨tq_1, tq_4, tq_12, tq_2⟩
 rw [if_pos c7] at H
 have c7b0 := decide_eq_true c7
 clear c7
 obtain ⟨⟨t600, t601, t602⟩, A8, H⟩ := bd_ H
 try dsimp -simprocs only at H
 obtain ⟨c9, H⟩ := fc_ H
 have LMc9 := Aside0.mk c9
 clear c9
 obtain ⟨y603, hy603⟩ : ∃ y_ : List Int, y_ = (x5_2 ++ [(t600) % 256]) := ⟨_, rfl⟩
 replace H : (spec_l01Text.l0 k2 x1_2 y603 (wrap64 (x6_2 + 1)) s0_0 t601 t602) = some (r1, r2, r3) := by first | (rw [hy603]; with_reducible exact H) | (have H2_ := (Option.bind_some _ _).symm.trans H; rw [hy603]; with_reducible exact H2_) | (have H2_ := (Option.bind_some _ _).symm.trans H; with_reducible exact H2_) | with_reducible exact H | (rw [hy603]; exact H) | exact H
 have Ny603 := Aside0.mk hy603
 clear hy603
 have H' := Aside0.mk H
 clear H
 go_wp2_with (first | ((with_reducible refine gate_callee (f := 85) rfl ?_); refine goesL_ (some 17) rfl rfl Try.func85 (by kernel_rfl) rfl #[.pointer (some ⟨g, 0, none⟩)] rfl tq_0 ?_; (with_reducible refine (spec_l01Byte.calls g s0_0 x1001_2 x1002_2 t600 t601 t602 w0 _ ?side1 ?side2 A8.out).mono ?_); (case side1 => exact tq_19); (case side2 => exact tq_20); rintro e w10 ⟨rfl, hi, hb, hk⟩; refine ⟨_, rfl, ?_⟩; have z_ := p_ (Kd.R_mono (Kd.R_keep (IsS105.apart (show IsS105 w0 _ g s0_0 x1001_2 x1002_2 from tq_4) (raR_ HO_5) (by decide)) hk (fun _ h => h.2)) (fun _ h => h.1)) <| p_ (KeepBut.trans tq_2 hk (.inl rfl)) <| p_ (hb) <| a_ (hi); clear HO_5 HK HB HI0; obtain ⟨HO_5, HK, HB, HI0⟩ := z_; (try clear hb); (try clear hk); (try clear hi)) | ((with_reducible refine gate_builtin (b := .append) (xs := #[.tmp 15, .tmp 19]) rfl ?_); at_builtin; refine Kd.R_append (Kd.int .u8) w.heap.size rfl (.tmp 15) (.tmp 19) 38 5 (.int .u8 0) 1 rfl Try.underlying38 info5 rfl (by decide) (by omega) u5 x5_2 ((t600) % 256) [.int .u8 ((t600) % 256)] (fun _ => True) (fun _ => False) rfl rfl ?aP (fun _ hk => hk.elim) ?aF ?aO (Below.refl _ _) ?aS ?aL ?_; (case aP => exact rfl); (case aF => exact (fun _ _ => trivial)); (case aO => exact (raR_ HO_5)); (case aS => exact (keep_size (w := w) (g := g) (row := none) tq_2)); (case aL => have := LMc9.out; omega); intro v604 w11 ho hb hg hat; rw [← Ny603.out] at ho; have z_ := p_ (IsS105.grown tq_4 hg (IsS105.own_ne HI0.out HO_5.out (by decide))) <| p_ (below_weaken tq_12 HL.out hb) <| p_ (KeepBut.trans tq_2 (KeepBut.of_grown hg g) (Kd.R_base2 HO_5.out)) <| a_ (ho); clear HI0 HB HK HO_5; obtain ⟨HI0, HB, HK, HO605⟩ := z_; clear ho hb hg hat))
 go_roundg k2
 case measure => have := HJ2.out; have := HK2.out; omega
 case rel => exact ⟨(y603), (wrap64 (x6_2 + 1)), (t601), (t602), tq_5, H', ⟨(by have := HJ2.out; have := HK2.out; omega)⟩, ⟨(raR_ HO605)⟩, ⟨tq_4⟩, ⟨tq_2⟩, ⟨tq_12⟩⟩

/-! ### spec_l01PickInt: function 83 -/
def spec_l01PickInt.f (s0_0 : List Int) (s0_1 : Int) (s0_2 : Int) (l1 : List Int) : Option (Int × Int × Int) := (spec_l01Below.f s0_0 s0_1 s0_2 (l1.length : Int)).bind fun bt606 => (if 0 ≤ bt606.1 then (if bt606.1 < (l1.length : Int) then (some (rd l1 bt606.1, bt606.2.1, bt606.2.2)) else (none)) else (none))
set_option maxHeartbeats 8000000 in
set_option maxRecDepth 100000 in
theorem spec_l01PickInt.calls (g : Nat) (s0_0 : List Int) (s0_1 : Int) (s0_2 : Int) (A1 : Option Addr) (c1 : Nat) (l1 : List Int) (r1 : Int) (r2 : Int) (r3 : Int) (w0 w : World) (hI : IsS105 w0 w g s0_0 s0_1 s0_2) (hB : Below w0.heap.size w0 w) (hr1 : Kd.C (Kd.int .i64) w A1 l1.length l1) (hc1 : l1.length ≤ c1) (hf1 : ∀ ad, A1 = some ad → 0 < l1.length → ad.block ≠ g) (h : spec_l01PickInt.f s0_0 s0_1 s0_2 l1 = some (r1, r2, r3)) :
  Calls Try.prog 83 #[.pointer (some ⟨g, 0, none⟩), .slice A1 l1.length c1] w fun e w' => e = .returned (.int .i64 r1) ∧ IsS105 w0 w' g s0_0 r2 r3 ∧ Below w0.heap.size w0 w' ∧ KeepBut w w' g none := by
 have HR1 := Aside0.mk hr1
 have HC1 := Aside0.mk hc1
 clear hr1 hc1
 have HI0 := Aside0.mk hI
 have HK := Aside0.mk (KeepBut.refl w g none)
 have HL := Aside0.mk hB.size
 clear hI
 have HW0 := Aside0.mk hB.size
 have HB := Aside0.mk hB
 clear hB
 unfold spec_l01PickInt.f at h
 have H := h
 clear h
 obtain ⟨⟨t606, t607, t608⟩, A3, H⟩ := bd_ H
 try dsimp -simprocs only at H
 obtain ⟨c4, H⟩ := fc_ H
 have c4b0 := decide_eq_true c4
 clear c4
 obtain ⟨c5, H⟩ := fc_ H
 have c5b0 := decide_eq_true c5
 clear c5
 simp only [Option.some.injEq, Prod.mk.injEq] at H
 obtain ⟨rfl, rfl, rfl⟩ := H
 go_enter Try.func83, Try.ntmps83
 go_wp2_with (first | ((with_reducible refine gate_callee (f := 53) rfl ?_); refine goesL_ (some 9) rfl rfl Try.func53 (by kernel_rfl) rfl #[.pointer (some ⟨g, 0, none⟩), .int .i64 (l1.length : Int)] rfl tq_0 ?_; (with_reducible refine (spec_l01Below.calls g s0_0 s0_1 s0_2 (l1.length : Int) t606 t607 t608 w0 _ ?side1 ?side2 A3.out).mono ?_); (case side1 => exact tq_19); (case side2 => exact tq_20); rintro e w6 ⟨rfl, hi, hb, hk⟩; refine ⟨_, rfl, ?_⟩; have z_ := p_ (KeepBut.trans tq_2 hk (.inl rfl)) <| p_ (hb) <| a_ (hi); clear HK HB HI0; obtain ⟨HK, HB, HI0⟩ := z_; (try clear hb); (try clear hk); (try clear hi); have p609 : 0 ≤ (t606 : Int) := of_decide_eq_true tq_3; have q609 : t606 < (l1.length : Int) := of_decide_eq_true tq_3; obtain ⟨ad609, e609, hx609_0⟩ := Kd.at_int HR1.out t606 p609 q609; cases e609; replace hx609_0 := keep_cell HK.out hx609_0 (by first | (rw [add_block]; exact hf1 _ rfl (by omega)) | exact hf1 _ rfl (by omega) | exact hf1 ad609 rfl (by omega)); replace p609 := eq_true p609; replace q609 := eq_true q609))
 go_ret
 exact ⟨tq_1, tq_4, tq_12, tq_2⟩

/-! ### spec_l17Ask: function 108 -/
def spec_l17Ask.j0 : Nat → List Int → Int → Int → Int → ByteArray → ByteArray → Int → Int → ByteArray → Option (Int × ByteArray × ByteArray × Int × Int × ByteArray × Int × Int)
 | 0, _, _, _, _, _, _, _, _, _ => none
 | k + 1, x1000, x1001, x1002, x621000, x621001, x621002, x621003, x621004, x621005 => if x621000 = 5 then ((spec_l15Path.f x1000 x1001 x1002).bind fun bt627 => (some (x621000, x621001, bt627.1, x621003, x621004, x621005, bt627.2.1, bt627.2.2))) else (if x621000 = 6 then ((spec_l01PickInt.f x1000 x1001 x1002 (([0, 1, 5, 32, 100, 200] : List Int))).bind fun bt633 => ((spec_l01PickInt.f x1000 bt633.2.1 bt633.2.2 (([0, 1, 10, 40, 128, 1000] : List Int))).bind fun bt639 => (some (x621000, x621001, x621002, bt633.1, bt639.1, x621005, bt639.2.1, bt639.2.2)))) else (if x621000 = 7 then ((spec_l01PickInt.f x1000 x1001 x1002 (([0, 0, 0, 1, 5, 30, 32, 33, 64, 100] : List Int))).bind fun bt645 => ((spec_l01PickInt.f x1000 bt645.2.1 bt645.2.2 (([0, 1, 2, 5, 20, 32, 40] : List Int))).bind fun bt651 => ((spec_l01Text.f k x1000 bt651.2.1 bt651.2.2 bt651.1).bind fun bt654 => (some (x621000, x621001, x621002, bt645.1, x621004, bt654.1, bt654.2.1, bt654.2.2))))) else (if x621000 = 8 then ((spec_l01PickInt.f x1000 x1001 x1002 (([0, 1, 5, 31, 32, 33, 64, 70, 128, 129] : List Int))).bind fun bt660 => (some (x621000, x621001, x621002, x621003, bt660.1, x621005, bt660.2.1, bt660.2.2))) else (some (x621000, x621001, x621002, x621003, x621004, x621005, x1001, x1002)))))
def spec_l17Ask.f (k : Nat) (s0_0 : List Int) (s0_1 : Int) (s0_2 : Int) : Option (Int × ByteArray × ByteArray × Int × Int × ByteArray × Int × Int) := (spec_l01PickInt.f s0_0 s0_1 s0_2 (([1, 1, 1, 2, 2, 3, 4, 5, 5, 6, 7, 7, 7, 7, 7, 8, 8, 9, 10, 11] : List Int))).bind fun bt614 => ((spec_l15Path.f s0_0 bt614.2.1 bt614.2.2).bind fun bt617 => ((spec_l01Once.f s0_0 bt617.2.1 bt617.2.2 12).bind fun bt621 => (if bt621.1 = true then ((spec_l15Any.f s0_0 bt621.2.1 bt621.2.2).bind fun bt624 => (spec_l17Ask.j0 k s0_0 bt624.2.1 bt624.2.2 bt614.1 bt624.1 (⟨#[]⟩ : ByteArray) 0 0 (⟨#[]⟩ : ByteArray))) else (spec_l17Ask.j0 k s0_0 bt621.2.1 bt621.2.2 bt614.1 bt617.1 (⟨#[]⟩ : ByteArray) 0 0 (⟨#[]⟩ : ByteArray)))))
theorem spec_l17Ask.mono_l : ∀ k, (∀ y0 y1 y2 y3 y4 y5 y6 y7 y8, LeO (spec_l17Ask.j0 k y0 y1 y2 y3 y4 y5 y6 y7 y8) (spec_l17Ask.j0 (k + 1) y0 y1 y2 y3 y4 y5 y6 y7 y8))
 | 0 => fun _ _ _ _ _ _ _ _ _ r h => by simp [spec_l17Ask.j0] at h
 | k + 1 => by
  have ih0 := spec_l17Ask.mono_l k
  ·intro y0 y1 y2 y3 y4 y5 y6 y7 y8
   unfold spec_l17Ask.j0
   repeat' first
   | (with_reducible exact ih0 ..)
   | (with_reducible exact spec_l01Text.mono ..)
   | (with_reducible exact LeO.refl _)
   | (with_reducible exact LeO.none _)
   | (with_reducible refine LeO.ite ?_ ?_)
   | (with_reducible refine LeO.bind ?_ (fun _ => ?_))
   | exact ih0 ..
   | exact spec_l01Text.mono ..
   | exact LeO.none _
   | refine LeO.ite ?_ ?_
   | refine LeO.bind ?_ (fun _ => ?_)
theorem spec_l17Ask.mono : ∀ a0 a1 a2 k, LeO (spec_l17Ask.f k a0 a1 a2) (spec_l17Ask.f (k + 1) a0 a1 a2) := by
 intro a0 a1 a2 k
 have ih0 := spec_l17Ask.mono_l k
 unfold spec_l17Ask.f
 repeat' first
   | (with_reducible exact ih0 ..)
   | (with_reducible exact spec_l01Text.mono ..)
   | (with_reducible exact LeO.refl _)
   | (with_reducible exact LeO.none _)
   | (with_reducible refine LeO.ite ?_ ?_)
   | (with_reducible refine LeO.bind ?_ (fun _ => ?_))
   | exact ih0 ..
   | exact spec_l01Text.mono ..
   | exact LeO.none _
   | refine LeO.ite ?_ ?_
   | refine LeO.bind ?_ (fun _ => ?_)
set_option maxHeartbeats 8000000 in
set_option maxRecDepth 100000 in
theorem spec_l17Ask.calls (k : Nat) (g : Nat) (s0_0 : List Int) (s0_1 : Int) (s0_2 : Int) (r1 : Int) (r2 : ByteArray) (r3 : ByteArray) (r4 : Int) (r5 : Int) (r6 : ByteArray) (r7 : Int) (r8 : Int) (w0 w : World) (hI : IsS105 w0 w g s0_0 s0_1 s0_2) (hB : Below w0.heap.size w0 w) (h : spec_l17Ask.f k s0_0 s0_1 s0_2 = some (r1, r2, r3, r4, r5, r6, r7, r8)) :
  Calls Try.prog 108 #[.pointer (some ⟨g, 0, none⟩)] w fun e w' => e = .returned (.agg #[.int .i64 r1, .string r2, .string r3, .int .i64 r4, .int .i64 r5, .string r6]) ∧ IsS105 w0 w' g s0_0 r7 r8 ∧ Below w0.heap.size w0 w' ∧ KeepBut w w' g none := by
 have hu133 := Try.underlying133
 have HI0 := Aside0.mk hI
 have HK := Aside0.mk (KeepBut.refl w g none)
 have HL := Aside0.mk hB.size
 clear hI
 have HW0 := Aside0.mk hB.size
 have HB := Aside0.mk hB
 clear hB
 unfold spec_l17Ask.f at h
 have H := h
 clear h
 obtain ⟨y611, hy611⟩ : ∃ y_ : List Int, y_ = (([1, 1, 1, 2, 2, 3, 4, 5, 5, 6, 7, 7, 7, 7, 7, 8, 8, 9, 10, 11] : List Int)) := ⟨_, rfl⟩
 replace H : ((spec_l01PickInt.f s0_0 s0_1 s0_2 y611).bind fun bt614 => ((spec_l15Path.f s0_0 bt614.2.1 bt614.2.2).bind fun bt617 => ((spec_l01Once.f s0_0 bt617.2.1 bt617.2.2 12).bind fun bt621 => (if bt621.1 = true then ((spec_l15Any.f s0_0 bt621.2.1 bt621.2.2).bind fun bt624 => (spec_l17Ask.j0 k s0_0 bt624.2.1 bt624.2.2 bt614.1 bt624.1 (⟨#[]⟩ : ByteArray) 0 0 (⟨#[]⟩ : ByteArray))) else (spec_l17Ask.j0 k s0_0 bt621.2.1 bt621.2.2 bt614.1 bt617.1 (⟨#[]⟩ : ByteArray) 0 0 (⟨#[]⟩ : ByteArray)))))) = some (r1, r2, r3, r4, r5, r6, r7, r8) := by first | (rw [hy611]; with_reducible exact H) | (have H2_ := (Option.bind_some _ _).symm.trans H; rw [hy611]; with_reducible exact H2_) | (have H2_ := (Option.bind_some _ _).symm.trans H; with_reducible exact H2_) | with_reducible exact H | (rw [hy611]; exact H) | exact H
 have Ny611 := Aside0.mk hy611
 clear hy611
 obtain ⟨⟨t614, t615, t616⟩, A2, H⟩ := bd_ H
 try dsimp -simprocs only at H
 obtain ⟨⟨t617, t618, t619⟩, A3, H⟩ := bd_ H
 try dsimp -simprocs only at H
 obtain ⟨⟨t621, t622, t623⟩, A4, H⟩ := bd_ H
 try dsimp -simprocs only at H
 have HC5 := Aside0.mk H
 clear H
 go_enter Try.func108, Try.ntmps108
 go_upto_if 11 with (first | ((with_reducible refine gate_dst (N := 2) rfl ?_); refine be_ 2 (cs := #[.int .i64 0, .string (⟨#[]⟩ : ByteArray), .string (⟨#[]⟩ : ByteArray), .int .i64 0, .int .i64 0, .string (⟨#[]⟩ : ByteArray)]) 133 ?_; intro gb610 hg w6 hbox hb; have z_ := p_ (IsS105.below tq_4 hb) <| p_ (KeepBut.trans tq_2 (KeepBut.of_below hb g none) (.inl rfl)) <| p_ (below_step tq_12 hb) <| p_ (hbox) <| p_ ((by rw [hg]; exact (keep_size (w := w) (g := g) (row := none) tq_2) : w.heap.size ≤ gb610)) <| p_ ((Nat.le_trans HW0.out (by rw [hg]; exact (keep_size (w := w) (g := g) (row := none) tq_2) : w.heap.size ≤ gb610) : w0.heap.size ≤ gb610)) <| p_ ((by rw [hg]; exact Nat.ne_of_lt (IsS105.lt (show IsS105 w0 _ g s0_0 s0_1 s0_2 from tq_4)) : g ≠ gb610)) <| a_ ((by rw [hg]; exact Nat.ne_of_gt (IsS105.lt (show IsS105 w0 _ g s0_0 s0_1 s0_2 from tq_4)) : gb610 ≠ g)); clear HI0 HK HB; obtain ⟨HI0, HK, HB, BK610, GW610, GE610, NB0_610, NB610_0⟩ := z_; clear hb hbox hg) | ((with_reducible refine gate_dst (N := 5) rfl ?_); refine Kd.R_lit (Kd.int .i64) _ 3 ?hg (N := 5) ?hd (xs := ([1, 1, 1, 2, 2, 3, 4, 5, 5, 6, 7, 7, 7, 7, 7, 8, 8, 9, 10, 11] : List Int)) (inner := [.int .i64 1, .int .i64 1, .int .i64 1, .int .i64 2, .int .i64 2, .int .i64 3, .int .i64 4, .int .i64 5, .int .i64 5, .int .i64 6, .int .i64 7, .int .i64 7, .int .i64 7, .int .i64 7, .int .i64 7, .int .i64 8, .int .i64 8, .int .i64 9, .int .i64 10, .int .i64 11]) (ok := fun _ => True) (okp := fun _ => True) ?hr ?hp (fun _ hk => hk) trivial (Below.refl _ _) (Nat.le_refl _) (by simp) ?_; (case hd => rfl); (case hg => rfl); (case hr => first | (go_simp; done) | (go_simp; rfl)); (case hp => exact (Reps.one (show Kd.M (Kd.int .i64) _ _ _ 1 [.int .i64 1] from rfl) (Reps.one (show Kd.M (Kd.int .i64) _ _ _ 1 [.int .i64 1] from rfl) (Reps.one (show Kd.M (Kd.int .i64) _ _ _ 1 [.int .i64 1] from rfl) (Reps.one (show Kd.M (Kd.int .i64) _ _ _ 2 [.int .i64 2] from rfl) (Reps.one (show Kd.M (Kd.int .i64) _ _ _ 2 [.int .i64 2] from rfl) (Reps.one (show Kd.M (Kd.int .i64) _ _ _ 3 [.int .i64 3] from rfl) (Reps.one (show Kd.M (Kd.int .i64) _ _ _ 4 [.int .i64 4] from rfl) (Reps.one (show Kd.M (Kd.int .i64) _ _ _ 5 [.int .i64 5] from rfl) (Reps.one (show Kd.M (Kd.int .i64) _ _ _ 5 [.int .i64 5] from rfl) (Reps.one (show Kd.M (Kd.int .i64) _ _ _ 6 [.int .i64 6] from rfl) (Reps.one (show Kd.M (Kd.int .i64) _ _ _ 7 [.int .i64 7] from rfl) (Reps.one (show Kd.M (Kd.int .i64) _ _ _ 7 [.int .i64 7] from rfl) (Reps.one (show Kd.M (Kd.int .i64) _ _ _ 7 [.int .i64 7] from rfl) (Reps.one (show Kd.M (Kd.int .i64) _ _ _ 7 [.int .i64 7] from rfl) (Reps.one (show Kd.M (Kd.int .i64) _ _ _ 7 [.int .i64 7] from rfl) (Reps.one (show Kd.M (Kd.int .i64) _ _ _ 8 [.int .i64 8] from rfl) (Reps.one (show Kd.M (Kd.int .i64) _ _ _ 8 [.int .i64 8] from rfl) (Reps.one (show Kd.M (Kd.int .i64) _ _ _ 9 [.int .i64 9] from rfl) (Reps.one (show Kd.M (Kd.int .i64) _ _ _ 10 [.int .i64 10] from rfl) (Reps.one (show Kd.M (Kd.int .i64) _ _ _ 11 [.int .i64 11] from rfl) (Reps.none _ _)))))))))))))))))))))); intro v612 w7 ho8 hb hg_ hnew_; clear hg_ hnew_; (first | rw [← Ny611.out] at ho8 | (simp only [Int.reduceToNat] at ho8; rw [← Ny611.out] at ho8)); have z_ := p_ (Kd.R_lower ho8 (keep_size (w := w) (g := g) (row := none) tq_35)) <| p_ (IsS105.below tq_36 hb) <| p_ (blk_below (kb_ BK610) hb) <| p_ (KeepBut.trans tq_35 (KeepBut.of_below hb g none) (.inl rfl)) <| a_ (below_step tq_101 hb); clear HI0 BK610 HK HB; obtain ⟨HO613, HI0, BK610, HK, HB⟩ := z_; clear hb ho8; obtain ⟨Ao9, co9, eo9⟩ := Kd.R_slice HO613.out; subst eo9) | ((with_reducible refine gate_callee (f := 83) rfl ?_); refine goesL_ (some 6) rfl rfl Try.func83 (by kernel_rfl) rfl #[.pointer (some ⟨g, 0, none⟩), .slice Ao9 y611.length co9] rfl tq_0 ?_; (with_reducible refine (spec_l01PickInt.calls g s0_0 s0_1 s0_2 _ _ y611 t614 t615 t616 w0 _ ?side1 ?side2 ?side3 ?side4 ?side5 A2.out).mono ?_); (case side1 => exact tq_107); (case side2 => exact tq_108); (case side3 => repeat (first | exact (Kd.R_reads' HO613.out).2.2 | (with_reducible refine Kd.C_alloc ?_ _) | (with_reducible refine Kd.C_drewN ?_ _) | (with_reducible refine Kd.C_drew ?_))); (case side4 => exact (Kd.R_reads' HO613.out).2.1); (case side5 => exact far_slice (IsS105.own_ne HI0.out HO613.out (by decide))); rintro e w10 ⟨rfl, hi, hb, hk⟩; refine ⟨_, rfl, ?_⟩; have z_ := p_ (KeepBut.blk hk (g' := gb610) (o := .cells #[.int .i64 0, .string (⟨#[]⟩ : ByteArray), .string (⟨#[]⟩ : ByteArray), .int .i64 0, .int .i64 0, .string (⟨#[]⟩ : ByteArray)] 133 (0, 0)) (kb_ BK610) NB610_0.out (by simp)) <| p_ (Kd.R_mono (Kd.R_keep (IsS105.apart (show IsS105 w0 _ g s0_0 s0_1 s0_2 from tq_36) (raR_ HO613) (by decide)) hk (fun _ h => h.2)) (fun _ h => h.1)) <| p_ (KeepBut.trans tq_35 hk (.inl rfl)) <| p_ (hb) <| a_ (hi); clear BK610 HO613 HK HB HI0; obtain ⟨BK610, HO613, HK, HB, HI0⟩ := z_; (try clear hb); (try clear hk); (try clear hi)) | ((with_reducible refine gate_callee (f := 81) rfl ?_); refine goesL_ (some 8) rfl rfl Try.func81 (by kernel_rfl) rfl #[.pointer (some ⟨g, 0, none⟩)] rfl tq_0 ?_; (with_reducible refine (spec_l15Path.calls g s0_0 t615 t616 t617 t618 t619 w0 _ ?side1 ?side2 A3.out).mono ?_); (case side1 => exact tq_107); (case side2 => exact tq_108); rintro e w11 ⟨rfl, hi, hb, hk⟩; refine ⟨_, rfl, ?_⟩; have z_ := p_ (KeepBut.blk hk (g' := gb610) (o := .cells #[.int .i64 0, .string (⟨#[]⟩ : ByteArray), .string (⟨#[]⟩ : ByteArray), .int .i64 0, .int .i64 0, .string (⟨#[]⟩ : ByteArray)] 133 (0, 0)) (kb_ BK610) NB610_0.out (by simp)) <| p_ (Kd.R_mono (Kd.R_keep (IsS105.apart (show IsS105 w0 _ g s0_0 t615 t616 from tq_36) (raR_ HO613) (by decide)) hk (fun _ h => h.2)) (fun _ h => h.1)) <| p_ (KeepBut.trans tq_35 hk (.inl rfl)) <| p_ (hb) <| a_ (hi); clear BK610 HO613 HK HB HI0; obtain ⟨BK610, HO613, HK, HB, HI0⟩ := z_; (try clear hb); (try clear hk); (try clear hi)) | ((with_reducible refine gate_dst (N := 3) rfl ?_); refine be_ 3 (cs := #[.int .i64 0, .string (⟨#[]⟩ : ByteArray), .string (⟨#[]⟩ : ByteArray), .int .i64 0, .int .i64 0, .string (⟨#[]⟩ : ByteArray)]) 133 ?_; intro gb620 hg w12 hbox hb; have z_ := p_ (Kd.R_below (raR_ HO613) hb) <| p_ (IsS105.below tq_36 hb) <| p_ (blk_below (kb_ BK610) hb) <| p_ (KeepBut.trans tq_35 (KeepBut.of_below hb g none) (.inl rfl)) <| p_ (below_step tq_101 hb) <| p_ (hbox) <| p_ ((by rw [hg]; exact (keep_size (w := w) (g := g) (row := none) tq_35) : w.heap.size ≤ gb620)) <| p_ ((Nat.le_trans HW0.out (by rw [hg]; exact (keep_size (w := w) (g := g) (row := none) tq_35) : w.heap.size ≤ gb620) : w0.heap.size ≤ gb620)) <| p_ (ltne_ hg (blk_lt (kb_ BK610))) <| p_ (gtne_ hg (blk_lt (kb_ BK610))) <| p_ ((by rw [hg]; exact Nat.ne_of_lt (IsS105.lt (show IsS105 w0 _ g s0_0 t618 t619 from tq_36)) : g ≠ gb620)) <| a_ ((by rw [hg]; exact Nat.ne_of_gt (IsS105.lt (show IsS105 w0 _ g s0_0 t618 t619 from tq_36)) : gb620 ≠ g)); clear HO613 HI0 BK610 HK HB; obtain ⟨HO613, HI0, BK610, HK, HB, BK620, GW620, GE620, NB610_620, NB620_610, NB0_620, NB620_0⟩ := z_; clear hb hbox hg; obtain ⟨n620_610, n610_620, n620_0, n0_620⟩ := an4_ NB620_610 NB610_620 NB620_0 NB0_620; obtain ⟨hcz15_0, hcz15_1, hcz15_2, hcz15_3, hcz15_4, hcz15_5⟩ := bk6_ BK620.out; obtain ⟨hfz15_0, hfz15_1, hfz15_2, hfz15_3, hfz15_4, hfz15_5⟩ := bf6_ BK620.out) | ((with_reducible refine gate_callee (f := 51) rfl ?_); refine goesL_ (some 11) rfl rfl Try.func51 (by kernel_rfl) rfl #[.pointer (some ⟨g, 0, none⟩), .int .i64 12] rfl tq_0 ?_; (with_reducible refine (spec_l01Once.calls g s0_0 t618 t619 12 t621 t622 t623 w0 _ ?side1 ?side2 A4.out).mono ?_); (case side1 => exact tq_23); (case side2 => exact tq_24); rintro e w16 ⟨rfl, hi, hb, hk⟩; refine ⟨_, rfl, ?_⟩; have z_ := p_ (KeepBut.blk hk (g' := gb610) (o := .cells #[.int .i64 0, .string (⟨#[]⟩ : ByteArray), .string (⟨#[]⟩ : ByteArray), .int .i64 0, .int .i64 0, .string (⟨#[]⟩ : ByteArray)] 133 (0, 0)) (by (with_reducible repeat (first | refine blk_drewN ?_ _ | refine blk_drew ?_ | refine blk_alloc ?_ _)); refine blk_far ?_ NB610_620.out _; (with_reducible repeat (first | refine blk_drewN ?_ _ | refine blk_drew ?_ | refine blk_alloc ?_ _)); refine blk_far ?_ NB610_620.out _; (with_reducible repeat (first | refine blk_drewN ?_ _ | refine blk_drew ?_ | refine blk_alloc ?_ _)); refine blk_far ?_ NB610_620.out _; (with_reducible repeat (first | refine blk_drewN ?_ _ | refine blk_drew ?_ | refine blk_alloc ?_ _)); refine blk_far ?_ NB610_620.out _; (with_reducible repeat (first | refine blk_drewN ?_ _ | refine blk_drew ?_ | refine blk_alloc ?_ _)); refine blk_far ?_ NB610_620.out _; (with_reducible repeat (first | refine blk_drewN ?_ _ | refine blk_drew ?_ | refine blk_alloc ?_ _)); refine blk_far ?_ NB610_620.out _; (with_reducible repeat (first | refine blk_drewN ?_ _ | refine blk_drew ?_ | refine blk_alloc ?_ _)); exact BK610.out) NB610_0.out (by simp)) <| p_ (Kd.R_mono (Kd.R_keep (IsS105.apart (show IsS105 w0 _ g s0_0 t618 t619 from tq_6) (by (with_reducible repeat (first | apply Kd.R_alloc | apply Kd.R_drewN | apply Kd.R_drew)); exact (Kd.R_mono (rR_ (rR_ (rR_ (rR_ (rR_ (rR_ (Kd.R_types HO613.out BK620.out (by decide)))))))) (fun _ h_ => h_.1))) (by decide)) hk (fun _ h => h.2)) (fun _ h => h.1)) <| p_ (KeepBut.blk hk (g' := gb620) (o := .cells #[.int .i64 t614, .string t617, .string (⟨#[]⟩ : ByteArray), .int .i64 0, .int .i64 0, .string (⟨#[]⟩ : ByteArray)] 133 (0, 0)) (by (with_reducible repeat (first | refine blk_drewN ?_ _ | refine blk_drew ?_ | refine blk_alloc ?_ _)); refine blk_put (cs := #[.int .i64 t614, .string t617, .string (⟨#[]⟩ : ByteArray), .int .i64 0, .int .i64 0, .string (⟨#[]⟩ : ByteArray)]) ?_ 5 _ rfl; (with_reducible repeat (first | refine blk_drewN ?_ _ | refine blk_drew ?_ | refine blk_alloc ?_ _)); refine blk_put (cs := #[.int .i64 t614, .string t617, .string (⟨#[]⟩ : ByteArray), .int .i64 0, .int .i64 0, .string (⟨#[]⟩ : ByteArray)]) ?_ 4 _ rfl; (with_reducible repeat (first | refine blk_drewN ?_ _ | refine blk_drew ?_ | refine blk_alloc ?_ _)); refine blk_put (cs := #[.int .i64 t614, .string t617, .string (⟨#[]⟩ : ByteArray), .int .i64 0, .int .i64 0, .string (⟨#[]⟩ : ByteArray)]) ?_ 3 _ rfl; (with_reducible repeat (first | refine blk_drewN ?_ _ | refine blk_drew ?_ | refine blk_alloc ?_ _)); refine blk_put (cs := #[.int .i64 t614, .string t617, .string (⟨#[]⟩ : ByteArray), .int .i64 0, .int .i64 0, .string (⟨#[]⟩ : ByteArray)]) ?_ 2 _ rfl; (with_reducible repeat (first | refine blk_drewN ?_ _ | refine blk_drew ?_ | refine blk_alloc ?_ _)); refine blk_put (cs := #[.int .i64 t614, .string (⟨#[]⟩ : ByteArray), .string (⟨#[]⟩ : ByteArray), .int .i64 0, .int .i64 0, .string (⟨#[]⟩ : ByteArray)]) ?_ 1 _ rfl; (with_reducible repeat (first | refine blk_drewN ?_ _ | refine blk_drew ?_ | refine blk_alloc ?_ _)); refine blk_put (cs := #[.int .i64 0, .string (⟨#[]⟩ : ByteArray), .string (⟨#[]⟩ : ByteArray), .int .i64 0, .int .i64 0, .string (⟨#[]⟩ : ByteArray)]) ?_ 0 _ rfl; (with_reducible repeat (first | refine blk_drewN ?_ _ | refine blk_drew ?_ | refine blk_alloc ?_ _)); exact BK620.out) NB620_0.out (by simp)) <| p_ (KeepBut.trans tq_9 hk (.inl rfl)) <| p_ (hb) <| a_ (hi); clear BK610 HO613 BK620 HK HB HI0; obtain ⟨BK610, HO613, BK620, HK, HB, HI0⟩ := z_; (try clear hb); (try clear hk); (try clear hi)))
 (try simp only [Act.put, List.setIfInBounds_toArray, List.set_cons_zero, List.set_cons_succ])
 go_cut [] (fun wc => ∃ (kq : Nat) (x1001_4 : Int) (x1002_4 : Int) (x621001_4 : ByteArray), Aside0 (spec_l17Ask.j0 kq s0_0 x1001_4 x1002_4 t614 x621001_4 (⟨#[]⟩ : ByteArray) 0 0 (⟨#[]⟩ : ByteArray) = some (r1, r2, r3, r4, r5, r6, r7, r8)) ∧ Aside0 (kq ≤ k) ∧ Aside0 (wc.heap[gb610]? = some (.cells #[.int .i64 0, .string (⟨#[]⟩ : ByteArray), .string (⟨#[]⟩ : ByteArray), .int .i64 0, .int .i64 0, .string (⟨#[]⟩ : ByteArray)] 133 (0, 0))) ∧ Aside0 (wc.heap[gb620]? = some (.cells #[.int .i64 t614, .string x621001_4, .string (⟨#[]⟩ : ByteArray), .int .i64 0, .int .i64 0, .string (⟨#[]⟩ : ByteArray)] 133 (0, 0))) ∧ Aside0 (IsS105 w0 wc g s0_0 x1001_4 x1002_4) ∧ Aside0 (KeepBut w wc g none) ∧ Aside0 (Below w0.heap.size w0 wc))
 case first =>
  have H := HC5.out
  clear HC5
  by_cases c17 : t621 = true
  rotate_left
  ·replace c17 := Bool.eq_false_iff.mpr c17
   subst c17
   rw [if_neg nf_] at H
   have H' := Aside0.mk H
   clear H
   go_wp2
   go_meet
   case rel => exact ⟨_, (t622), (t623), (t617), H', ⟨tq_38⟩, ⟨(kb_ BK610)⟩, ⟨(kb_ BK620)⟩, ⟨tq_6⟩, ⟨tq_9⟩, ⟨tq_18⟩⟩
  subst c17
  rw [if_pos rfl] at H
  obtain ⟨⟨t624, t625, t626⟩, A18, H⟩ := bd_ H
  try dsimp -simprocs only at H
  have H' := Aside0.mk H
  clear H
  go_wp2_with (first | ((with_reducible refine gate_callee (f := 50) rfl ?_); refine goesL_ (some 13) rfl rfl Try.func50 (by kernel_rfl) rfl #[.pointer (some ⟨g, 0, none⟩)] rfl tq_0 ?_; (with_reducible refine (spec_l15Any.calls g s0_0 t622 t623 t624 t625 t626 w0 _ ?side1 ?side2 A18.out).mono ?_); (case side1 => exact tq_23); (case side2 => exact tq_24); rintro e w19 ⟨rfl, hi, hb, hk⟩; refine ⟨_, rfl, ?_⟩; have z_ := p_ (KeepBut.blk hk (g' := gb610) (o := .cells #[.int .i64 0, .string (⟨#[]⟩ : ByteArray), .string (⟨#[]⟩ : ByteArray), .int .i64 0, .int .i64 0, .string (⟨#[]⟩ : ByteArray)] 133 (0, 0)) (kb_ BK610) NB610_0.out (by simp)) <| p_ (Kd.R_mono (Kd.R_keep (IsS105.apart (show IsS105 w0 _ g s0_0 t622 t623 from tq_6) (raR_ HO613) (by decide)) hk (fun _ h => h.2)) (fun _ h => h.1)) <| p_ (KeepBut.blk hk (g' := gb620) (o := .cells #[.int .i64 t614, .string t617, .string (⟨#[]⟩ : ByteArray), .int .i64 0, .int .i64 0, .string (⟨#[]⟩ : ByteArray)] 133 (0, 0)) (kb_ BK620) NB620_0.out (by simp)) <| p_ (KeepBut.trans tq_9 hk (.inl rfl)) <| p_ (hb) <| a_ (hi); clear BK610 HO613 BK620 HK HB HI0; obtain ⟨BK610, HO613, BK620, HK, HB, HI0⟩ := z_; (try clear hb); (try clear hk); (try clear hi); obtain ⟨n620_610, n610_620, n620_0, n0_620⟩ := an4_ NB620_610 NB610_620 NB620_0 NB0_620; obtain ⟨hcz22_0, hcz22_1, hcz22_2, hcz22_3, hcz22_4, hcz22_5⟩ := bk6_ BK620.out; obtain ⟨hfz22_0, hfz22_1, hfz22_2, hfz22_3, hfz22_4, hfz22_5⟩ := bf6_ BK620.out))
  go_meet
  case rel => exact ⟨_, (t625), (t626), (t624), H', ⟨tq_38⟩, ⟨tb_⟩, ⟨tb_⟩, ⟨tq_6⟩, ⟨tq_9⟩, ⟨tq_18⟩⟩
 case rest =>
 clear HC5
 try clear c1; try clear c2; try clear p2; try clear c5; try clear c8; try clear c10; try clear c13; try clear c14; try clear c17; try clear c20; try clear c21; try clear hcz15_0 hcz15_1 hcz15_2 hcz15_3 hcz15_4 hcz15_5; try clear hcz22_0 hcz22_1 hcz22_2 hcz22_3 hcz22_4 hcz22_5; try clear hfz15_0 hfz15_1 hfz15_2 hfz15_3 hfz15_4 hfz15_5; try clear hfz22_0 hfz22_1 hfz22_2 hfz22_3 hfz22_4 hfz22_5
 obtain ⟨kq, x1001_4, x1002_4, x621001_4, HA, HJ4, BK610, BK620, HI0, HK, HB⟩ := hcut
 cases kq with
 | zero => exact absurd HA.out (by simp [spec_l17Ask.j0])
 | succ kj4 =>
 have H := HA.out
 clear HA
 simp only [spec_l17Ask.j0] at H
 have HC23 := Aside0.mk H
 clear H
 obtain ⟨hnb24, hnc24⟩ := an2_ NB620_610 NB610_620
 obtain ⟨hcz26_0, hcz26_1, hcz26_2, hcz26_3, hcz26_4, hcz26_5⟩ := bk6_ BK620.out
 obtain ⟨hfz26_0, hfz26_1, hfz26_2, hfz26_3, hfz26_4, hfz26_5⟩ := bf6_ BK620.out
 go_upto_if 17 with (fail)
 (try clear n0_620 n610_620 n620_0 n620_610)
 (try clear hcz15_0 hcz15_1 hcz15_2 hcz15_3 hcz15_4 hcz15_5)
 (try clear hcz26_0 hcz26_1 hcz26_2 hcz26_3 hcz26_4 hcz26_5)
 (try clear hfz15_0 hfz15_1 hfz15_2 hfz15_3 hfz15_4 hfz15_5)
 (try clear hfz26_0 hfz26_1 hfz26_2 hfz26_3 hfz26_4 hfz26_5)
 have H := HC23.out
 clear HC23
 by_cases c27 : t614 = 5
 ·rw [if_pos c27] at H
  have c27b0 := beq_iff_eq.mpr c27
  have c27b1 := bne_eq_false_iff_eq.mpr c27
  clear c27
  (first | rw [c27b0] | (simp only [i64_w, i32_w]; rw [c27b0]) | skip)
  obtain ⟨⟨t627, t628, t629⟩, A28, H⟩ := bd_ H
  try dsimp -simprocs only at H
  simp only [Option.some.injEq, Prod.mk.injEq] at H
  obtain ⟨rfl, rfl, rfl, rfl, rfl, rfl, rfl, rfl⟩ := H
  go_wp2_with (first | ((with_reducible refine gate_callee (f := 81) rfl ?_); refine goesL_ (some 20) rfl rfl Try.func81 (by kernel_rfl) rfl #[.pointer (some ⟨g, 0, none⟩)] rfl tq_0 ?_; (with_reducible refine (spec_l15Path.calls g s0_0 x1001_4 x1002_4 t627 t628 t629 w0 _ ?side1 ?side2 A28.out).mono ?_); (case side1 => exact tq_23); (case side2 => exact tq_24); rintro e w29 ⟨rfl, hi, hb, hk⟩; refine ⟨_, rfl, ?_⟩; have z_ := p_ (KeepBut.blk hk (g' := gb610) (o := .cells #[.int .i64 0, .string (⟨#[]⟩ : ByteArray), .string (⟨#[]⟩ : ByteArray), .int .i64 0, .int .i64 0, .string (⟨#[]⟩ : ByteArray)] 133 (0, 0)) (kb_ BK610) NB610_0.out (by simp)) <| p_ (KeepBut.blk hk (g' := gb620) (o := .cells #[.int .i64 t614, .string x621001_4, .string (⟨#[]⟩ : ByteArray), .int .i64 0, .int .i64 0, .string (⟨#[]⟩ : ByteArray)] 133 (0, 0)) (kb_ BK620) NB620_0.out (by simp)) <| p_ (KeepBut.trans tq_9 hk (.inl rfl)) <| p_ (hb) <| a_ (hi); clear BK610 BK620 HK HB HI0; obtain ⟨BK610, BK620, HK, HB, HI0⟩ := z_; (try clear hb); (try clear hk); (try clear hi); obtain ⟨n620_610, n610_620, n620_0, n0_620⟩ := an4_ NB620_610 NB610_620 NB620_0 NB0_620; obtain ⟨hcz32_0, hcz32_1, hcz32_2, hcz32_3, hcz32_4, hcz32_5⟩ := bk6_ BK620.out; obtain ⟨hfz32_0, hfz32_1, hfz32_2, hfz32_3, hfz32_4, hfz32_5⟩ := bf6_ BK620.out; obtain ⟨n610_0, n0_610⟩ := an2_ NB610_0 NB0_610; obtain ⟨hcz34_0, hcz34_1, hcz34_2, hcz34_3, hcz34_4, hcz34_5⟩ := bk6_ BK610.out; obtain ⟨hfz34_0, hfz34_1, hfz34_2, hfz34_3, hfz34_4, hfz34_5⟩ := bf6_ BK610.out))
  refine bodyPost_ret (results_cell_row rfl _ _ gb610 133 #[.int .i64 t614, .string x621001_4, .string t627, .int .i64 0, .int .i64 0, .string (⟨#[]⟩ : ByteArray)] (0, 0) _ rfl tb_ Try.underlying133 rfl (by kernel_rfl)) rfl ?_
  exact ⟨tq_1, tq_6, tq_18, tq_9⟩
 rw [if_neg c27] at H
 have c27b0 := beq_eq_false_iff_ne.mpr c27
 have c27b1 := bne_iff_ne.mpr c27
 (first | rw [c27b0] | (simp only [i64_w, i32_w]; rw [c27b0]) | skip)
 by_cases c35 : t614 = 6
 ·rw [if_pos c35] at H
  have c35b0 := beq_iff_eq.mpr c35
  have c35b1 := bne_eq_false_iff_eq.mpr c35
  clear c35
  obtain ⟨y630, hy630⟩ : ∃ y_ : List Int, y_ = (([0, 1, 5, 32, 100, 200] : List Int)) := ⟨_, rfl⟩
  replace H : ((spec_l01PickInt.f s0_0 x1001_4 x1002_4 y630).bind fun bt633 => ((spec_l01PickInt.f s0_0 bt633.2.1 bt633.2.2 (([0, 1, 10, 40, 128, 1000] : List Int))).bind fun bt639 => (some (t614, x621001_4, (⟨#[]⟩ : ByteArray), bt633.1, bt639.1, (⟨#[]⟩ : ByteArray), bt639.2.1, bt639.2.2)))) = some (r1, r2, r3, r4, r5, r6, r7, r8) := by first | (rw [hy630]; with_reducible exact H) | (have H2_ := (Option.bind_some _ _).symm.trans H; rw [hy630]; with_reducible exact H2_) | (have H2_ := (Option.bind_some _ _).symm.trans H; with_reducible exact H2_) | with_reducible exact H | (rw [hy630]; exact H) | exact H
  have Ny630 := Aside0.mk hy630
  clear hy630
  obtain ⟨⟨t633, t634, t635⟩, A36, H⟩ := bd_ H
  try dsimp -simprocs only at H
  obtain ⟨y636, hy636⟩ : ∃ y_ : List Int, y_ = (([0, 1, 10, 40, 128, 1000] : List Int)) := ⟨_, rfl⟩
  replace H : ((spec_l01PickInt.f s0_0 t634 t635 y636).bind fun bt639 => (some (t614, x621001_4, (⟨#[]⟩ : ByteArray), t633, bt639.1, (⟨#[]⟩ : ByteArray), bt639.2.1, bt639.2.2))) = some (r1, r2, r3, r4, r5, r6, r7, r8) := by first | (rw [hy636]; with_reducible exact H) | (have H2_ := (Option.bind_some _ _).symm.trans H; rw [hy636]; with_reducible exact H2_) | (have H2_ := (Option.bind_some _ _).symm.trans H; with_reducible exact H2_) | with_reducible exact H | (rw [hy636]; exact H) | exact H
  have Ny636 := Aside0.mk hy636
  clear hy636
  obtain ⟨⟨t639, t640, t641⟩, A37, H⟩ := bd_ H
  try dsimp -simprocs only at H
  simp only [Option.some.injEq, Prod.mk.injEq] at H
  obtain ⟨rfl, rfl, rfl, rfl, rfl, rfl, rfl, rfl⟩ := H
  go_wp2_with (first | ((with_reducible refine gate_dst (N := 25) rfl ?_); refine Kd.R_lit (Kd.int .i64) _ 3 ?hg (N := 25) ?hd (xs := ([0, 1, 5, 32, 100, 200] : List Int)) (inner := [.int .i64 0, .int .i64 1, .int .i64 5, .int .i64 32, .int .i64 100, .int .i64 200]) (ok := fun _ => True) (okp := fun _ => True) ?hr ?hp (fun _ hk => hk) trivial (Below.refl _ _) (Nat.le_refl _) (by simp) ?_; (case hd => rfl); (case hg => rfl); (case hr => first | (go_simp; done) | (go_simp; rfl)); (case hp => exact (Reps.one (show Kd.M (Kd.int .i64) _ _ _ 0 [.int .i64 0] from rfl) (Reps.one (show Kd.M (Kd.int .i64) _ _ _ 1 [.int .i64 1] from rfl) (Reps.one (show Kd.M (Kd.int .i64) _ _ _ 5 [.int .i64 5] from rfl) (Reps.one (show Kd.M (Kd.int .i64) _ _ _ 32 [.int .i64 32] from rfl) (Reps.one (show Kd.M (Kd.int .i64) _ _ _ 100 [.int .i64 100] from rfl) (Reps.one (show Kd.M (Kd.int .i64) _ _ _ 200 [.int .i64 200] from rfl) (Reps.none _ _)))))))); intro v631 w38 ho39 hb hg_ hnew_; clear hg_ hnew_; (first | rw [← Ny630.out] at ho39 | (simp only [Int.reduceToNat] at ho39; rw [← Ny630.out] at ho39)); have z_ := p_ (Kd.R_lower ho39 (keep_size (w := w) (g := g) (row := none) tq_9)) <| p_ (blk_below (kb_ BK610) hb) <| p_ (blk_below (kb_ BK620) hb) <| p_ (IsS105.below tq_6 hb) <| p_ (KeepBut.trans tq_9 (KeepBut.of_below hb g none) (.inl rfl)) <| a_ (below_step tq_18 hb); clear BK610 BK620 HI0 HK HB; obtain ⟨HO632, BK610, BK620, HI0, HK, HB⟩ := z_; clear hb ho39; obtain ⟨Ao40, co40, eo40⟩ := Kd.R_slice HO632.out; subst eo40) | ((with_reducible refine gate_callee (f := 83) rfl ?_); refine goesL_ (some 26) rfl rfl Try.func83 (by kernel_rfl) rfl #[.pointer (some ⟨g, 0, none⟩), .slice Ao40 y630.length co40] rfl tq_0 ?_; (with_reducible refine (spec_l01PickInt.calls g s0_0 x1001_4 x1002_4 _ _ y630 t633 t634 t635 w0 _ ?side1 ?side2 ?side3 ?side4 ?side5 A36.out).mono ?_); (case side1 => exact tq_23); (case side2 => exact tq_24); (case side3 => repeat (first | exact (Kd.R_reads' HO632.out).2.2 | (with_reducible refine Kd.C_alloc ?_ _) | (with_reducible refine Kd.C_drewN ?_ _) | (with_reducible refine Kd.C_drew ?_))); (case side4 => exact (Kd.R_reads' HO632.out).2.1); (case side5 => exact far_slice (IsS105.own_ne HI0.out HO632.out (by decide))); rintro e w41 ⟨rfl, hi, hb, hk⟩; refine ⟨_, rfl, ?_⟩; have z_ := p_ (KeepBut.blk hk (g' := gb610) (o := .cells #[.int .i64 0, .string (⟨#[]⟩ : ByteArray), .string (⟨#[]⟩ : ByteArray), .int .i64 0, .int .i64 0, .string (⟨#[]⟩ : ByteArray)] 133 (0, 0)) (kb_ BK610) NB610_0.out (by simp)) <| p_ (KeepBut.blk hk (g' := gb620) (o := .cells #[.int .i64 t614, .string x621001_4, .string (⟨#[]⟩ : ByteArray), .int .i64 0, .int .i64 0, .string (⟨#[]⟩ : ByteArray)] 133 (0, 0)) (kb_ BK620) NB620_0.out (by simp)) <| p_ (Kd.R_mono (Kd.R_keep (IsS105.apart (show IsS105 w0 _ g s0_0 x1001_4 x1002_4 from tq_6) (raR_ HO632) (by decide)) hk (fun _ h => h.2)) (fun _ h => h.1)) <| p_ (KeepBut.trans tq_9 hk (.inl rfl)) <| p_ (hb) <| a_ (hi); clear BK610 BK620 HO632 HK HB HI0; obtain ⟨BK610, BK620, HO632, HK, HB, HI0⟩ := z_; (try clear hb); (try clear hk); (try clear hi); obtain ⟨n620_610, n610_620, n620_0, n0_620⟩ := an4_ NB620_610 NB610_620 NB620_0 NB0_620; obtain ⟨hcz44_0, hcz44_1, hcz44_2, hcz44_3, hcz44_4, hcz44_5⟩ := bk6_ BK620.out; obtain ⟨hfz44_0, hfz44_1, hfz44_2, hfz44_3, hfz44_4, hfz44_5⟩ := bf6_ BK620.out) | ((with_reducible refine gate_dst (N := 29) rfl ?_); refine Kd.R_lit (Kd.int .i64) _ 3 ?hg (N := 29) ?hd (xs := ([0, 1, 10, 40, 128, 1000] : List Int)) (inner := [.int .i64 0, .int .i64 1, .int .i64 10, .int .i64 40, .int .i64 128, .int .i64 1000]) (ok := fun _ => True) (okp := fun _ => True) ?hr ?hp (fun _ hk => hk) trivial (Below.refl _ _) (Nat.le_refl _) (by simp) ?_; (case hd => rfl); (case hg => rfl); (case hr => first | (go_simp; done) | (go_simp; rfl)); (case hp => exact (Reps.one (show Kd.M (Kd.int .i64) _ _ _ 0 [.int .i64 0] from rfl) (Reps.one (show Kd.M (Kd.int .i64) _ _ _ 1 [.int .i64 1] from rfl) (Reps.one (show Kd.M (Kd.int .i64) _ _ _ 10 [.int .i64 10] from rfl) (Reps.one (show Kd.M (Kd.int .i64) _ _ _ 40 [.int .i64 40] from rfl) (Reps.one (show Kd.M (Kd.int .i64) _ _ _ 128 [.int .i64 128] from rfl) (Reps.one (show Kd.M (Kd.int .i64) _ _ _ 1000 [.int .i64 1000] from rfl) (Reps.none _ _)))))))); intro v637 w45 ho46 hb hg_ hnew_; clear hg_ hnew_; (first | rw [← Ny636.out] at ho46 | (simp only [Int.reduceToNat] at ho46; rw [← Ny636.out] at ho46)); have z_ := p_ (Kd.R_elder' tq_112 (Kd.R_base ho46) hb) <| p_ (Kd.R_lower (Kd.R_new' ho46 (Kd.R_lt tq_112)) (keep_size (w := w) (g := g) (row := none) tq_9)) <| p_ (blk_below (g := gb610) (o := .cells #[.int .i64 0, .string (⟨#[]⟩ : ByteArray), .string (⟨#[]⟩ : ByteArray), .int .i64 0, .int .i64 0, .string (⟨#[]⟩ : ByteArray)] 133 (0, 0)) tq_95 hb) <| p_ (blk_below (g := gb620) (o := .cells #[.int .i64 t614, .string x621001_4, .string (⟨#[]⟩ : ByteArray), .int .i64 t633, .int .i64 0, .string (⟨#[]⟩ : ByteArray)] 133 (0, 0)) tq_69 hb) <| p_ (IsS105.below (show IsS105 w0 (w41.setCell ⟨gb620, 3, none⟩ (.int .i64 t633)) g s0_0 t634 t635 from tq_6) hb) <| p_ (KeepBut.trans tq_9 (KeepBut.of_below hb g none) (.inl rfl)) <| a_ (below_step tq_18 hb); clear HO632 BK610 BK620 HI0 HK HB; obtain ⟨HO632, HO638, BK610, BK620, HI0, HK, HB⟩ := z_; clear hb ho46; obtain ⟨Ao47, co47, eo47⟩ := Kd.R_slice HO638.out; subst eo47) | ((with_reducible refine gate_callee (f := 83) rfl ?_); refine goesL_ (some 30) rfl rfl Try.func83 (by kernel_rfl) rfl #[.pointer (some ⟨g, 0, none⟩), .slice Ao47 y636.length co47] rfl tq_0 ?_; (with_reducible refine (spec_l01PickInt.calls g s0_0 t634 t635 _ _ y636 t639 t640 t641 w0 _ ?side1 ?side2 ?side3 ?side4 ?side5 A37.out).mono ?_); (case side1 => exact tq_23); (case side2 => exact tq_24); (case side3 => repeat (first | exact (Kd.R_reads' HO638.out).2.2 | (with_reducible refine Kd.C_alloc ?_ _) | (with_reducible refine Kd.C_drewN ?_ _) | (with_reducible refine Kd.C_drew ?_))); (case side4 => exact (Kd.R_reads' HO638.out).2.1); (case side5 => exact far_slice (IsS105.own_ne HI0.out HO638.out (by decide))); rintro e w48 ⟨rfl, hi, hb, hk⟩; refine ⟨_, rfl, ?_⟩; have z_ := p_ (KeepBut.blk hk (g' := gb610) (o := .cells #[.int .i64 0, .string (⟨#[]⟩ : ByteArray), .string (⟨#[]⟩ : ByteArray), .int .i64 0, .int .i64 0, .string (⟨#[]⟩ : ByteArray)] 133 (0, 0)) (kb_ BK610) NB610_0.out (by simp)) <| p_ (KeepBut.blk hk (g' := gb620) (o := .cells #[.int .i64 t614, .string x621001_4, .string (⟨#[]⟩ : ByteArray), .int .i64 t633, .int .i64 0, .string (⟨#[]⟩ : ByteArray)] 133 (0, 0)) (kb_ BK620) NB620_0.out (by simp)) <| p_ (Kd.R_mono (Kd.R_keep (IsS105.apart (show IsS105 w0 _ g s0_0 t634 t635 from tq_6) (raR_ HO632) (by decide)) hk (fun _ h => h.2)) (fun _ h => h.1)) <| p_ (Kd.R_mono (Kd.R_keep (IsS105.apart (show IsS105 w0 _ g s0_0 t634 t635 from tq_6) (raR_ HO638) (by decide)) hk (fun _ h => h.2)) (fun _ h => h.1)) <| p_ (KeepBut.trans tq_9 hk (.inl rfl)) <| p_ (hb) <| a_ (hi); clear BK610 BK620 HO632 HO638 HK HB HI0; obtain ⟨BK610, BK620, HO632, HO638, HK, HB, HI0⟩ := z_; (try clear hb); (try clear hk); (try clear hi); obtain ⟨hcz49_0, hcz49_1, hcz49_2, hcz49_3, hcz49_4, hcz49_5⟩ := bk6_ BK620.out; obtain ⟨hfz49_0, hfz49_1, hfz49_2, hfz49_3, hfz49_4, hfz49_5⟩ := bf6_ BK620.out; obtain ⟨n610_0, n0_610⟩ := an2_ NB610_0 NB0_610; obtain ⟨hcz51_0, hcz51_1, hcz51_2, hcz51_3, hcz51_4, hcz51_5⟩ := bk6_ BK610.out; obtain ⟨hfz51_0, hfz51_1, hfz51_2, hfz51_3, hfz51_4, hfz51_5⟩ := bf6_ BK610.out))
  refine bodyPost_ret (results_cell_row rfl _ _ gb610 133 #[.int .i64 t614, .string x621001_4, .string (⟨#[]⟩ : ByteArray), .int .i64 t633, .int .i64 t639, .string (⟨#[]⟩ : ByteArray)] (0, 0) _ rfl tb_ Try.underlying133 rfl (by kernel_rfl)) rfl ?_
  exact ⟨tq_1, tq_6, tq_18, tq_9⟩
 rw [if_neg c35] at H
 have c35b0 := beq_eq_false_iff_ne.mpr c35
 have c35b1 := bne_iff_ne.mpr c35
 by_cases c52 : t614 = 7
 rotate_left
 ·rw [if_neg c52] at H
  have c52b0 := beq_eq_false_iff_ne.mpr c52
  have c52b1 := bne_iff_ne.mpr c52
  by_cases c71 : t614 = 8
  rotate_left
  ·rw [if_neg c71] at H
   have c71b0 := beq_eq_false_iff_ne.mpr c71
   have c71b1 := bne_iff_ne.mpr c71
   simp only [Option.some.injEq, Prod.mk.injEq] at H
   obtain ⟨rfl, rfl, rfl, rfl, rfl, rfl, rfl, rfl⟩ := H
   obtain ⟨n620_610, n610_620, n620_0, n0_620⟩ := an4_ NB620_610 NB610_620 NB620_0 NB0_620
   obtain ⟨hcz84_0, hcz84_1, hcz84_2, hcz84_3, hcz84_4, hcz84_5⟩ := bk6_ BK620.out
   obtain ⟨hfz84_0, hfz84_1, hfz84_2, hfz84_3, hfz84_4, hfz84_5⟩ := bf6_ BK620.out
   obtain ⟨n610_0, n0_610⟩ := an2_ NB610_0 NB0_610
   obtain ⟨hcz86_0, hcz86_1, hcz86_2, hcz86_3, hcz86_4, hcz86_5⟩ := bk6_ BK610.out
   obtain ⟨hfz86_0, hfz86_1, hfz86_2, hfz86_3, hfz86_4, hfz86_5⟩ := bf6_ BK610.out
   go_wp2
   refine bodyPost_ret (results_cell_row rfl _ _ gb610 133 #[.int .i64 t614, .string x621001_4, .string (⟨#[]⟩ : ByteArray), .int .i64 0, .int .i64 0, .string (⟨#[]⟩ : ByteArray)] (0, 0) _ rfl tb_ Try.underlying133 rfl (by kernel_rfl)) rfl ?_
   exact ⟨tq_1, tq_6, tq_18, tq_9⟩
  rw [if_pos c71] at H
  have c71b0 := beq_iff_eq.mpr c71
  have c71b1 := bne_eq_false_iff_eq.mpr c71
  clear c71
  obtain ⟨y657, hy657⟩ : ∃ y_ : List Int, y_ = (([0, 1, 5, 31, 32, 33, 64, 70, 128, 129] : List Int)) := ⟨_, rfl⟩
  replace H : ((spec_l01PickInt.f s0_0 x1001_4 x1002_4 y657).bind fun bt660 => (some (t614, x621001_4, (⟨#[]⟩ : ByteArray), 0, bt660.1, (⟨#[]⟩ : ByteArray), bt660.2.1, bt660.2.2))) = some (r1, r2, r3, r4, r5, r6, r7, r8) := by first | (rw [hy657]; with_reducible exact H) | (have H2_ := (Option.bind_some _ _).symm.trans H; rw [hy657]; with_reducible exact H2_) | (have H2_ := (Option.bind_some _ _).symm.trans H; with_reducible exact H2_) | with_reducible exact H | (rw [hy657]; exact H) | exact H
  have Ny657 := Aside0.mk hy657
  clear hy657
  obtain ⟨⟨t660, t661, t662⟩, A72, H⟩ := bd_ H
  try dsimp -simprocs only at H
  simp only [Option.some.injEq, Prod.mk.injEq] at H
  obtain ⟨rfl, rfl, rfl, rfl, rfl, rfl, rfl, rfl⟩ := H
  go_wp2_with (first | ((with_reducible refine gate_dst (N := 47) rfl ?_); refine Kd.R_lit (Kd.int .i64) _ 3 ?hg (N := 47) ?hd (xs := ([0, 1, 5, 31, 32, 33, 64, 70, 128, 129] : List Int)) (inner := [.int .i64 0, .int .i64 1, .int .i64 5, .int .i64 31, .int .i64 32, .int .i64 33, .int .i64 64, .int .i64 70, .int .i64 128, .int .i64 129]) (ok := fun _ => True) (okp := fun _ => True) ?hr ?hp (fun _ hk => hk) trivial (Below.refl _ _) (Nat.le_refl _) (by simp) ?_; (case hd => rfl); (case hg => rfl); (case hr => first | (go_simp; done) | (go_simp; rfl)); (case hp => exact (Reps.one (show Kd.M (Kd.int .i64) _ _ _ 0 [.int .i64 0] from rfl) (Reps.one (show Kd.M (Kd.int .i64) _ _ _ 1 [.int .i64 1] from rfl) (Reps.one (show Kd.M (Kd.int .i64) _ _ _ 5 [.int .i64 5] from rfl) (Reps.one (show Kd.M (Kd.int .i64) _ _ _ 31 [.int .i64 31] from rfl) (Reps.one (show Kd.M (Kd.int .i64) _ _ _ 32 [.int .i64 32] from rfl) (Reps.one (show Kd.M (Kd.int .i64) _ _ _ 33 [.int .i64 33] from rfl) (Reps.one (show Kd.M (Kd.int .i64) _ _ _ 64 [.int .i64 64] from rfl) (Reps.one (show Kd.M (Kd.int .i64) _ _ _ 70 [.int .i64 70] from rfl) (Reps.one (show Kd.M (Kd.int .i64) _ _ _ 128 [.int .i64 128] from rfl) (Reps.one (show Kd.M (Kd.int .i64) _ _ _ 129 [.int .i64 129] from rfl) (Reps.none _ _)))))))))))); intro v658 w73 ho74 hb hg_ hnew_; clear hg_ hnew_; (first | rw [← Ny657.out] at ho74 | (simp only [Int.reduceToNat] at ho74; rw [← Ny657.out] at ho74)); have z_ := p_ (Kd.R_lower ho74 (keep_size (w := w) (g := g) (row := none) tq_9)) <| p_ (blk_below (kb_ BK610) hb) <| p_ (blk_below (kb_ BK620) hb) <| p_ (IsS105.below tq_6 hb) <| p_ (KeepBut.trans tq_9 (KeepBut.of_below hb g none) (.inl rfl)) <| a_ (below_step tq_18 hb); clear BK610 BK620 HI0 HK HB; obtain ⟨HO659, BK610, BK620, HI0, HK, HB⟩ := z_; clear hb ho74; obtain ⟨Ao75, co75, eo75⟩ := Kd.R_slice HO659.out; subst eo75) | ((with_reducible refine gate_callee (f := 83) rfl ?_); refine goesL_ (some 48) rfl rfl Try.func83 (by kernel_rfl) rfl #[.pointer (some ⟨g, 0, none⟩), .slice Ao75 y657.length co75] rfl tq_0 ?_; (with_reducible refine (spec_l01PickInt.calls g s0_0 x1001_4 x1002_4 _ _ y657 t660 t661 t662 w0 _ ?side1 ?side2 ?side3 ?side4 ?side5 A72.out).mono ?_); (case side1 => exact tq_23); (case side2 => exact tq_24); (case side3 => repeat (first | exact (Kd.R_reads' HO659.out).2.2 | (with_reducible refine Kd.C_alloc ?_ _) | (with_reducible refine Kd.C_drewN ?_ _) | (with_reducible refine Kd.C_drew ?_))); (case side4 => exact (Kd.R_reads' HO659.out).2.1); (case side5 => exact far_slice (IsS105.own_ne HI0.out HO659.out (by decide))); rintro e w76 ⟨rfl, hi, hb, hk⟩; refine ⟨_, rfl, ?_⟩; have z_ := p_ (KeepBut.blk hk (g' := gb610) (o := .cells #[.int .i64 0, .string (⟨#[]⟩ : ByteArray), .string (⟨#[]⟩ : ByteArray), .int .i64 0, .int .i64 0, .string (⟨#[]⟩ : ByteArray)] 133 (0, 0)) (kb_ BK610) NB610_0.out (by simp)) <| p_ (KeepBut.blk hk (g' := gb620) (o := .cells #[.int .i64 t614, .string x621001_4, .string (⟨#[]⟩ : ByteArray), .int .i64 0, .int .i64 0, .string (⟨#[]⟩ : ByteArray)] 133 (0, 0)) (kb_ BK620) NB620_0.out (by simp)) <| p_ (Kd.R_mono (Kd.R_keep (IsS105.apart (show IsS105 w0 _ g s0_0 x1001_4 x1002_4 from tq_6) (raR_ HO659) (by decide)) hk (fun _ h => h.2)) (fun _ h => h.1)) <| p_ (KeepBut.trans tq_9 hk (.inl rfl)) <| p_ (hb) <| a_ (hi); clear BK610 BK620 HO659 HK HB HI0; obtain ⟨BK610, BK620, HO659, HK, HB, HI0⟩ := z_; (try clear hb); (try clear hk); (try clear hi); obtain ⟨n620_610, n610_620, n620_0, n0_620⟩ := an4_ NB620_610 NB610_620 NB620_0 NB0_620; obtain ⟨hcz79_0, hcz79_1, hcz79_2, hcz79_3, hcz79_4, hcz79_5⟩ := bk6_ BK620.out; obtain ⟨hfz79_0, hfz79_1, hfz79_2, hfz79_3, hfz79_4, hfz79_5⟩ := bf6_ BK620.out; obtain ⟨n610_0, n0_610⟩ := an2_ NB610_0 NB0_610; obtain ⟨hcz81_0, hcz81_1, hcz81_2, hcz81_3, hcz81_4, hcz81_5⟩ := bk6_ BK610.out; obtain ⟨hfz81_0, hfz81_1, hfz81_2, hfz81_3, hfz81_4, hfz81_5⟩ := bf6_ BK610.out))
  refine bodyPost_ret (results_cell_row rfl _ _ gb610 133 #[.int .i64 t614, .string x621001_4, .string (⟨#[]⟩ : ByteArray), .int .i64 0, .int .i64 t660, .string (⟨#[]⟩ : ByteArray)] (0, 0) _ rfl tb_ Try.underlying133 rfl (by kernel_rfl)) rfl ?_
  exact ⟨tq_1, tq_6, tq_18, tq_9⟩
 rw [if_pos c52] at H
 have c52b0 := beq_iff_eq.mpr c52
 have c52b1 := bne_eq_false_iff_eq.mpr c52
 clear c52
 obtain ⟨y642, hy642⟩ : ∃ y_ : List Int, y_ = (([0, 0, 0, 1, 5, 30, 32, 33, 64, 100] : List Int)) := ⟨_, rfl⟩
 replace H : ((spec_l01PickInt.f s0_0 x1001_4 x1002_4 y642).bind fun bt645 => ((spec_l01PickInt.f s0_0 bt645.2.1 bt645.2.2 (([0, 1, 2, 5, 20, 32, 40] : List Int))).bind fun bt651 => ((spec_l01Text.f kj4 s0_0 bt651.2.1 bt651.2.2 bt651.1).bind fun bt654 => (some (t614, x621001_4, (⟨#[]⟩ : ByteArray), bt645.1, 0, bt654.1, bt654.2.1, bt654.2.2))))) = some (r1, r2, r3, r4, r5, r6, r7, r8) := by first | (rw [hy642]; with_reducible exact H) | (have H2_ := (Option.bind_some _ _).symm.trans H; rw [hy642]; with_reducible exact H2_) | (have H2_ := (Option.bind_some _ _).symm.trans H; with_reducible exact H2_) | with_reducible exact H | (rw [hy642]; exact H) | exact H
 have Ny642 := Aside0.mk hy642
 clear hy642
 obtain ⟨⟨t645, t646, t647⟩, A53, H⟩ := bd_ H
 try dsimp -simprocs only at H
 obtain ⟨y648, hy648⟩ : ∃ y_ : List Int, y_ = (([0, 1, 2, 5, 20, 32, 40] : List Int)) := ⟨_, rfl⟩
 replace H : ((spec_l01PickInt.f s0_0 t646 t647 y648).bind fun bt651 => ((spec_l01Text.f kj4 s0_0 bt651.2.1 bt651.2.2 bt651.1).bind fun bt654 => (some (t614, x621001_4, (⟨#[]⟩ : ByteArray), t645, 0, bt654.1, bt654.2.1, bt654.2.2)))) = some (r1, r2, r3, r4, r5, r6, r7, r8) := by first | (rw [hy648]; with_reducible exact H) | (have H2_ := (Option.bind_some _ _).symm.trans H; rw [hy648]; with_reducible exact H2_) | (have H2_ := (Option.bind_some _ _).symm.trans H; with_reducible exact H2_) | with_reducible exact H | (rw [hy648]; exact H) | exact H
 have Ny648 := Aside0.mk hy648
 clear hy648
 obtain ⟨⟨t651, t652, t653⟩, A54, H⟩ := bd_ H
 try dsimp -simprocs only at H
 obtain ⟨⟨t654, t655, t656⟩, A55, H⟩ := bd_ H
 try dsimp -simprocs only at H
 simp only [Option.some.injEq, Prod.mk.injEq] at H
 obtain ⟨rfl, rfl, rfl, rfl, rfl, rfl, rfl, rfl⟩ := H
 go_wp2_with (first | ((with_reducible refine gate_dst (N := 35) rfl ?_); refine Kd.R_lit (Kd.int .i64) _ 3 ?hg (N := 35) ?hd (xs := ([0, 0, 0, 1, 5, 30, 32, 33, 64, 100] : List Int)) (inner := [.int .i64 0, .int .i64 0, .int .i64 0, .int .i64 1, .int .i64 5, .int .i64 30, .int .i64 32, .int .i64 33, .int .i64 64, .int .i64 100]) (ok := fun _ => True) (okp := fun _ => True) ?hr ?hp (fun _ hk => hk) trivial (Below.refl _ _) (Nat.le_refl _) (by simp) ?_; (case hd => rfl); (case hg => rfl); (case hr => first | (go_simp; done) | (go_simp; rfl)); (case hp => exact (Reps.one (show Kd.M (Kd.int .i64) _ _ _ 0 [.int .i64 0] from rfl) (Reps.one (show Kd.M (Kd.int .i64) _ _ _ 0 [.int .i64 0] from rfl) (Reps.one (show Kd.M (Kd.int .i64) _ _ _ 0 [.int .i64 0] from rfl) (Reps.one (show Kd.M (Kd.int .i64) _ _ _ 1 [.int .i64 1] from rfl) (Reps.one (show Kd.M (Kd.int .i64) _ _ _ 5 [.int .i64 5] from rfl) (Reps.one (show Kd.M (Kd.int .i64) _ _ _ 30 [.int .i64 30] from rfl) (Reps.one (show Kd.M (Kd.int .i64) _ _ _ 32 [.int .i64 32] from rfl) (Reps.one (show Kd.M (Kd.int .i64) _ _ _ 33 [.int .i64 33] from rfl) (Reps.one (show Kd.M (Kd.int .i64) _ _ _ 64 [.int .i64 64] from rfl) (Reps.one (show Kd.M (Kd.int .i64) _ _ _ 100 [.int .i64 100] from rfl) (Reps.none _ _)))))))))))); intro v643 w56 ho57 hb hg_ hnew_; clear hg_ hnew_; (first | rw [← Ny642.out] at ho57 | (simp only [Int.reduceToNat] at ho57; rw [← Ny642.out] at ho57)); have z_ := p_ (Kd.R_lower ho57 (keep_size (w := w) (g := g) (row := none) tq_9)) <| p_ (blk_below (kb_ BK610) hb) <| p_ (blk_below (kb_ BK620) hb) <| p_ (IsS105.below tq_6 hb) <| p_ (KeepBut.trans tq_9 (KeepBut.of_below hb g none) (.inl rfl)) <| a_ (below_step tq_18 hb); clear BK610 BK620 HI0 HK HB; obtain ⟨HO644, BK610, BK620, HI0, HK, HB⟩ := z_; clear hb ho57; obtain ⟨Ao58, co58, eo58⟩ := Kd.R_slice HO644.out; subst eo58) | ((with_reducible refine gate_callee (f := 83) rfl ?_); refine goesL_ (some 36) rfl rfl Try.func83 (by kernel_rfl) rfl #[.pointer (some ⟨g, 0, none⟩), .slice Ao58 y642.length co58] rfl tq_0 ?_; (with_reducible refine (spec_l01PickInt.calls g s0_0 x1001_4 x1002_4 _ _ y642 t645 t646 t647 w0 _ ?side1 ?side2 ?side3 ?side4 ?side5 A53.out).mono ?_); (case side1 => exact tq_23); (case side2 => exact tq_24); (case side3 => repeat (first | exact (Kd.R_reads' HO644.out).2.2 | (with_reducible refine Kd.C_alloc ?_ _) | (with_reducible refine Kd.C_drewN ?_ _) | (with_reducible refine Kd.C_drew ?_))); (case side4 => exact (Kd.R_reads' HO644.out).2.1); (case side5 => exact far_slice (IsS105.own_ne HI0.out HO644.out (by decide))); rintro e w59 ⟨rfl, hi, hb, hk⟩; refine ⟨_, rfl, ?_⟩; have z_ := p_ (KeepBut.blk hk (g' := gb610) (o := .cells #[.int .i64 0, .string (⟨#[]⟩ : ByteArray), .string (⟨#[]⟩ : ByteArray), .int .i64 0, .int .i64 0, .string (⟨#[]⟩ : ByteArray)] 133 (0, 0)) (kb_ BK610) NB610_0.out (by simp)) <| p_ (KeepBut.blk hk (g' := gb620) (o := .cells #[.int .i64 t614, .string x621001_4, .string (⟨#[]⟩ : ByteArray), .int .i64 0, .int .i64 0, .string (⟨#[]⟩ : ByteArray)] 133 (0, 0)) (kb_ BK620) NB620_0.out (by simp)) <| p_ (Kd.R_mono (Kd.R_keep (IsS105.apart (show IsS105 w0 _ g s0_0 x1001_4 x1002_4 from tq_6) (raR_ HO644) (by decide)) hk (fun _ h => h.2)) (fun _ h => h.1)) <| p_ (KeepBut.trans tq_9 hk (.inl rfl)) <| p_ (hb) <| a_ (hi); clear BK610 BK620 HO644 HK HB HI0; obtain ⟨BK610, BK620, HO644, HK, HB, HI0⟩ := z_; (try clear hb); (try clear hk); (try clear hi); obtain ⟨n620_610, n610_620, n620_0, n0_620⟩ := an4_ NB620_610 NB610_620 NB620_0 NB0_620; obtain ⟨hcz62_0, hcz62_1, hcz62_2, hcz62_3, hcz62_4, hcz62_5⟩ := bk6_ BK620.out; obtain ⟨hfz62_0, hfz62_1, hfz62_2, hfz62_3, hfz62_4, hfz62_5⟩ := bf6_ BK620.out) | ((with_reducible refine gate_dst (N := 40) rfl ?_); refine Kd.R_lit (Kd.int .i64) _ 3 ?hg (N := 40) ?hd (xs := ([0, 1, 2, 5, 20, 32, 40] : List Int)) (inner := [.int .i64 0, .int .i64 1, .int .i64 2, .int .i64 5, .int .i64 20, .int .i64 32, .int .i64 40]) (ok := fun _ => True) (okp := fun _ => True) ?hr ?hp (fun _ hk => hk) trivial (Below.refl _ _) (Nat.le_refl _) (by simp) ?_; (case hd => rfl); (case hg => rfl); (case hr => first | (go_simp; done) | (go_simp; rfl)); (case hp => exact (Reps.one (show Kd.M (Kd.int .i64) _ _ _ 0 [.int .i64 0] from rfl) (Reps.one (show Kd.M (Kd.int .i64) _ _ _ 1 [.int .i64 1] from rfl) (Reps.one (show Kd.M (Kd.int .i64) _ _ _ 2 [.int .i64 2] from rfl) (Reps.one (show Kd.M (Kd.int .i64) _ _ _ 5 [.int .i64 5] from rfl) (Reps.one (show Kd.M (Kd.int .i64) _ _ _ 20 [.int .i64 20] from rfl) (Reps.one (show Kd.M (Kd.int .i64) _ _ _ 32 [.int .i64 32] from rfl) (Reps.one (show Kd.M (Kd.int .i64) _ _ _ 40 [.int .i64 40] from rfl) (Reps.none _ _))))))))); intro v649 w63 ho64 hb hg_ hnew_; clear hg_ hnew_; (first | rw [← Ny648.out] at ho64 | (simp only [Int.reduceToNat] at ho64; rw [← Ny648.out] at ho64)); have z_ := p_ (Kd.R_elder' tq_111 (Kd.R_base ho64) hb) <| p_ (Kd.R_lower (Kd.R_new' ho64 (Kd.R_lt tq_111)) (keep_size (w := w) (g := g) (row := none) tq_9)) <| p_ (blk_below (g := gb610) (o := .cells #[.int .i64 0, .string (⟨#[]⟩ : ByteArray), .string (⟨#[]⟩ : ByteArray), .int .i64 0, .int .i64 0, .string (⟨#[]⟩ : ByteArray)] 133 (0, 0)) tq_95 hb) <| p_ (blk_below (g := gb620) (o := .cells #[.int .i64 t614, .string x621001_4, .string (⟨#[]⟩ : ByteArray), .int .i64 t645, .int .i64 0, .string (⟨#[]⟩ : ByteArray)] 133 (0, 0)) tq_69 hb) <| p_ (IsS105.below (show IsS105 w0 (w59.setCell ⟨gb620, 3, none⟩ (.int .i64 t645)) g s0_0 t646 t647 from tq_6) hb) <| p_ (KeepBut.trans tq_9 (KeepBut.of_below hb g none) (.inl rfl)) <| a_ (below_step tq_18 hb); clear HO644 BK610 BK620 HI0 HK HB; obtain ⟨HO644, HO650, BK610, BK620, HI0, HK, HB⟩ := z_; clear hb ho64; obtain ⟨Ao65, co65, eo65⟩ := Kd.R_slice HO650.out; subst eo65) | ((with_reducible refine gate_callee (f := 83) rfl ?_); refine goesL_ (some 41) rfl rfl Try.func83 (by kernel_rfl) rfl #[.pointer (some ⟨g, 0, none⟩), .slice Ao65 y648.length co65] rfl tq_0 ?_; (with_reducible refine (spec_l01PickInt.calls g s0_0 t646 t647 _ _ y648 t651 t652 t653 w0 _ ?side1 ?side2 ?side3 ?side4 ?side5 A54.out).mono ?_); (case side1 => exact tq_23); (case side2 => exact tq_24); (case side3 => repeat (first | exact (Kd.R_reads' HO650.out).2.2 | (with_reducible refine Kd.C_alloc ?_ _) | (with_reducible refine Kd.C_drewN ?_ _) | (with_reducible refine Kd.C_drew ?_))); (case side4 => exact (Kd.R_reads' HO650.out).2.1); (case side5 => exact far_slice (IsS105.own_ne HI0.out HO650.out (by decide))); rintro e w66 ⟨rfl, hi, hb, hk⟩; refine ⟨_, rfl, ?_⟩; have z_ := p_ (KeepBut.blk hk (g' := gb610) (o := .cells #[.int .i64 0, .string (⟨#[]⟩ : ByteArray), .string (⟨#[]⟩ : ByteArray), .int .i64 0, .int .i64 0, .string (⟨#[]⟩ : ByteArray)] 133 (0, 0)) (kb_ BK610) NB610_0.out (by simp)) <| p_ (KeepBut.blk hk (g' := gb620) (o := .cells #[.int .i64 t614, .string x621001_4, .string (⟨#[]⟩ : ByteArray), .int .i64 t645, .int .i64 0, .string (⟨#[]⟩ : ByteArray)] 133 (0, 0)) (kb_ BK620) NB620_0.out (by simp)) <| p_ (Kd.R_mono (Kd.R_keep (IsS105.apart (show IsS105 w0 _ g s0_0 t646 t647 from tq_6) (raR_ HO644) (by decide)) hk (fun _ h => h.2)) (fun _ h => h.1)) <| p_ (Kd.R_mono (Kd.R_keep (IsS105.apart (show IsS105 w0 _ g s0_0 t646 t647 from tq_6) (raR_ HO650) (by decide)) hk (fun _ h => h.2)) (fun _ h => h.1)) <| p_ (KeepBut.trans tq_9 hk (.inl rfl)) <| p_ (hb) <| a_ (hi); clear BK610 BK620 HO644 HO650 HK HB HI0; obtain ⟨BK610, BK620, HO644, HO650, HK, HB, HI0⟩ := z_; (try clear hb); (try clear hk); (try clear hi)) | ((with_reducible refine gate_callee (f := 52) rfl ?_); refine goesL_ (some 42) rfl rfl Try.func52 (by kernel_rfl) rfl #[.pointer (some ⟨g, 0, none⟩), .int .i64 t651] rfl tq_0 ?_; (with_reducible refine (spec_l01Text.calls kj4 g s0_0 t652 t653 t651 t654 t655 t656 w0 _ ?side1 ?side2 A55.out).mono ?_); (case side1 => exact tq_23); (case side2 => exact tq_24); rintro e w67 ⟨rfl, hi, hb, hk⟩; refine ⟨_, rfl, ?_⟩; have z_ := p_ (KeepBut.blk hk (g' := gb610) (o := .cells #[.int .i64 0, .string (⟨#[]⟩ : ByteArray), .string (⟨#[]⟩ : ByteArray), .int .i64 0, .int .i64 0, .string (⟨#[]⟩ : ByteArray)] 133 (0, 0)) (kb_ BK610) NB610_0.out (by simp)) <| p_ (KeepBut.blk hk (g' := gb620) (o := .cells #[.int .i64 t614, .string x621001_4, .string (⟨#[]⟩ : ByteArray), .int .i64 t645, .int .i64 0, .string (⟨#[]⟩ : ByteArray)] 133 (0, 0)) (kb_ BK620) NB620_0.out (by simp)) <| p_ (Kd.R_mono (Kd.R_keep (IsS105.apart (show IsS105 w0 _ g s0_0 t652 t653 from tq_6) (raR_ HO644) (by decide)) hk (fun _ h => h.2)) (fun _ h => h.1)) <| p_ (Kd.R_mono (Kd.R_keep (IsS105.apart (show IsS105 w0 _ g s0_0 t652 t653 from tq_6) (raR_ HO650) (by decide)) hk (fun _ h => h.2)) (fun _ h => h.1)) <| p_ (KeepBut.trans tq_9 hk (.inl rfl)) <| p_ (hb) <| a_ (hi); clear BK610 BK620 HO644 HO650 HK HB HI0; obtain ⟨BK610, BK620, HO644, HO650, HK, HB, HI0⟩ := z_; (try clear hb); (try clear hk); (try clear hi); obtain ⟨hcz68_0, hcz68_1, hcz68_2, hcz68_3, hcz68_4, hcz68_5⟩ := bk6_ BK620.out; obtain ⟨hfz68_0, hfz68_1, hfz68_2, hfz68_3, hfz68_4, hfz68_5⟩ := bf6_ BK620.out; obtain ⟨n610_0, n0_610⟩ := an2_ NB610_0 NB0_610; obtain ⟨hcz70_0, hcz70_1, hcz70_2, hcz70_3, hcz70_4, hcz70_5⟩ := bk6_ BK610.out; obtain ⟨hfz70_0, hfz70_1, hfz70_2, hfz70_3, hfz70_4, hfz70_5⟩ := bf6_ BK610.out))
 refine bodyPost_ret (results_cell_row rfl _ _ gb610 133 #[.int .i64 t614, .string x621001_4, .string (⟨#[]⟩ : ByteArray), .int .i64 t645, .int .i64 0, .string t654] (0, 0) _ rfl tb_ Try.underlying133 rfl (by kernel_rfl)) rfl ?_
 exact ⟨tq_1, tq_6, tq_18, tq_9⟩

/-! ### spec_l16View: function 80 -/
def spec_l16View.l0 : Nat → Int → List Int → Int → Int → Int → Int → Int → Int → List (S44) → Option ((List (S44)) × Int × Int)
 | 0, _, _, _, _, _, _, _, _, _ => none
 | k + 1, x6, x1000, x1001, x1002, x664000, x664001, x664002, x664003, x666000 => (spec_l01Below.f x1000 x1001 x1002 12).bind fun bt666 => (if x6 < bt666.1 then ((spec_l17Ask.f k x1000 bt666.2.1 bt666.2.2).bind fun bt669 => ((spec_Asked.f k x664000 x664001 x664002 x664003 x666000 bt669.1 bt669.2.1 bt669.2.2.1 bt669.2.2.2.1 bt669.2.2.2.2.1 bt669.2.2.2.2.2.1).bind fun bt677 => (spec_l16View.l0 k (wrap64 (x6 + 1)) x1000 bt669.2.2.2.2.2.2.1 bt669.2.2.2.2.2.2.2 x664000 x664001 x664002 x664003 bt677.1))) else (some (x666000, bt666.2.1, bt666.2.2)))
def spec_l16View.f (k : Nat) (s0_0 : List Int) (s0_1 : Int) (s0_2 : Int) (a1_0 : Int) (a1_1 : Int) (a1_2 : Int) (a1_3 : Int) : Option ((List (S44)) × Int × Int) := spec_l16View.l0 k 0 s0_0 s0_1 s0_2 a1_0 a1_1 a1_2 a1_3 ([] : List (S44))
theorem spec_l16View.mono_l : ∀ k, (∀ y0 y1 y2 y3 y4 y5 y6 y7 y8, LeO (spec_l16View.l0 k y0 y1 y2 y3 y4 y5 y6 y7 y8) (spec_l16View.l0 (k + 1) y0 y1 y2 y3 y4 y5 y6 y7 y8))
 | 0 => fun _ _ _ _ _ _ _ _ _ r h => by simp [spec_l16View.l0] at h
 | k + 1 => by
  have ih0 := spec_l16View.mono_l k
  ·intro y0 y1 y2 y3 y4 y5 y6 y7 y8
   unfold spec_l16View.l0
   repeat' first
   | (with_reducible exact ih0 ..)
   | (with_reducible exact spec_Asked.mono ..)
   | (with_reducible exact spec_l17Ask.mono ..)
   | (with_reducible exact LeO.refl _)
   | (with_reducible exact LeO.none _)
   | (with_reducible refine LeO.ite ?_ ?_)
   | (with_reducible refine LeO.bind ?_ (fun _ => ?_))
   | exact ih0 ..
   | exact spec_Asked.mono ..
   | exact spec_l17Ask.mono ..
   | exact LeO.none _
   | refine LeO.ite ?_ ?_
   | refine LeO.bind ?_ (fun _ => ?_)
theorem spec_l16View.mono : ∀ a0 a1 a2 a3 a4 a5 a6 k, LeO (spec_l16View.f k a0 a1 a2 a3 a4 a5 a6) (spec_l16View.f (k + 1) a0 a1 a2 a3 a4 a5 a6) := by
 intro a0 a1 a2 a3 a4 a5 a6 k
 have ih0 := spec_l16View.mono_l k
 unfold spec_l16View.f
 repeat' first
   | (with_reducible exact ih0 ..)
   | (with_reducible exact spec_Asked.mono ..)
   | (with_reducible exact spec_l17Ask.mono ..)
   | (with_reducible exact LeO.refl _)
   | (with_reducible exact LeO.none _)
   | (with_reducible refine LeO.ite ?_ ?_)
   | (with_reducible refine LeO.bind ?_ (fun _ => ?_))
   | exact ih0 ..
   | exact spec_Asked.mono ..
   | exact spec_l17Ask.mono ..
   | exact LeO.none _
   | refine LeO.ite ?_ ?_
   | refine LeO.bind ?_ (fun _ => ?_)
def spec_l16View.T5 : Bool × List (List Nat × List Nat) := (true, [([], []), ([], []), ([], []), ([2], [2]), ([0, 1, 3, 3], [0, 1, 3]), ([4], [4]), ([5], [5]), ([5], [5]), ([6, 4, 0, 1, 2, 3, 4, 5, 6], [6])])
def spec_l16View.B5 : List Nat := [0, 0, 0, 4, 15, 31, 63, 63, 127]
theorem spec_l16View.tab5 : rtab .any (opsOf Try.f80 5) = spec_l16View.T5 := by kernel_rfl
theorem spec_l16View.bits5 : waitsOk spec_l16View.T5.2 spec_l16View.B5 = true := by kernel_rfl
set_option maxHeartbeats 8000000 in
set_option maxRecDepth 100000 in
theorem spec_l16View.calls (k : Nat) (g : Nat) (s0_0 : List Int) (s0_1 : Int) (s0_2 : Int) (a1_0 : Int) (a1_1 : Int) (a1_2 : Int) (a1_3 : Int) (r1 : List (S44)) (r2 : Int) (r3 : Int) (w0 w : World) (hI : IsS105 w0 w g s0_0 s0_1 s0_2) (hB : Below w0.heap.size w0 w) (h : spec_l16View.f k s0_0 s0_1 s0_2 a1_0 a1_1 a1_2 a1_3 = some (r1, r2, r3)) :
  Calls Try.prog 80 #[.pointer (some ⟨g, 0, none⟩), .agg #[.int .i64 a1_0, .int .i64 a1_1, .int .i64 a1_2, .int .i64 a1_3]] w fun e w' => ∃ v0_ : Value, e = .returned (.agg #[v0_]) ∧ Kd.R k44 44 w' w.heap.size (fun _ => True) v0_ r1 ∧ IsS105 w0 w' g s0_0 r2 r3 ∧ Below w0.heap.size w0 w' ∧ KeepBut w w' g none := by
 have hu30 := Try.underlying30
 have hu42 := Try.underlying42
 have HI0 := Aside0.mk hI
 have HK := Aside0.mk (KeepBut.refl w g none)
 have HL := Aside0.mk hB.size
 clear hI
 have HW0 := Aside0.mk hB.size
 have HB := Aside0.mk hB
 clear hB
 unfold spec_l16View.f at h
 have H := h
 clear h
 have H' := Aside0.mk H
 clear H
 go_enter Try.func80, Try.ntmps80
 go_wp2_with (first | ((with_reducible refine gate_dst (N := 3) rfl ?_); refine be_ 3 (cs := #[.int .i64 a1_0, .int .i64 a1_1, .int .i64 a1_2, .int .i64 a1_3]) 30 ?_; intro gb663 hg w3 hbox hb; have z_ := p_ (IsS105.below tq_4 hb) <| p_ (KeepBut.trans tq_2 (KeepBut.of_below hb g none) (.inl rfl)) <| p_ (below_step tq_12 hb) <| p_ (hbox) <| p_ ((by rw [hg]; exact (keep_size (w := w) (g := g) (row := none) tq_2) : w.heap.size ≤ gb663)) <| p_ ((Nat.le_trans HW0.out (by rw [hg]; exact (keep_size (w := w) (g := g) (row := none) tq_2) : w.heap.size ≤ gb663) : w0.heap.size ≤ gb663)) <| p_ ((by rw [hg]; exact Nat.ne_of_lt (IsS105.lt (show IsS105 w0 _ g s0_0 s0_1 s0_2 from tq_4)) : g ≠ gb663)) <| a_ ((by rw [hg]; exact Nat.ne_of_gt (IsS105.lt (show IsS105 w0 _ g s0_0 s0_1 s0_2 from tq_4)) : gb663 ≠ g)); clear HI0 HK HB; obtain ⟨HI0, HK, HB, BK663, GW663, GE663, NB0_663, NB663_0⟩ := z_; clear hb hbox hg) | ((with_reducible refine gate_dst (N := 4) rfl ?_); refine be_ 4 (cs := #[.slice none 0 0]) 42 ?_; intro gb664 hg w4 hbox hb; have z_ := p_ (IsS105.below tq_66 hb) <| p_ (blk_below (kb_ BK663) hb) <| p_ (KeepBut.trans tq_71 (KeepBut.of_below hb g none) (.inl rfl)) <| p_ (below_step (by repeat (first | (with_reducible first | exact HB.out | apply below_alloc | apply pw_below_drewN | apply below_drew1 | refine below_set ?_ (IsS105.ge HI0.out) | refine below_set ?_ GE663.out) | exact HB.out)) hb) <| p_ (hbox) <| p_ ((by rw [hg]; exact (keep_size (w := w) (g := g) (row := none) tq_71) : w.heap.size ≤ gb664)) <| p_ ((Nat.le_trans HW0.out (by rw [hg]; exact (keep_size (w := w) (g := g) (row := none) tq_71) : w.heap.size ≤ gb664) : w0.heap.size ≤ gb664)) <| p_ (ltne_ hg (blk_lt (kb_ BK663))) <| p_ (gtne_ hg (blk_lt (kb_ BK663))) <| p_ ((by rw [hg]; exact Nat.ne_of_lt (IsS105.lt (show IsS105 w0 _ g s0_0 s0_1 s0_2 from tq_66)) : g ≠ gb664)) <| a_ ((by rw [hg]; exact Nat.ne_of_gt (IsS105.lt (show IsS105 w0 _ g s0_0 s0_1 s0_2 from tq_66)) : gb664 ≠ g)); clear HI0 BK663 HK HB; obtain ⟨HI0, BK663, HK, HB, BK664, GW664, GE664, NB663_664, NB664_663, NB0_664, NB664_0⟩ := z_; clear hb hbox hg) | ((with_reducible refine gate_dst (N := 5) rfl ?_); refine be_ 5 (cs := #[.slice none 0 0]) 42 ?_; intro gb665 hg w5 hbox hb; have z_ := p_ (IsS105.below tq_59 hb) <| p_ (blk_below (kb_ BK663) hb) <| p_ (blk_below (kb_ BK664) hb) <| p_ (KeepBut.trans tq_63 (KeepBut.of_below hb g none) (.inl rfl)) <| p_ (below_step (by repeat (first | (with_reducible first | exact HB.out | apply below_alloc | apply pw_below_drewN | apply below_drew1 | refine below_set ?_ (IsS105.ge HI0.out) | refine below_set ?_ GE663.out | refine below_set ?_ GE664.out) | exact HB.out)) hb) <| p_ (hbox) <| p_ ((by rw [hg]; exact (keep_size (w := w) (g := g) (row := none) tq_63) : w.heap.size ≤ gb665)) <| p_ ((Nat.le_trans HW0.out (by rw [hg]; exact (keep_size (w := w) (g := g) (row := none) tq_63) : w.heap.size ≤ gb665) : w0.heap.size ≤ gb665)) <| p_ (ltne_ hg (blk_lt (kb_ BK663))) <| p_ (gtne_ hg (blk_lt (kb_ BK663))) <| p_ (ltne_ hg (blk_lt (kb_ BK664))) <| p_ (gtne_ hg (blk_lt (kb_ BK664))) <| p_ ((by rw [hg]; exact Nat.ne_of_lt (IsS105.lt (show IsS105 w0 _ g s0_0 s0_1 s0_2 from tq_59)) : g ≠ gb665)) <| a_ ((by rw [hg]; exact Nat.ne_of_gt (IsS105.lt (show IsS105 w0 _ g s0_0 s0_1 s0_2 from tq_59)) : gb665 ≠ g)); clear HI0 BK663 BK664 HK HB; obtain ⟨HI0, BK663, BK664, HK, HB, BK665, GW665, GE665, NB663_665, NB665_663, NB664_665, NB665_664, NB0_665, NB665_0⟩ := z_; clear hb hbox hg; obtain ⟨n665_663, n663_665, n665_664, n664_665, n665_0, n0_665⟩ := an6_ NB665_663 NB663_665 NB665_664 NB664_665 NB665_0 NB0_665; have hcz9_0 := bc_ BK665.out 0; have hfz9_0 := blk_frozen BK665.out 0))
 go_loopg [6] k (fun kq v6 w' => ∃ (x6_1 : Int) (x1001_1 : Int) (x1002_1 : Int) (x666000_1 : List (S44)) (u666000 : Value), v6 = .int .i64 x6_1 ∧ Aside0 (spec_l16View.l0 kq x6_1 s0_0 x1001_1 x1002_1 a1_0 a1_1 a1_2 a1_3 x666000_1 = some (r1, r2, r3)) ∧ Aside0 (kq ≤ k) ∧ Aside0 (Kd.R k44 44 w' w.heap.size (fun _ => True) u666000 x666000_1) ∧ Aside0 (w'.heap[gb663]? = some (.cells #[.int .i64 a1_0, .int .i64 a1_1, .int .i64 a1_2, .int .i64 a1_3] 30 (0, 0))) ∧ Aside0 (w'.heap[gb664]? = some (.cells #[(.slice none 0 0)] 42 (0, 0))) ∧ Aside0 (w'.heap[gb665]? = some (.cells #[u666000] 42 (0, 0))) ∧ Aside0 (IsS105 w0 w' g s0_0 x1001_1 x1002_1) ∧ Aside0 (KeepBut w w' g none) ∧ Aside0 (Below w0.heap.size w0 w'))
 case atStart => exact ⟨(0), (s0_1), (s0_2), (([] : List (S44))), (.slice none 0 0), tq_5, H', ⟨Nat.le_refl _⟩, ⟨tq_22⟩, ⟨tb_⟩, ⟨tb_⟩, ⟨tb_⟩, ⟨tq_25⟩, ⟨tq_21⟩, ⟨tq_43⟩⟩
 case round =>
 clear H'
 try clear p2; try clear c6; try clear c7; try clear c8; try clear hcz9_0 hfz9_0
 obtain ⟨x6_1, x1001_1, x1002_1, x666000_1, u666000, rfl, HA, HK1, HO_666000, BK663, BK664, BK665, HI0, HK, HB⟩ := hrel
 cases gk with
 | zero => exact absurd HA.out (by simp [spec_l16View.l0])
 | succ k1 =>
 have H := HA.out
 clear HA
 simp only [spec_l16View.l0] at H
 obtain ⟨⟨t666, t667, t668⟩, A10, H⟩ := bd_ H
 try dsimp -simprocs only at H
 by_cases c11 : x6_1 < t666
 rotate_left
 ·rw [if_neg c11] at H
  have c11b0 := decide_eq_false c11
  clear c11
  simp only [Option.some.injEq, Prod.mk.injEq] at H
  obtain ⟨rfl, rfl, rfl⟩ := H
  go_wp2_with (first | ((with_reducible refine gate_callee (f := 53) rfl ?_); refine goesL_ (some 10) rfl rfl Try.func53 (by kernel_rfl) rfl #[.pointer (some ⟨g, 0, none⟩), .int .i64 12] rfl tq_0 ?_; (with_reducible refine (spec_l01Below.calls g s0_0 x1001_1 x1002_1 12 t666 t667 t668 w0 _ ?side1 ?side2 A10.out).mono ?_); (case side1 => exact tq_54); (case side2 => exact tq_56); rintro e w21 ⟨rfl, hi, hb, hk⟩; refine ⟨_, rfl, ?_⟩; have z_ := p_ (Kd.R_mono (Kd.R_keep (IsS105.apart (show IsS105 w0 _ g s0_0 x1001_1 x1002_1 from tq_25) (raR_ HO_666000) (by decide)) hk (fun _ h => h.2)) (fun _ h => h.1)) <| p_ (KeepBut.blk hk (g' := gb663) (o := .cells #[.int .i64 a1_0, .int .i64 a1_1, .int .i64 a1_2, .int .i64 a1_3] 30 (0, 0)) (kb_ BK663) NB663_0.out (by simp)) <| p_ (KeepBut.blk hk (g' := gb664) (o := .cells #[.slice none 0 0] 42 (0, 0)) (kb_ BK664) NB664_0.out (by simp)) <| p_ (KeepBut.blk hk (g' := gb665) (o := .cells #[u666000] 42 (0, 0)) (kb_ BK665) NB665_0.out (by simp)) <| p_ (KeepBut.trans tq_21 hk (.inl rfl)) <| p_ (hb) <| a_ (hi); clear HO_666000 BK663 BK664 BK665 HK HB HI0; obtain ⟨HO_666000, BK663, BK664, BK665, HK, HB, HI0⟩ := z_; (try clear hb); (try clear hk); (try clear hi); obtain ⟨n665_663, n663_665, n665_664, n664_665, hnb24, hnc24⟩ := an6_ NB665_663 NB663_665 NB665_664 NB664_665 NB665_0 NB0_665; have hcz25_0 := bc_ BK665.out 0; have hfz25_0 := blk_frozen BK665.out 0; obtain ⟨Ao26, co26, eo26⟩ := Kd.R_slice HO_666000.out; subst eo26; obtain ⟨n664_663, n663_664, n664_0, n0_664⟩ := an4_ NB664_663 NB663_664 NB664_0 NB0_664; have hcz29_0 := bc_ BK664.out 0; have hfz29_0 := blk_frozen BK664.out 0))
  refine bodyPost_ret (results_cell_row rfl _ _ gb664 42 #[.slice Ao26 x666000_1.length co26] (0, 0) _ rfl tb_ Try.underlying42 rfl (by kernel_rfl)) rfl ?_
  exact ⟨_, tq_1, (by (with_reducible repeat (first | apply Kd.R_alloc | apply Kd.R_drewN | apply Kd.R_drew)); exact Kd.R_mono (rR_ (Kd.R_types HO_666000.out BK664.out (by decide))) (fun _ hk => trivial)), tq_25, tq_43, tq_21⟩
 rw [if_pos c11] at H
 have c11b0 := decide_eq_true c11
 clear c11
 obtain ⟨⟨t669, t670, t671, t672, t673, t674, t675, t676⟩, A12, H⟩ := bd_ H
 try dsimp -simprocs only at H
 obtain ⟨⟨t677, t680, t681, t682, t683, t684⟩, A13, H⟩ := bd_ H
 try dsimp -simprocs only at H
 have H' := Aside0.mk H
 clear H
 try go_wp2_with (first | ((with_reducible refine gate_callee (f := 53) rfl ?_); refine goesL_ (some 10) rfl rfl Try.func53 (by kernel_rfl) rfl #[.pointer (some ⟨g, 0, none⟩), .int .i64 12] rfl tq_0 ?_; (with_reducible refine (spec_l01Below.calls g s0_0 x1001_1 x1002_1 12 t666 t667 t668 w0 _ ?side1 ?side2 A10.out).mono ?_); (case side1 => exact tq_54); (case side2 => exact tq_56); rintro e w14 ⟨rfl, hi, hb, hk⟩; refine ⟨_, rfl, ?_⟩; have z_ := p_ (Kd.R_mono (Kd.R_keep (IsS105.apart (show IsS105 w0 _ g s0_0 x1001_1 x1002_1 from tq_25) (raR_ HO_666000) (by decide)) hk (fun _ h => h.2)) (fun _ h => h.1)) <| p_ (KeepBut.blk hk (g' := gb663) (o := .cells #[.int .i64 a1_0, .int .i64 a1_1, .int .i64 a1_2, .int .i64 a1_3] 30 (0, 0)) (kb_ BK663) NB663_0.out (by simp)) <| p_ (KeepBut.blk hk (g' := gb664) (o := .cells #[.slice none 0 0] 42 (0, 0)) (kb_ BK664) NB664_0.out (by simp)) <| p_ (KeepBut.blk hk (g' := gb665) (o := .cells #[u666000] 42 (0, 0)) (kb_ BK665) NB665_0.out (by simp)) <| p_ (KeepBut.trans tq_21 hk (.inl rfl)) <| p_ (hb) <| a_ (hi); clear HO_666000 BK663 BK664 BK665 HK HB HI0; obtain ⟨HO_666000, BK663, BK664, BK665, HK, HB, HI0⟩ := z_; (try clear hb); (try clear hk); (try clear hi)))
 have z_ := p_ (Kd.R_drew HO_666000.out) <| p_ (blk_drew BK663.out) <| p_ (blk_drew BK664.out) <| p_ (blk_drew BK665.out) <| p_ (IsS105.drew HI0.out) <| p_ (keep_drew HK.out) <| a_ (below_drew1 HB.out)
 clear HO_666000 BK663 BK664 BK665 HI0 HK HB
 obtain ⟨HO_666000, BK663, BK664, BK665, HI0, HK, HB⟩ := z_
 refine start_ (n := 9) (S := fun w' => w'.cell? ⟨gb663, 0, none⟩ = some (.int .i64 a1_0) ∧ w'.cell? ⟨gb663, 1, none⟩ = some (.int .i64 a1_1) ∧ w'.cell? ⟨gb663, 2, none⟩ = some (.int .i64 a1_2) ∧ w'.cell? ⟨gb663, 3, none⟩ = some (.int .i64 a1_3) ∧ w'.cell? ⟨gb665, 0, none⟩ = some (u666000)) (ds := [8]) bq_41 (by kernel_rfl) rfl rfl (bc4_ BK663.out ((blk_cell BK665.out 0).trans rfl)) (fun hHeld => ?_); refine with_tabW spec_l16View.tab5 spec_l16View.bits5 (fun HT_ HW_ => ?_)
 generalize w14.drew = w15 at HO_666000 BK663 BK664 BK665 HI0 HK HB hHeld ⊢
 refine yr_ 2 17 bq_96 HT_ ?_
 refine tr_ 0 15 bq_82 HT_ HW_ hHeld ?_
 refine tr_ 1 16 #[true, true, true, false, false, false, false, false, false] HT_ HW_ hHeld ?_
 refine one_ (i := 3) (N := some 18) #[true, true, true, true, false, false, false, false, false] rfl rfl (one_of HT_.out (by kernel_rfl)) (by decide) (fun K hK => ?_)
 refine goes_ Try.func108 (by kernel_rfl) rfl #[.pointer (some ⟨g, 0, none⟩)] (by rfl) rfl rfl tq_0 ?_
 with_reducible refine (spec_l17Ask.calls k1 g s0_0 t667 t668 t669 t670 t671 t672 t673 t674 t675 t676 w0 _ ?side1 ?side2 A12.out).mono ?_
 (case side1 => exact tq_54)
 (case side2 => exact tq_56)
 rintro e w16 ⟨rfl, hi, hb, hk⟩
 refine ⟨_, rfl, ?_⟩
 have z_ := p_ (Kd.R_mono (Kd.R_keep (IsS105.apart (show IsS105 w0 _ g s0_0 t667 t668 from tq_25) (raR_ HO_666000) (by decide)) hk (fun _ h => h.2)) (fun _ h => h.1)) <| p_ (KeepBut.blk hk (g' := gb663) (o := .cells #[.int .i64 a1_0, .int .i64 a1_1, .int .i64 a1_2, .int .i64 a1_3] 30 (0, 0)) (kb_ BK663) NB663_0.out (by simp)) <| p_ (KeepBut.blk hk (g' := gb664) (o := .cells #[.slice none 0 0] 42 (0, 0)) (kb_ BK664) NB664_0.out (by simp)) <| p_ (KeepBut.blk hk (g' := gb665) (o := .cells #[u666000] 42 (0, 0)) (kb_ BK665) NB665_0.out (by simp)) <| p_ (KeepBut.trans tq_21 hk (.inl rfl)) <| p_ (hb) <| a_ (hi)
 clear HO_666000 BK663 BK664 BK665 HK HB HI0
 obtain ⟨HO_666000, BK663, BK664, BK665, HK, HB, HI0⟩ := z_
 (try clear hb)
 (try clear hk)
 (try clear hi)
 obtain ⟨Ao17, co17, eo17⟩ := Kd.R_slice HO_666000.out
 (first | subst eo17 | (injection eo17 with f1_ f2_ f3_; have f4_ := f1_.symm; have f5_ := f3_.symm; clear f1_ f2_ f3_; subst f4_; subst f5_))
 refine hK.out _ _ (bc4_ BK663.out ((blk_cell BK665.out 0).trans rfl)) (fun hHeld => ?_)
 clear hK K
 refine nm_ (some 18) ?_
 refine one_ (i := 4) (N := some 19) #[true, true, true, true, true, false, false, false, false] rfl rfl (one_of HT_.out (by kernel_rfl)) (by decide) (fun K hK => ?_)
 refine goes_ Try.func107 (by kernel_rfl) rfl #[.agg #[.int .i64 a1_0, .int .i64 a1_1, .int .i64 a1_2, .int .i64 a1_3], .agg #[.slice Ao17 x666000_1.length co17], .agg #[.int .i64 t669, .string t670, .string t671, .int .i64 t672, .int .i64 t673, .string t674]] (by rfl) rfl rfl tq_0 ?_
 with_reducible refine (spec_Asked.calls k1 a1_0 a1_1 a1_2 a1_3 _ _ x666000_1 t669 t670 t671 t672 t673 t674 t677 t680 t681 t682 t683 t684 _ ?side1 ?side2 A13.out).mono ?_
 (case side1 => repeat (first | exact (Kd.R_reads' HO_666000.out).2.2 | (with_reducible refine Kd.C_alloc ?_ _) | (with_reducible refine Kd.C_drewN ?_ _) | (with_reducible refine Kd.C_drew ?_)))
 (case side2 => exact (Kd.R_reads' HO_666000.out).2.1)
 rintro e w18 ⟨v678, v685, rfl, ho0, ho1, hb⟩
 refine ⟨_, rfl, ?_⟩
 have z_ := p_ (Kd.R_elder' (raR_ HO_666000) (Kd.R_base ho0) hb) <| p_ (Kd.R_lower (Kd.R_new' ho0 (Kd.R_lt (raR_ HO_666000))) (keep_size (w := w) (g := g) (row := none) tq_21)) <| p_ (Kd.R_lower ho1 (keep_size (w := w) (g := g) (row := none) tq_21)) <| p_ (blk_below (kb_ BK663) hb) <| p_ (blk_below (kb_ BK664) hb) <| p_ (blk_below (kb_ BK665) hb) <| p_ (IsS105.below tq_25 hb) <| p_ (KeepBut.trans tq_21 (KeepBut.of_below hb g none) (.inl rfl)) <| a_ (below_step tq_43 hb)
 clear HO_666000 BK663 BK664 BK665 HI0 HK HB
 obtain ⟨HO_666000, HO679, HO686, BK663, BK664, BK665, HI0, HK, HB⟩ := z_
 (try clear hb)
 (try clear ho0)
 (try clear ho1)
 obtain ⟨Ao19, co19, eo19⟩ := Kd.R_slice HO679.out
 (first | subst eo19 | (injection eo19 with f1_ f2_ f3_; have f4_ := f1_.symm; have f5_ := f3_.symm; clear f1_ f2_ f3_; subst f4_; subst f5_))
 refine hK.out _ _ (bc4_ BK663.out ((blk_cell BK665.out 0).trans rfl)) (fun hHeld => ?_)
 clear hK K
 refine nm_ (some 19) ?_
 refine yr_ 5 14 #[true, true, true, true, true, true, false, false, false] HT_ ?_
 refine yr_ 6 20 bq_42 HT_ ?_
 refine yr_ 7 21 bq_43 HT_ ?_
 refine last_ (i := 8) (N := none) bq_44 rfl rfl (one_of HT_.out (by kernel_rfl)) (by decide) (fun K hK => ?_)
 have hs20 : w18.cell? ⟨gb665, 0, none⟩ = some (.slice Ao17 x666000_1.length co17) := (blk_cell BK665.out 0).trans rfl
 have hfs20 := blk_frozen BK665.out 0
 refine skip_ (w1 := ?_) (by rfl) rfl ?_ ?_
 rotate_left
 ·go_simp
  rfl
 refine hK.out _ _ ?_
 clear hK K
 refine done_ (done_of HT_.out (by kernel_rfl)) ?_
 try go_wp2
 go_roundg k1
 case measure => have := HK1.out; omega
 case rel => exact ⟨(wrap64 (x6_1 + 1)), (t675), (t676), (t677), (.slice Ao19 t677.length co19), tq_5, H', ⟨tq_79⟩, ⟨(by (with_reducible repeat (first | apply Kd.R_alloc | apply Kd.R_drewN | apply Kd.R_drew)); exact Kd.R_mono (rR_ (Kd.R_types HO679.out BK665.out (by decide))) (fun _ hk => trivial))⟩, ⟨tb_⟩, ⟨tb_⟩, ⟨tb_⟩, ⟨tq_25⟩, ⟨tq_21⟩, ⟨tq_43⟩⟩

end Go.Proofs.Ytljnnmpfeningaa.PFnViews
