/- Contracts of Go functions, written by a program of ours over the print of the kit: each says that the call returns what the Lean function beside it computes. Conditions: as each theorem states them. -/
import Derived.Test.YtljnnmpfeningaaPkFnExactPartOk
import Derived.Test.YtljnnmpfeningaaPFnExactPartOkx0
import Derived.Test.YtljnnmpfeningaaPFnExactPartOkx9
import Derived.Test.YtljnnmpfeningaaPFnExactPartOkx11
import Derived.Test.YtljnnmpfeningaaPFnExactPartOkx13
namespace Go.Proofs.Ytljnnmpfeningaa.PFnExactPartOk
open Go.RowKit Go.Proofs.YtljnnmpfeningaaW.PrintWords Go.Proofs.YtljnnmpfeningaaW.PrintLast Go.Proofs.YtljnnmpfeningaaW.PrintMore
attribute [local go_sem] max2_int min2_int max_two min_two max_three min_three max_four min_four   -- for this text's walks alone
set_option linter.unusedVariables false
set_option linter.unusedSimpArgs false

/-! ### impl_InodeOk: function 75 -/
def impl_InodeOk.f (k : Nat) (a0_0 : Int) (a0_1 : Int) (a0_2 : Int) (a0_3 : ByteArray) (l0_4 : List (S96)) (l0_5 : List (S67)) : Option (Bool) := (impl_within.f a0_2 0 65535).bind fun t317 => (if t317 = true then (if a0_0 = 0 then (if a0_1 = 0 then (if a0_3.toList = ([] : List UInt8) then (if (l0_4.length : Int) = 0 then (some ((l0_5.length : Int) == 0)) else (some false)) else (some false)) else (some false)) else (if a0_0 = 1 then ((impl_isFile.f k a0_0 a0_1 a0_2 a0_3 l0_4 l0_5).bind fun t318 => (some t318)) else (if a0_0 = 2 then ((impl_isDir.f k a0_0 a0_1 a0_2 a0_3 l0_4 l0_5).bind fun t319 => (some t319)) else (some false)))) else (some false))
theorem impl_InodeOk.mono : ∀ a0 a1 a2 a3 a4 a5 k, LeO (impl_InodeOk.f k a0 a1 a2 a3 a4 a5) (impl_InodeOk.f (k + 1) a0 a1 a2 a3 a4 a5) := by
 intro a0 a1 a2 a3 a4 a5 k
 unfold impl_InodeOk.f
 repeat' first
   | (with_reducible exact impl_isDir.mono ..)
   | (with_reducible exact impl_isFile.mono ..)
   | (with_reducible exact LeO.refl _)
   | (with_reducible exact LeO.none _)
   | (with_reducible refine LeO.ite ?_ ?_)
   | (with_reducible refine LeO.bind ?_ (fun _ => ?_))
   | exact impl_isDir.mono ..
   | exact impl_isFile.mono ..
   | exact LeO.none _
   | refine LeO.ite ?_ ?_
   | refine LeO.bind ?_ (fun _ => ?_)
set_option maxHeartbeats 8000000 in
set_option maxRecDepth 100000 in
theorem impl_InodeOk.calls (k : Nat) (a0_0 : Int) (a0_1 : Int) (a0_2 : Int) (a0_3 : ByteArray) (A0_4 : Option Addr) (c0_4 : Nat) (l0_4 : List (S96)) (A0_5 : Option Addr) (c0_5 : Nat) (l0_5 : List (S67)) (r : Bool) (w : World) (hr0_4 : Kd.C k96 w A0_4 l0_4.length l0_4) (hc0_4 : l0_4.length ≤ c0_4) (hr0_5 : Kd.C k67 w A0_5 l0_5.length l0_5) (hc0_5 : l0_5.length ≤ c0_5) (h : impl_InodeOk.f k a0_0 a0_1 a0_2 a0_3 l0_4 l0_5 = some r) :
  Calls Try.prog 75 #[.agg #[.int .i64 a0_0, .int .i64 a0_1, .int .i64 a0_2, .string a0_3, .slice A0_4 l0_4.length c0_4, .slice A0_5 l0_5.length c0_5]] w fun e w' => e = .returned (.bool r) ∧ Below w.heap.size w w' := by
 have hu64 := Try.underlying64
 have HR0_4 := Aside0.mk hr0_4
 have HC0_4 := Aside0.mk hc0_4
 clear hr0_4 hc0_4
 have HR0_5 := Aside0.mk hr0_5
 have HC0_5 := Aside0.mk hc0_5
 clear hr0_5 hc0_5
 have HB := Aside0.mk (Below.refl w.heap.size w)
 have H : ((impl_within.f a0_2 0 65535).bind fun t317 => (if t317 = true then (if a0_0 = 0 then (if a0_1 = 0 then (if a0_3.toList = ([] : List UInt8) then (if (l0_4.length : Int) = 0 then (some ((l0_5.length : Int) == 0)) else (some false)) else (some false)) else (some false)) else (if a0_0 = 1 then ((impl_isFile.f k a0_0 a0_1 a0_2 a0_3 l0_4 l0_5).bind fun t318 => (some t318)) else (if a0_0 = 2 then ((impl_isDir.f k a0_0 a0_1 a0_2 a0_3 l0_4 l0_5).bind fun t319 => (some t319)) else (some false)))) else (some false))) = some r := h
 clear h
 replace H := Option.bind_eq_some_iff.mp H
 obtain ⟨t317, A20, H⟩ := H
 replace H : (if t317 = true then (if a0_0 = 0 then (if a0_1 = 0 then (if a0_3.toList = ([] : List UInt8) then (if (l0_4.length : Int) = 0 then (some ((l0_5.length : Int) == 0)) else (some false)) else (some false)) else (some false)) else (if a0_0 = 1 then ((impl_isFile.f k a0_0 a0_1 a0_2 a0_3 l0_4 l0_5).bind fun t318 => (some t318)) else (if a0_0 = 2 then ((impl_isDir.f k a0_0 a0_1 a0_2 a0_3 l0_4 l0_5).bind fun t319 => (some t319)) else (some false)))) else (some false)) = some r := H
 have A2 := Aside0.mk A20
 clear A20
 by_cases c3 : t317 = true
 rotate_left
 ·replace c3 := Bool.eq_false_iff.mpr c3
  subst c3
  have H1 : (some false) = some r := by rw [if_neg (show ¬ (false = true) by decide)] at H; exact H
  clear H
  have H := H1
  clear H1
  obtain rfl := Option.some.inj H
  go_enter Try.func75, Try.ntmps75
  go_wp2_with (first | ((with_reducible refine gate_dst (N := 1) rfl ?_); (try (refine gate_guard (by rfl) ?_; dsimp only)); refine box_event ?hg (N := 1) ?hd (cs := #[.int .i64 a0_0, .int .i64 a0_1, .int .i64 a0_2, .string a0_3, .slice A0_4 l0_4.length c0_4, .slice A0_5 l0_5.length c0_5]) (t := 64) ?hr ?_; (case hd => rfl); (case hg => rfl); (case hr => first | (go_simp; done) | (go_simp; rfl)); intro gb316 hg w28 hbox hb; have z_ := p_ (below_step tq_0 hb) <| p_ (hbox) <| p_ (gb_ hg tq_0) <| a_ (gb_ hg tq_0); clear HB; obtain ⟨HB, BK316, GW316, GE316⟩ := z_; clear hb hbox hg; obtain ⟨hcz29_0, hcz29_1, hcz29_2, hcz29_3, hcz29_4, hcz29_5⟩ := bk6_ BK316.out; obtain ⟨hfz29_0, hfz29_1, hfz29_2, hfz29_3, hfz29_4, hfz29_5⟩ := bf6_ BK316.out) | ((with_reducible refine gate_callee (f := 40) rfl ?_); refine goesL_ (some 5) rfl rfl Try.func40 (by kernel_rfl) rfl #[.int .i64 a0_2, .int .i64 0, .int .i64 65535] rfl tq_1 ?_; (with_reducible refine (impl_within.calls a0_2 0 65535 false _ A2.out).mono ?_); rintro e w' ⟨rfl, ⟨nd, rfl⟩⟩; refine ⟨_, rfl, ?_⟩))
  go_ret
  exact ⟨tq_2, tq_34⟩
 subst c3
 have H1 : (if a0_0 = 0 then (if a0_1 = 0 then (if a0_3.toList = ([] : List UInt8) then (if (l0_4.length : Int) = 0 then (some ((l0_5.length : Int) == 0)) else (some false)) else (some false)) else (some false)) else (if a0_0 = 1 then ((impl_isFile.f k a0_0 a0_1 a0_2 a0_3 l0_4 l0_5).bind fun t318 => (some t318)) else (if a0_0 = 2 then ((impl_isDir.f k a0_0 a0_1 a0_2 a0_3 l0_4 l0_5).bind fun t319 => (some t319)) else (some false)))) = some r := by rw [if_pos rfl] at H; exact H
 clear H
 have H := H1
 clear H1
 by_cases c4 : a0_0 = 0
 ·rw [if_pos c4] at H
  have c4b0 := beq_iff_eq.mpr c4
  have c4b1 := bne_eq_false_iff_eq.mpr c4
  clear c4
  by_cases c5 : a0_1 = 0
  rotate_left
  ·rw [if_neg c5] at H
   have c5b0 := beq_eq_false_iff_ne.mpr c5
   have c5b1 := bne_iff_ne.mpr c5
   obtain rfl := Option.some.inj H
   go_enter Try.func75, Try.ntmps75
   go_wp2_with (first | ((with_reducible refine gate_dst (N := 1) rfl ?_); (try (refine gate_guard (by rfl) ?_; dsimp only)); refine box_event ?hg (N := 1) ?hd (cs := #[.int .i64 a0_0, .int .i64 a0_1, .int .i64 a0_2, .string a0_3, .slice A0_4 l0_4.length c0_4, .slice A0_5 l0_5.length c0_5]) (t := 64) ?hr ?_; (case hd => rfl); (case hg => rfl); (case hr => first | (go_simp; done) | (go_simp; rfl)); intro gb316 hg w14 hbox hb; have z_ := p_ (below_step tq_0 hb) <| p_ (hbox) <| p_ (gb_ hg tq_0) <| a_ (gb_ hg tq_0); clear HB; obtain ⟨HB, BK316, GW316, GE316⟩ := z_; clear hb hbox hg; obtain ⟨hcz15_0, hcz15_1, hcz15_2, hcz15_3, hcz15_4, hcz15_5⟩ := bk6_ BK316.out; obtain ⟨hfz15_0, hfz15_1, hfz15_2, hfz15_3, hfz15_4, hfz15_5⟩ := bf6_ BK316.out) | ((with_reducible refine gate_callee (f := 40) rfl ?_); refine goesL_ (some 5) rfl rfl Try.func40 (by kernel_rfl) rfl #[.int .i64 a0_2, .int .i64 0, .int .i64 65535] rfl tq_1 ?_; (with_reducible refine (impl_within.calls a0_2 0 65535 true _ A2.out).mono ?_); rintro e w' ⟨rfl, ⟨nd, rfl⟩⟩; refine ⟨_, rfl, ?_⟩))
   go_ret
   exact ⟨tq_2, tq_34⟩
  rw [if_pos c5] at H
  have c5b0 := beq_iff_eq.mpr c5
  have c5b1 := bne_eq_false_iff_eq.mpr c5
  clear c5
  by_cases c6 : a0_3.toList = ([] : List UInt8)
  rotate_left
  ·rw [if_neg c6] at H
   have c6b0 := beq_eq_false_iff_ne.mpr c6
   have c6b1 := bne_iff_ne.mpr c6
   obtain rfl := Option.some.inj H
   go_enter Try.func75, Try.ntmps75
   go_wp2_with (first | ((with_reducible refine gate_dst (N := 1) rfl ?_); (try (refine gate_guard (by rfl) ?_; dsimp only)); refine box_event ?hg (N := 1) ?hd (cs := #[.int .i64 a0_0, .int .i64 a0_1, .int .i64 a0_2, .string a0_3, .slice A0_4 l0_4.length c0_4, .slice A0_5 l0_5.length c0_5]) (t := 64) ?hr ?_; (case hd => rfl); (case hg => rfl); (case hr => first | (go_simp; done) | (go_simp; rfl)); intro gb316 hg w12 hbox hb; have z_ := p_ (below_step tq_0 hb) <| p_ (hbox) <| p_ (gb_ hg tq_0) <| a_ (gb_ hg tq_0); clear HB; obtain ⟨HB, BK316, GW316, GE316⟩ := z_; clear hb hbox hg; obtain ⟨hcz13_0, hcz13_1, hcz13_2, hcz13_3, hcz13_4, hcz13_5⟩ := bk6_ BK316.out; obtain ⟨hfz13_0, hfz13_1, hfz13_2, hfz13_3, hfz13_4, hfz13_5⟩ := bf6_ BK316.out) | ((with_reducible refine gate_callee (f := 40) rfl ?_); refine goesL_ (some 5) rfl rfl Try.func40 (by kernel_rfl) rfl #[.int .i64 a0_2, .int .i64 0, .int .i64 65535] rfl tq_1 ?_; (with_reducible refine (impl_within.calls a0_2 0 65535 true _ A2.out).mono ?_); rintro e w' ⟨rfl, ⟨nd, rfl⟩⟩; refine ⟨_, rfl, ?_⟩))
   go_ret
   exact ⟨tq_2, tq_34⟩
  rw [if_pos c6] at H
  have c6b0 := beq_iff_eq.mpr c6
  have c6b1 := bne_eq_false_iff_eq.mpr c6
  clear c6
  by_cases c7 : (l0_4.length : Int) = 0
  ·rw [if_pos c7] at H
   have c7b0 := beq_iff_eq.mpr c7
   have c7b1 := bne_eq_false_iff_eq.mpr c7
   clear c7
   obtain rfl := Option.some.inj H
   go_enter Try.func75, Try.ntmps75
   go_wp2_with (first | ((with_reducible refine gate_dst (N := 1) rfl ?_); (try (refine gate_guard (by rfl) ?_; dsimp only)); refine box_event ?hg (N := 1) ?hd (cs := #[.int .i64 a0_0, .int .i64 a0_1, .int .i64 a0_2, .string a0_3, .slice A0_4 l0_4.length c0_4, .slice A0_5 l0_5.length c0_5]) (t := 64) ?hr ?_; (case hd => rfl); (case hg => rfl); (case hr => first | (go_simp; done) | (go_simp; rfl)); intro gb316 hg w8 hbox hb; have z_ := p_ (below_step tq_0 hb) <| p_ (hbox) <| p_ (gb_ hg tq_0) <| a_ (gb_ hg tq_0); clear HB; obtain ⟨HB, BK316, GW316, GE316⟩ := z_; clear hb hbox hg; obtain ⟨hcz9_0, hcz9_1, hcz9_2, hcz9_3, hcz9_4, hcz9_5⟩ := bk6_ BK316.out; obtain ⟨hfz9_0, hfz9_1, hfz9_2, hfz9_3, hfz9_4, hfz9_5⟩ := bf6_ BK316.out) | ((with_reducible refine gate_callee (f := 40) rfl ?_); refine goesL_ (some 5) rfl rfl Try.func40 (by kernel_rfl) rfl #[.int .i64 a0_2, .int .i64 0, .int .i64 65535] rfl tq_1 ?_; (with_reducible refine (impl_within.calls a0_2 0 65535 true _ A2.out).mono ?_); rintro e w' ⟨rfl, ⟨nd, rfl⟩⟩; refine ⟨_, rfl, ?_⟩))
   go_ret
   exact ⟨tq_2, tq_34⟩
  rw [if_neg c7] at H
  have c7b0 := beq_eq_false_iff_ne.mpr c7
  have c7b1 := bne_iff_ne.mpr c7
  have c7b2 : ¬ (l0_4 = []) := fun h_ => c7 (by rw [h_]; rfl)
  obtain rfl := Option.some.inj H
  go_enter Try.func75, Try.ntmps75
  go_wp2_with (first | ((with_reducible refine gate_dst (N := 1) rfl ?_); (try (refine gate_guard (by rfl) ?_; dsimp only)); refine box_event ?hg (N := 1) ?hd (cs := #[.int .i64 a0_0, .int .i64 a0_1, .int .i64 a0_2, .string a0_3, .slice A0_4 l0_4.length c0_4, .slice A0_5 l0_5.length c0_5]) (t := 64) ?hr ?_; (case hd => rfl); (case hg => rfl); (case hr => first | (go_simp; done) | (go_simp; rfl)); intro gb316 hg w10 hbox hb; have z_ := p_ (below_step tq_0 hb) <| p_ (hbox) <| p_ (gb_ hg tq_0) <| a_ (gb_ hg tq_0); clear HB; obtain ⟨HB, BK316, GW316, GE316⟩ := z_; clear hb hbox hg; obtain ⟨hcz11_0, hcz11_1, hcz11_2, hcz11_3, hcz11_4, hcz11_5⟩ := bk6_ BK316.out; obtain ⟨hfz11_0, hfz11_1, hfz11_2, hfz11_3, hfz11_4, hfz11_5⟩ := bf6_ BK316.out) | ((with_reducible refine gate_callee (f := 40) rfl ?_); refine goesL_ (some 5) rfl rfl Try.func40 (by kernel_rfl) rfl #[.int .i64 a0_2, .int .i64 0, .int .i64 65535] rfl tq_1 ?_; (with_reducible refine (impl_within.calls a0_2 0 65535 true _ A2.out).mono ?_); rintro e w' ⟨rfl, ⟨nd, rfl⟩⟩; refine ⟨_, rfl, ?_⟩))
  go_ret
  exact ⟨tq_2, tq_34⟩
 rw [if_neg c4] at H
 have c4b0 := beq_eq_false_iff_ne.mpr c4
 have c4b1 := bne_iff_ne.mpr c4
 by_cases c16 : a0_0 = 1
 ·rw [if_pos c16] at H
  have c16b0 := beq_iff_eq.mpr c16
  have c16b1 := bne_eq_false_iff_eq.mpr c16
  clear c16
  replace H := Option.bind_eq_some_iff.mp H
  obtain ⟨t318, A170, H⟩ := H
  replace H : (some t318) = some r := H
  have A17 := Aside0.mk A170
  clear A170
  obtain rfl := Option.some.inj H
  go_enter Try.func75, Try.ntmps75
  go_wp2_with (first | ((with_reducible refine gate_dst (N := 1) rfl ?_); (try (refine gate_guard (by rfl) ?_; dsimp only)); refine box_event ?hg (N := 1) ?hd (cs := #[.int .i64 a0_0, .int .i64 a0_1, .int .i64 a0_2, .string a0_3, .slice A0_4 l0_4.length c0_4, .slice A0_5 l0_5.length c0_5]) (t := 64) ?hr ?_; (case hd => rfl); (case hg => rfl); (case hr => first | (go_simp; done) | (go_simp; rfl)); intro gb316 hg w18 hbox hb; have z_ := p_ (below_step tq_0 hb) <| p_ (hbox) <| p_ (gb_ hg tq_0) <| a_ (gb_ hg tq_0); clear HB; obtain ⟨HB, BK316, GW316, GE316⟩ := z_; clear hb hbox hg; obtain ⟨hcz19_0, hcz19_1, hcz19_2, hcz19_3, hcz19_4, hcz19_5⟩ := bk6_ BK316.out; obtain ⟨hfz19_0, hfz19_1, hfz19_2, hfz19_3, hfz19_4, hfz19_5⟩ := bf6_ BK316.out) | ((with_reducible refine gate_callee (f := 40) rfl ?_); refine goesL_ (some 5) rfl rfl Try.func40 (by kernel_rfl) rfl #[.int .i64 a0_2, .int .i64 0, .int .i64 65535] rfl tq_1 ?_; (with_reducible refine (impl_within.calls a0_2 0 65535 true _ A2.out).mono ?_); rintro e w' ⟨rfl, ⟨nd, rfl⟩⟩; refine ⟨_, rfl, ?_⟩) | ((with_reducible refine gate_callee (f := 101) rfl ?_); refine goesL_ (some 34) rfl rfl Try.func101 (by kernel_rfl) rfl #[.agg #[.int .i64 a0_0, .int .i64 a0_1, .int .i64 a0_2, .string a0_3, .slice A0_4 l0_4.length c0_4, .slice A0_5 l0_5.length c0_5]] rfl tq_1 ?_; (with_reducible refine (impl_isFile.calls k a0_0 a0_1 a0_2 a0_3 _ _ l0_4 _ _ l0_5 t318 _ ?side1 ?side2 ?side3 ?side4 A17.out).mono ?_); (case side1 => exact tq_170); (case side2 => exact HC0_4.out); (case side3 => exact tq_169); (case side4 => exact HC0_5.out); rintro e w20 ⟨rfl, hb⟩; refine ⟨_, rfl, ?_⟩; have z_ := p_ (blk_below (by (with_reducible repeat (first | refine blk_drewN ?_ _ | refine blk_drew ?_ | refine blk_alloc ?_ _)); exact BK316.out) hb) <| a_ (below_step tq_34 hb); clear BK316 HB; obtain ⟨BK316, HB⟩ := z_; (try clear hb); (try clear hb2); (try clear hk); (try clear hi)))
  go_ret
  exact ⟨tq_2, tq_34⟩
 rw [if_neg c16] at H
 have c16b0 := beq_eq_false_iff_ne.mpr c16
 have c16b1 := bne_iff_ne.mpr c16
 by_cases c21 : a0_0 = 2
 rotate_left
 ·rw [if_neg c21] at H
  have c21b0 := beq_eq_false_iff_ne.mpr c21
  have c21b1 := bne_iff_ne.mpr c21
  obtain rfl := Option.some.inj H
  go_enter Try.func75, Try.ntmps75
  go_wp2_with (first | ((with_reducible refine gate_dst (N := 1) rfl ?_); (try (refine gate_guard (by rfl) ?_; dsimp only)); refine box_event ?hg (N := 1) ?hd (cs := #[.int .i64 a0_0, .int .i64 a0_1, .int .i64 a0_2, .string a0_3, .slice A0_4 l0_4.length c0_4, .slice A0_5 l0_5.length c0_5]) (t := 64) ?hr ?_; (case hd => rfl); (case hg => rfl); (case hr => first | (go_simp; done) | (go_simp; rfl)); intro gb316 hg w26 hbox hb; have z_ := p_ (below_step tq_0 hb) <| p_ (hbox) <| p_ (gb_ hg tq_0) <| a_ (gb_ hg tq_0); clear HB; obtain ⟨HB, BK316, GW316, GE316⟩ := z_; clear hb hbox hg; obtain ⟨hcz27_0, hcz27_1, hcz27_2, hcz27_3, hcz27_4, hcz27_5⟩ := bk6_ BK316.out; obtain ⟨hfz27_0, hfz27_1, hfz27_2, hfz27_3, hfz27_4, hfz27_5⟩ := bf6_ BK316.out) | ((with_reducible refine gate_callee (f := 40) rfl ?_); refine goesL_ (some 5) rfl rfl Try.func40 (by kernel_rfl) rfl #[.int .i64 a0_2, .int .i64 0, .int .i64 65535] rfl tq_1 ?_; (with_reducible refine (impl_within.calls a0_2 0 65535 true _ A2.out).mono ?_); rintro e w' ⟨rfl, ⟨nd, rfl⟩⟩; refine ⟨_, rfl, ?_⟩))
  go_ret
  exact ⟨tq_2, tq_34⟩
 rw [if_pos c21] at H
 have c21b0 := beq_iff_eq.mpr c21
 have c21b1 := bne_eq_false_iff_eq.mpr c21
 clear c21
 replace H := Option.bind_eq_some_iff.mp H
 obtain ⟨t319, A220, H⟩ := H
 replace H : (some t319) = some r := H
 have A22 := Aside0.mk A220
 clear A220
 obtain rfl := Option.some.inj H
 go_enter Try.func75, Try.ntmps75
 go_wp2_with (first | ((with_reducible refine gate_dst (N := 1) rfl ?_); (try (refine gate_guard (by rfl) ?_; dsimp only)); refine box_event ?hg (N := 1) ?hd (cs := #[.int .i64 a0_0, .int .i64 a0_1, .int .i64 a0_2, .string a0_3, .slice A0_4 l0_4.length c0_4, .slice A0_5 l0_5.length c0_5]) (t := 64) ?hr ?_; (case hd => rfl); (case hg => rfl); (case hr => first | (go_simp; done) | (go_simp; rfl)); intro gb316 hg w23 hbox hb; have z_ := p_ (below_step tq_0 hb) <| p_ (hbox) <| p_ (gb_ hg tq_0) <| a_ (gb_ hg tq_0); clear HB; obtain ⟨HB, BK316, GW316, GE316⟩ := z_; clear hb hbox hg; obtain ⟨hcz24_0, hcz24_1, hcz24_2, hcz24_3, hcz24_4, hcz24_5⟩ := bk6_ BK316.out; obtain ⟨hfz24_0, hfz24_1, hfz24_2, hfz24_3, hfz24_4, hfz24_5⟩ := bf6_ BK316.out) | ((with_reducible refine gate_callee (f := 40) rfl ?_); refine goesL_ (some 5) rfl rfl Try.func40 (by kernel_rfl) rfl #[.int .i64 a0_2, .int .i64 0, .int .i64 65535] rfl tq_1 ?_; (with_reducible refine (impl_within.calls a0_2 0 65535 true _ A2.out).mono ?_); rintro e w' ⟨rfl, ⟨nd, rfl⟩⟩; refine ⟨_, rfl, ?_⟩) | ((with_reducible refine gate_callee (f := 102) rfl ?_); refine goesL_ (some 38) rfl rfl Try.func102 (by kernel_rfl) rfl #[.agg #[.int .i64 a0_0, .int .i64 a0_1, .int .i64 a0_2, .string a0_3, .slice A0_4 l0_4.length c0_4, .slice A0_5 l0_5.length c0_5]] rfl tq_1 ?_; (with_reducible refine (impl_isDir.calls k a0_0 a0_1 a0_2 a0_3 _ _ l0_4 _ _ l0_5 t319 _ ?side1 ?side2 ?side3 ?side4 A22.out).mono ?_); (case side1 => exact tq_170); (case side2 => exact HC0_4.out); (case side3 => exact tq_169); (case side4 => exact HC0_5.out); rintro e w25 ⟨rfl, hb⟩; refine ⟨_, rfl, ?_⟩; have z_ := p_ (blk_below (by (with_reducible repeat (first | refine blk_drewN ?_ _ | refine blk_drew ?_ | refine blk_alloc ?_ _)); exact BK316.out) hb) <| a_ (below_step tq_34 hb); clear BK316 HB; obtain ⟨BK316, HB⟩ := z_; (try clear hb); (try clear hb2); (try clear hk); (try clear hi)))
 go_ret
 exact ⟨tq_2, tq_34⟩

/-! ### impl_areInodes_1: function 77 -/
def clo77.p (c0_0 : Int) (l0_1 : List Int) (l0_2 : List (S64)) (x : S67) : Bool := decide (x.f0 ≥ (l0_2.length : Int))
theorem clo77 (x : S67) (gb0 : Nat) (c0_0 : Int) (A0_1 : Option Addr) (n0_1 : Nat) (l0_1 : List Int) (A0_2 : Option Addr) (n0_2 : Nat) (l0_2 : List (S64)) (W : World) (hcl0 : W.heap[gb0]? = some (.cells #[.int .i64 c0_0, .slice A0_1 l0_1.length n0_1, .slice A0_2 l0_2.length n0_2] 34 (0, 0))) : Calls Try.prog 77 (#[.agg #[.int .i64 x.f0, .string x.f1]] ++ #[.pointer (some ⟨gb0, 0, none⟩)]) W fun e w' => e = .returned (.bool (clo77.p c0_0 l0_1 l0_2 x)) ∧ Below W.heap.size W w' := by
 have hu34 := Try.underlying34
 have hu67 := Try.underlying67
 have hb0 : gb0 < W.heap.size := blk_lt hcl0
 have h0_0 : W.cell? ⟨gb0, 0, none⟩ = some (.int .i64 c0_0) := (blk_cell hcl0 0).trans rfl
 have h0_1 : W.cell? ⟨gb0, 1, none⟩ = some (.slice A0_1 l0_1.length n0_1) := (blk_cell hcl0 1).trans rfl
 have h0_2 : W.cell? ⟨gb0, 2, none⟩ = some (.slice A0_2 l0_2.length n0_2) := (blk_cell hcl0 2).trans rfl
 clear hcl0
 show Calls Try.prog 77 #[.agg #[.int .i64 x.f0, .string x.f1], .pointer (some ⟨gb0, 0, none⟩)] W _
 go_enter Try.func77, Try.ntmps77
 go_wp2
 go_ret
 exact ⟨(by unfold clo77.p; first | rfl | (simp; done)), (by repeat (first | (with_reducible first | exact Below.refl _ _ | apply below_alloc) | exact Below.refl ..))⟩

/-! ### slices_IndexFunc_Entry: function 103 -/
def lq103_ren : Go.Shelf.Ren := ⟨fun | 6 => 103 | n => n, fun | 22 => 62 | 23 => 67 | 25 => 102 | 3 => 3 | 0 => 0 | 4 => 4 | n => n, fun | n => n⟩
theorem lq103 : Go.Proofs.SlLaysH0.n6 Try.prog lq103_ren := {
 mixed := by kernel_rfl
 f6 := ⟨Try.f103.name, (by decide), Try.func103.trans (congrArg some (by kernel_rfl))⟩
 t0 := Try.underlying0
 a0 := Try.isAgg0
 z0 := Try.sizeOf0
 v0 := Try.zeroValue0
 t3 := Try.underlying3
 a3 := Try.isAgg3
 z3 := Try.sizeOf3
 v3 := Try.zeroValue3
 t4 := Try.underlying4
 a4 := Try.isAgg4
 z4 := Try.sizeOf4
 v4 := Try.zeroValue4
 t22 := Try.underlying62
 a22 := Try.isAgg62
 z22 := Try.sizeOf62
 v22 := Try.zeroValue62
 t25 := Try.underlying102
 a25 := Try.isAgg102
 z25 := Try.sizeOf102
 v25 := Try.zeroValue102 }
theorem idx103_nil (a : Option Addr) (c : Nat) (fv : Value) (w : World) : Calls Try.prog 103 #[.slice a 0 c, fv] w fun e w' => e = .returned (.int .i64 (-1)) ∧ w' = w := by
 go_enter Try.func103, Try.ntmps103
 go_wp2
 go_loopg [5, 8] 0 (fun gg _ s8 wr => s8 = .int .i64 0 ∧ wr = w)
 case atStart => exact ⟨rfl, rfl⟩
 case round =>
 obtain ⟨rfl, rfl⟩ := hrel
 go_wp2
 go_ret
 exact ⟨rfl, rfl⟩
instance inh67 : Inhabited S67 := ⟨z67⟩
def enc67 (x : S67) : List Value := [.int .i64 x.f0, .string x.f1]
theorem idx103 (p : S67 → Bool) (g : Nat) (lb : Array Value) (eg : ∀ args w, (callFunc g args).run Try.prog w = .ok (.enter g args) w) (A0 : Option Addr) (c0 : Nat) (l0 : List S67) (w : World) (hr0 : Kd.C k67 w A0 l0.length l0) (hbig : l0.length ≤ 9223372036854775807)
  (hp : PredBelow Try.prog g lb (fun x => .agg (enc67 x).toArray) p w) :
  Calls Try.prog 103 #[.slice A0 l0.length c0, .func (.func g) #[] lb] w fun e w' => e = .returned (.int .i64 (Lib.idxBy (fun _ y => p y) l0 default)) ∧ Below w.heap.size w w' := by
 rcases Nat.eq_zero_or_pos l0.length with hz | hz
 ·have hn := List.eq_nil_of_length_eq_zero hz
  subst hn
  refine (idx103_nil A0 c0 _ w).mono ?_
  rintro e w' ⟨rfl, rfl⟩
  exact ⟨rfl, Below.refl _ _⟩
 ·obtain ⟨ad, rfl, hcell⟩ := hr0.2.2 hz
  have cells : ∀ (j : Nat) x, l0[j]? = some x → ∀ i v, (enc67 x)[i]? = some v → w.cell? (ad.add (j * 2 + i)) = some v := by
   intro j x hx i v hv
   obtain ⟨c, _, hk, hc⟩ := hcell j x hx
   have hk2 := k67_open hk
   subst hk2
   exact hc i _ hv
  have h0 := cells 0 _ (List.getElem?_eq_getElem hz) 0 _ rfl
  have hsp : ad.spot = none := by
   have h0' : w.cell? ad = some _ := h0
   unfold World.cell? at h0'
   split at h0'
   ·split at h0'
    ·cases h0'
    ·simpa using ‹¬ ad.spot.isSome = true›
   ·cases h0'
  obtain ⟨bk, o, sp⟩ := ad
  cases hsp
  have := AnyQ.slices_IndexFunc lq103 2 Try.isAgg67 Try.sizeOf67 enc67 (fun _ => rfl) p g lb eg bk o l0.length c0 l0 w hp (Nat.le_refl _) hbig (World.block_lt_of_cell? w _ h0) (fun j hj i v hv => by
   have := cells j _ (List.getElem?_eq_getElem hj) i v (by rw [← getElem!_pos l0 j hj]; exact hv)
   rw [Addr.add_lit] at this
   rw [Nat.add_assoc]
   exact this)
  rw [List.take_length] at this
  exact this
def slices_IndexFunc_Entry_g77.f (l0 : List S67) (c0_0 : Int) (l0_1 : List Int) (l0_2 : List (S64)) : Option (Int) := if l0.length ≤ 9223372036854775807 then some (Lib.idxBy (fun _ y => clo77.p c0_0 l0_1 l0_2 y) l0 z67) else none
theorem slices_IndexFunc_Entry_g77.calls (A0 : Option Addr) (c0 : Nat) (l0 : List S67) (gb0 : Nat) (c0_0 : Int) (A0_1 : Option Addr) (n0_1 : Nat) (l0_1 : List Int) (A0_2 : Option Addr) (n0_2 : Nat) (l0_2 : List (S64)) (r : Int) (w : World) (hr0 : Kd.C k67 w A0 l0.length l0) (hc0 : l0.length ≤ c0) (hcl0 : w.heap[gb0]? = some (.cells #[.int .i64 c0_0, .slice A0_1 l0_1.length n0_1, .slice A0_2 l0_2.length n0_2] 34 (0, 0))) (h : slices_IndexFunc_Entry_g77.f l0 c0_0 l0_1 l0_2 = some r) :
  Calls Try.prog 103 #[.slice A0 l0.length c0, .func (.func 77) #[] #[.pointer (some ⟨gb0, 0, none⟩)]] w fun e w' => e = .returned (.int .i64 r) ∧ Below w.heap.size w w' := by
 unfold slices_IndexFunc_Entry_g77.f at h
 split at h
 case isFalse => cases h
 case isTrue hl =>
 obtain rfl := Option.some.inj h
 exact idx103 (fun y => clo77.p c0_0 l0_1 l0_2 y) 77 #[.pointer (some ⟨gb0, 0, none⟩)] (fun args W => enters_ Try.func77 rfl rfl args W) A0 c0 l0 w hr0 hl (fun W x hW => (clo77 x gb0 c0_0 A0_1 n0_1 l0_1 A0_2 n0_2 l0_2 W (blk_below hcl0 hW)).mono fun e w' hq => ⟨hq.1, hW.trans (hq.2.mono hW.size)⟩)

/-! ### slices_ContainsFunc_Entry: function 76 -/
def slices_ContainsFunc_Entry_g77.f (l0 : List S67) (c0_0 : Int) (l0_1 : List Int) (l0_2 : List (S64)) : Option (Bool) := if l0.length ≤ 9223372036854775807 then some (decide (Lib.idxBy (fun _ y => clo77.p c0_0 l0_1 l0_2 y) l0 z67 ≥ 0)) else none
theorem slices_ContainsFunc_Entry_g77.calls (A0 : Option Addr) (c0 : Nat) (l0 : List S67) (gb0 : Nat) (c0_0 : Int) (A0_1 : Option Addr) (n0_1 : Nat) (l0_1 : List Int) (A0_2 : Option Addr) (n0_2 : Nat) (l0_2 : List (S64)) (r : Bool) (w : World) (hr0 : Kd.C k67 w A0 l0.length l0) (hc0 : l0.length ≤ c0) (hcl0 : w.heap[gb0]? = some (.cells #[.int .i64 c0_0, .slice A0_1 l0_1.length n0_1, .slice A0_2 l0_2.length n0_2] 34 (0, 0))) (h : slices_ContainsFunc_Entry_g77.f l0 c0_0 l0_1 l0_2 = some r) :
  Calls Try.prog 76 #[.slice A0 l0.length c0, .func (.func 77) #[] #[.pointer (some ⟨gb0, 0, none⟩)]] w fun e w' => e = .returned (.bool r) ∧ Below w.heap.size w w' := by
 unfold slices_ContainsFunc_Entry_g77.f at h
 split at h
 case isFalse => cases h
 case isTrue hl =>
 obtain rfl := Option.some.inj h
 have hI := slices_IndexFunc_Entry_g77.calls A0 c0 l0 gb0 c0_0 A0_1 n0_1 l0_1 A0_2 n0_2 l0_2 _ w hr0 hc0 hcl0 (by unfold slices_IndexFunc_Entry_g77.f; rw [if_pos hl])
 go_enter Try.func76, Try.ntmps76
 go_wp2_with (go_at_call 103; refine hI.mono ?_; rintro e w1 ⟨rfl, hb⟩)
 go_ret
 exact ⟨rfl, hb⟩

/-! ### impl_above: function 119 -/
mutual
def impl_above.l0 : Nat → Int → List (S64) → Int → Int → Option (Int × ByteArray × Bool)
 | 0, _, _, _, _ => none
 | k + 1, x1, x12, x13, x14 => if x14 < x13 then (if 0 ≤ x14 then (if x14 < (x12.length : Int) then (if ((rd_T64 x12 x14).f0) = 2 then (impl_above.l1 k x1 x14 x12 x13 x14 ((rd_T64 x12 x14).f5) (((rd_T64 x12 x14).f5).length : Int) 0) else (impl_above.l0 k x1 x12 x13 (wrap64 (x14 + 1)))) else (none)) else (none)) else (some (0, (⟨#[]⟩ : ByteArray), false))
def impl_above.l1 : Nat → Int → Int → List (S64) → Int → Int → List (S67) → Int → Int → Option (Int × ByteArray × Bool)
 | 0, _, _, _, _, _, _, _, _ => none
 | k + 1, x1, x7, x12, x13, x14, x23, x24, x25 => if x25 < x24 then (if 0 ≤ x25 then (if x25 < (x23.length : Int) then (if ((rd_T67 x23 x25).f0) = x1 then (some (x7, (rd_T67 x23 x25).f1, true)) else (impl_above.l1 k x1 x7 x12 x13 x14 x23 x24 (wrap64 (x25 + 1)))) else (none)) else (none)) else (impl_above.l0 k x1 x12 x13 (wrap64 (x14 + 1)))
end
def impl_above.f (k : Nat) (a0_0 : Int) (l0_1 : List Int) (l0_2 : List (S64)) (a1 : Int) : Option (Int × ByteArray × Bool) := impl_above.l0 k a1 l0_2 (l0_2.length : Int) 0
theorem impl_above.mono_l : ∀ k, (∀ y0 y1 y2 y3, LeO (impl_above.l0 k y0 y1 y2 y3) (impl_above.l0 (k + 1) y0 y1 y2 y3)) ∧ (∀ y0 y1 y2 y3 y4 y5 y6 y7, LeO (impl_above.l1 k y0 y1 y2 y3 y4 y5 y6 y7) (impl_above.l1 (k + 1) y0 y1 y2 y3 y4 y5 y6 y7))
 | 0 => ⟨fun _ _ _ _ r h => by simp [impl_above.l0] at h, fun _ _ _ _ _ _ _ _ r h => by simp [impl_above.l1] at h⟩
 | k + 1 => by
  obtain ⟨ih0, ih1⟩ := impl_above.mono_l k
  refine ⟨?_, ?_⟩
  ·intro y0 y1 y2 y3
   unfold impl_above.l0
   exact mo_2
  ·intro y0 y1 y2 y3 y4 y5 y6 y7
   unfold impl_above.l1
   exact mo_2
theorem impl_above.mono : ∀ a0 a1 a2 a3 k, LeO (impl_above.f k a0 a1 a2 a3) (impl_above.f (k + 1) a0 a1 a2 a3) := by
 intro a0 a1 a2 a3 k
 obtain ⟨ih0, ih1⟩ := impl_above.mono_l k
 unfold impl_above.f
 repeat' first
   | (with_reducible exact ih0 ..)
   | (with_reducible exact ih1 ..)
   | (with_reducible exact LeO.refl _)
   | (with_reducible exact LeO.none _)
   | (with_reducible refine LeO.ite ?_ ?_)
   | (with_reducible refine LeO.bind ?_ (fun _ => ?_))
   | exact ih0 ..
   | exact ih1 ..
   | exact LeO.none _
   | refine LeO.ite ?_ ?_
   | refine LeO.bind ?_ (fun _ => ?_)
set_option maxHeartbeats 8000000 in
set_option maxRecDepth 100000 in
theorem impl_above.calls (k : Nat) (a0_0 : Int) (A0_1 : Option Addr) (c0_1 : Nat) (l0_1 : List Int) (A0_2 : Option Addr) (c0_2 : Nat) (l0_2 : List (S64)) (a1 : Int) (r1 : Int) (r2 : ByteArray) (r3 : Bool) (w : World) (hr0_1 : Kd.C (Kd.int .i64) w A0_1 l0_1.length l0_1) (hc0_1 : l0_1.length ≤ c0_1) (hr0_2 : Kd.C k64 w A0_2 l0_2.length l0_2) (hc0_2 : l0_2.length ≤ c0_2) (h : impl_above.f k a0_0 l0_1 l0_2 a1 = some (r1, r2, r3)) :
  Calls Try.prog 119 #[.agg #[.int .i64 a0_0, .slice A0_1 l0_1.length c0_1, .slice A0_2 l0_2.length c0_2], .int .i64 a1] w fun e w' => e = .returned (.tuple #[.int .i64 r1, .string r2, .bool r3]) ∧ Below w.heap.size w w' := by
 have hu34 := Try.underlying34
 have hu64 := Try.underlying64
 have hu67 := Try.underlying67
 have HR0_1 := Aside0.mk hr0_1
 have HC0_1 := Aside0.mk hc0_1
 clear hr0_1 hc0_1
 have HR0_2 := Aside0.mk hr0_2
 have HC0_2 := Aside0.mk hc0_2
 clear hr0_2 hc0_2
 have HB := Aside0.mk (Below.refl w.heap.size w)
 have H : (impl_above.l0 k a1 l0_2 (l0_2.length : Int) 0) = some (r1, r2, r3) := h
 clear h
 have H' := Aside0.mk H
 clear H
 go_enter Try.func119, Try.ntmps119
 go_wp2_with (first | ((with_reducible refine gate_dst (N := 2) rfl ?_); refine box_event ?hg (N := 2) ?hd (cs := #[.int .i64 a0_0, .slice A0_1 l0_1.length c0_1, .slice A0_2 l0_2.length c0_2]) (t := 34) ?hr ?_; (case hd => rfl); (case hg => rfl); (case hr => first | (go_simp; done) | (go_simp; rfl)); intro gb320 hg w3 hbox hb; have z_ := p_ (below_step tq_0 hb) <| p_ (hbox) <| p_ (gb_ hg tq_0) <| a_ (gb_ hg tq_0); clear HB; obtain ⟨HB, BK320, GW320, GE320⟩ := z_; clear hb hbox hg; obtain ⟨hcz4_0, hcz4_1, hcz4_2⟩ := bk3_ BK320.out; obtain ⟨hfz4_0, hfz4_1, hfz4_2⟩ := bf3_ BK320.out))
 repeat (go_quiet (first | ((with_reducible refine gate_dst (N := 2) rfl ?_); refine box_event ?hg (N := 2) ?hd (cs := #[.int .i64 a0_0, .slice A0_1 l0_1.length c0_1, .slice A0_2 l0_2.length c0_2]) (t := 34) ?hr ?_; (case hd => rfl); (case hg => rfl); (case hr => first | (go_simp; done) | (go_simp; rfl)); intro gb320 hg w3 hbox hb; have z_ := p_ (below_step tq_0 hb) <| p_ (hbox) <| p_ (gb_ hg tq_0) <| a_ (gb_ hg tq_0); clear HB; obtain ⟨HB, BK320, GW320, GE320⟩ := z_; clear hb hbox hg; obtain ⟨hcz4_0, hcz4_1, hcz4_2⟩ := bk3_ BK320.out; obtain ⟨hfz4_0, hfz4_1, hfz4_2⟩ := bf3_ BK320.out)); try go_wp2_with (first | ((with_reducible refine gate_dst (N := 2) rfl ?_); refine box_event ?hg (N := 2) ?hd (cs := #[.int .i64 a0_0, .slice A0_1 l0_1.length c0_1, .slice A0_2 l0_2.length c0_2]) (t := 34) ?hr ?_; (case hd => rfl); (case hg => rfl); (case hr => first | (go_simp; done) | (go_simp; rfl)); intro gb320 hg w3 hbox hb; have z_ := p_ (below_step tq_0 hb) <| p_ (hbox) <| p_ (gb_ hg tq_0) <| a_ (gb_ hg tq_0); clear HB; obtain ⟨HB, BK320, GW320, GE320⟩ := z_; clear hb hbox hg; obtain ⟨hcz4_0, hcz4_1, hcz4_2⟩ := bk3_ BK320.out; obtain ⟨hfz4_0, hfz4_1, hfz4_2⟩ := bf3_ BK320.out)))
 go_loopg [14] k (fun kq v14 w' => ∃ (x14_1 : Int), v14 = .int .i64 x14_1 ∧ Aside0 (impl_above.l0 kq a1 l0_2 (l0_2.length : Int) x14_1 = some (r1, r2, r3)) ∧ Aside0 (kq ≤ k) ∧ Aside0 (w'.heap[gb320]? = some (.cells #[.int .i64 a0_0, (.slice A0_1 l0_1.length c0_1), (.slice A0_2 l0_2.length c0_2)] 34 (0, 0))) ∧ Aside0 (Below w.heap.size w w'))
 case atStart => exact ⟨(0), tq_4, H', ⟨Nat.le_refl _⟩, ⟨tq_13⟩, ⟨tq_22⟩⟩
 case round =>
 clear H'
 try clear c1; try clear p2; try clear hcz4_0 hcz4_1 hcz4_2 hfz4_0 hfz4_1 hfz4_2
 obtain ⟨x14_1, rfl, HA, HK1, BK320, HB⟩ := hrel
 cases gk with
 | zero => exact absurd HA.out (by simp [impl_above.l0])
 | succ k1 =>
 have H := HA.out
 clear HA
 simp only [impl_above.l0] at H
 by_cases c5 : x14_1 < (l0_2.length : Int)
 rotate_left
 ·rw [if_neg c5] at H
  have c5b0 := decide_eq_false c5
  clear c5
  simp only [Option.some.injEq, Prod.mk.injEq] at H
  obtain ⟨rfl, rfl, rfl⟩ := H
  go_wp2
  repeat (go_quiet (fail); try go_wp2)
  go_ret3
  exact ⟨tq_2, tq_22⟩
 rw [if_pos c5] at H
 have c5b0 := decide_eq_true c5
 clear c5
 by_cases c6 : 0 ≤ x14_1
 rotate_left
 ·rw [if_neg c6] at H
  exact absurd H (by simp)
 rw [if_pos c6] at H
 have c6b0 := decide_eq_true c6
 clear c6
 by_cases c7 : x14_1 < (l0_2.length : Int)
 rotate_left
 ·rw [if_neg c7] at H
  exact absurd H (by simp)
 rw [if_pos c7] at H
 have c7b0 := decide_eq_true c7
 clear c7
 by_cases c8 : ((rd_T64 l0_2 x14_1).f0) = 2
 rotate_left
 ·rw [if_neg c8] at H
  have c8b0 := beq_eq_false_iff_ne.mpr c8
  have c8b1 := bne_iff_ne.mpr c8
  have H' := Aside0.mk H
  clear H
  have p321 : 0 ≤ (x14_1 : Int) := of_decide_eq_true tq_3
  have q321 : x14_1 < (l0_2.length : Int) := of_decide_eq_true tq_3
  obtain ⟨ad321, A321_4, c321_4, A321_5, c321_5, e321, hx321_0, hx321_1, hx321_2, hx321_3, hx321_4, hx321_5, hl321_4, hi321_4, hl321_5, hi321_5⟩ := at_T64 HR0_2.out x14_1 p321 q321
  cases e321
  replace hx321_0 := hx_ HB.out hx321_0
  replace hx321_1 := hx_ HB.out hx321_1
  replace hx321_2 := hx_ HB.out hx321_2
  replace hx321_3 := hx_ HB.out hx321_3
  replace hx321_4 := hx_ HB.out hx321_4
  replace hx321_5 := hx_ HB.out hx321_5
  have HR321_4 := Aside0.mk hi321_4
  have HC321_4 := Aside0.mk hl321_4
  clear hi321_4 hl321_4
  have HR321_5 := Aside0.mk hi321_5
  have HC321_5 := Aside0.mk hl321_5
  clear hi321_5 hl321_5
  replace p321 := eq_true p321
  replace q321 := eq_true q321
  go_wp2_with (first | ((with_reducible refine gate_dst (N := 8) rfl ?_); refine box_event ?hg (N := 8) ?hd (cs := #[.int .i64 0, .int .i64 0, .int .i64 0, .string (⟨#[]⟩ : ByteArray), .slice none 0 0, .slice none 0 0]) (t := 64) ?hr ?_; (case hd => rfl); (case hg => rfl); (case hr => first | (go_simp; done) | (go_simp; rfl)); intro gb322 hg w24 hbox hb; have z_ := p_ (blk_below tq_13 hb) <| p_ (below_step tq_22 hb) <| p_ (hbox) <| p_ (gb_ hg tq_22) <| p_ (gb_ hg tq_22) <| p_ (ltne_ hg (blk_lt tq_13)) <| a_ (gtne_ hg (blk_lt tq_13)); clear BK320 HB; obtain ⟨BK320, HB, BK322, GW322, GE322, NB320_322, NB322_320⟩ := z_; clear hb hbox hg; have hnb25 := NB322_320.out; have hnc25 := NB320_322.out; obtain ⟨hcz26_0, hcz26_1, hcz26_2, hcz26_3, hcz26_4, hcz26_5⟩ := bk6_ BK322.out; obtain ⟨hfz26_0, hfz26_1, hfz26_2, hfz26_3, hfz26_4, hfz26_5⟩ := bf6_ BK322.out))
  repeat (go_quiet (first | ((with_reducible refine gate_dst (N := 8) rfl ?_); refine box_event ?hg (N := 8) ?hd (cs := #[.int .i64 0, .int .i64 0, .int .i64 0, .string (⟨#[]⟩ : ByteArray), .slice none 0 0, .slice none 0 0]) (t := 64) ?hr ?_; (case hd => rfl); (case hg => rfl); (case hr => first | (go_simp; done) | (go_simp; rfl)); intro gb322 hg w24 hbox hb; have z_ := p_ (blk_below tq_13 hb) <| p_ (below_step tq_22 hb) <| p_ (hbox) <| p_ (gb_ hg tq_22) <| p_ (gb_ hg tq_22) <| p_ (ltne_ hg (blk_lt tq_13)) <| a_ (gtne_ hg (blk_lt tq_13)); clear BK320 HB; obtain ⟨BK320, HB, BK322, GW322, GE322, NB320_322, NB322_320⟩ := z_; clear hb hbox hg; have hnb25 := NB322_320.out; have hnc25 := NB320_322.out; obtain ⟨hcz26_0, hcz26_1, hcz26_2, hcz26_3, hcz26_4, hcz26_5⟩ := bk6_ BK322.out; obtain ⟨hfz26_0, hfz26_1, hfz26_2, hfz26_3, hfz26_4, hfz26_5⟩ := bf6_ BK322.out)); try go_wp2_with (first | ((with_reducible refine gate_dst (N := 8) rfl ?_); refine box_event ?hg (N := 8) ?hd (cs := #[.int .i64 0, .int .i64 0, .int .i64 0, .string (⟨#[]⟩ : ByteArray), .slice none 0 0, .slice none 0 0]) (t := 64) ?hr ?_; (case hd => rfl); (case hg => rfl); (case hr => first | (go_simp; done) | (go_simp; rfl)); intro gb322 hg w24 hbox hb; have z_ := p_ (blk_below tq_13 hb) <| p_ (below_step tq_22 hb) <| p_ (hbox) <| p_ (gb_ hg tq_22) <| p_ (gb_ hg tq_22) <| p_ (ltne_ hg (blk_lt tq_13)) <| a_ (gtne_ hg (blk_lt tq_13)); clear BK320 HB; obtain ⟨BK320, HB, BK322, GW322, GE322, NB320_322, NB322_320⟩ := z_; clear hb hbox hg; have hnb25 := NB322_320.out; have hnc25 := NB320_322.out; obtain ⟨hcz26_0, hcz26_1, hcz26_2, hcz26_3, hcz26_4, hcz26_5⟩ := bk6_ BK322.out; obtain ⟨hfz26_0, hfz26_1, hfz26_2, hfz26_3, hfz26_4, hfz26_5⟩ := bf6_ BK322.out)))
  go_roundg k1
  case measure => have := HK1.out; omega
  case rel => exact ⟨(wrap64 (x14_1 + 1)), tq_4, H', ⟨tq_93⟩, ⟨tq_69⟩, ⟨tq_16⟩⟩
 rw [if_pos c8] at H
 have c8b0 := beq_iff_eq.mpr c8
 have c8b1 := bne_eq_false_iff_eq.mpr c8
 clear c8
 have H' := Aside0.mk H
 clear H
 have p321 : 0 ≤ (x14_1 : Int) := of_decide_eq_true tq_3
 have q321 : x14_1 < (l0_2.length : Int) := of_decide_eq_true tq_3
 obtain ⟨ad321, A321_4, c321_4, A321_5, c321_5, e321, hx321_0, hx321_1, hx321_2, hx321_3, hx321_4, hx321_5, hl321_4, hi321_4, hl321_5, hi321_5⟩ := at_T64 HR0_2.out x14_1 p321 q321
 cases e321
 replace hx321_0 := hx_ HB.out hx321_0
 replace hx321_1 := hx_ HB.out hx321_1
 replace hx321_2 := hx_ HB.out hx321_2
 replace hx321_3 := hx_ HB.out hx321_3
 replace hx321_4 := hx_ HB.out hx321_4
 replace hx321_5 := hx_ HB.out hx321_5
 have HR321_4 := Aside0.mk hi321_4
 have HC321_4 := Aside0.mk hl321_4
 clear hi321_4 hl321_4
 have HR321_5 := Aside0.mk hi321_5
 have HC321_5 := Aside0.mk hl321_5
 clear hi321_5 hl321_5
 replace p321 := eq_true p321
 replace q321 := eq_true q321
 go_wp2_with (first | ((with_reducible refine gate_dst (N := 8) rfl ?_); refine box_event ?hg (N := 8) ?hd (cs := #[.int .i64 0, .int .i64 0, .int .i64 0, .string (⟨#[]⟩ : ByteArray), .slice none 0 0, .slice none 0 0]) (t := 64) ?hr ?_; (case hd => rfl); (case hg => rfl); (case hr => first | (go_simp; done) | (go_simp; rfl)); intro gb322 hg w9 hbox hb; have z_ := p_ (blk_below tq_13 hb) <| p_ (below_step tq_22 hb) <| p_ (hbox) <| p_ (gb_ hg tq_22) <| p_ (gb_ hg tq_22) <| p_ (ltne_ hg (blk_lt tq_13)) <| a_ (gtne_ hg (blk_lt tq_13)); clear BK320 HB; obtain ⟨BK320, HB, BK322, GW322, GE322, NB320_322, NB322_320⟩ := z_; clear hb hbox hg; have hnb10 := NB322_320.out; have hnc10 := NB320_322.out; obtain ⟨hcz11_0, hcz11_1, hcz11_2, hcz11_3, hcz11_4, hcz11_5⟩ := bk6_ BK322.out; obtain ⟨hfz11_0, hfz11_1, hfz11_2, hfz11_3, hfz11_4, hfz11_5⟩ := bf6_ BK322.out))
 repeat (go_quiet (first | ((with_reducible refine gate_dst (N := 8) rfl ?_); refine box_event ?hg (N := 8) ?hd (cs := #[.int .i64 0, .int .i64 0, .int .i64 0, .string (⟨#[]⟩ : ByteArray), .slice none 0 0, .slice none 0 0]) (t := 64) ?hr ?_; (case hd => rfl); (case hg => rfl); (case hr => first | (go_simp; done) | (go_simp; rfl)); intro gb322 hg w9 hbox hb; have z_ := p_ (blk_below tq_13 hb) <| p_ (below_step tq_22 hb) <| p_ (hbox) <| p_ (gb_ hg tq_22) <| p_ (gb_ hg tq_22) <| p_ (ltne_ hg (blk_lt tq_13)) <| a_ (gtne_ hg (blk_lt tq_13)); clear BK320 HB; obtain ⟨BK320, HB, BK322, GW322, GE322, NB320_322, NB322_320⟩ := z_; clear hb hbox hg; have hnb10 := NB322_320.out; have hnc10 := NB320_322.out; obtain ⟨hcz11_0, hcz11_1, hcz11_2, hcz11_3, hcz11_4, hcz11_5⟩ := bk6_ BK322.out; obtain ⟨hfz11_0, hfz11_1, hfz11_2, hfz11_3, hfz11_4, hfz11_5⟩ := bf6_ BK322.out)); try go_wp2_with (first | ((with_reducible refine gate_dst (N := 8) rfl ?_); refine box_event ?hg (N := 8) ?hd (cs := #[.int .i64 0, .int .i64 0, .int .i64 0, .string (⟨#[]⟩ : ByteArray), .slice none 0 0, .slice none 0 0]) (t := 64) ?hr ?_; (case hd => rfl); (case hg => rfl); (case hr => first | (go_simp; done) | (go_simp; rfl)); intro gb322 hg w9 hbox hb; have z_ := p_ (blk_below tq_13 hb) <| p_ (below_step tq_22 hb) <| p_ (hbox) <| p_ (gb_ hg tq_22) <| p_ (gb_ hg tq_22) <| p_ (ltne_ hg (blk_lt tq_13)) <| a_ (gtne_ hg (blk_lt tq_13)); clear BK320 HB; obtain ⟨BK320, HB, BK322, GW322, GE322, NB320_322, NB322_320⟩ := z_; clear hb hbox hg; have hnb10 := NB322_320.out; have hnc10 := NB320_322.out; obtain ⟨hcz11_0, hcz11_1, hcz11_2, hcz11_3, hcz11_4, hcz11_5⟩ := bk6_ BK322.out; obtain ⟨hfz11_0, hfz11_1, hfz11_2, hfz11_3, hfz11_4, hfz11_5⟩ := bf6_ BK322.out)))
 go_loopg [25] k1 (fun kq v25 w' => ∃ (x25_2 : Int), v25 = .int .i64 x25_2 ∧ Aside0 (impl_above.l1 kq a1 x14_1 l0_2 (l0_2.length : Int) x14_1 ((rd_T64 l0_2 x14_1).f5) (((rd_T64 l0_2 x14_1).f5).length : Int) x25_2 = some (r1, r2, r3)) ∧ Aside0 (kq ≤ k1) ∧ Aside0 (w'.heap[gb320]? = some (.cells #[.int .i64 a0_0, (.slice A0_1 l0_1.length c0_1), (.slice (some ad321) l0_2.length c0_2)] 34 (0, 0))) ∧ Aside0 (w'.heap[gb322]? = some (.cells #[.int .i64 ((rd_T64 l0_2 x14_1).f0), .int .i64 ((rd_T64 l0_2 x14_1).f1), .int .i64 ((rd_T64 l0_2 x14_1).f2), .string ((rd_T64 l0_2 x14_1).f3), (.slice A321_4 ((rd_T64 l0_2 x14_1).f4).length c321_4), (.slice A321_5 ((rd_T64 l0_2 x14_1).f5).length c321_5)] 64 (0, 0))) ∧ Aside0 (Below w.heap.size w w'))
 case atStart => exact ⟨(0), tq_4, H', ⟨Nat.le_refl _⟩, ⟨tq_69⟩, ⟨(by (with_reducible repeat (first | refine blk_drewN ?_ _ | refine blk_drew ?_ | refine blk_alloc ?_ _)); refine blk_put (cs := #[.int .i64 ((rd_T64 l0_2 x14_1).f0), .int .i64 ((rd_T64 l0_2 x14_1).f1), .int .i64 ((rd_T64 l0_2 x14_1).f2), .string ((rd_T64 l0_2 x14_1).f3), .slice A321_4 ((rd_T64 l0_2 x14_1).f4).length c321_4, .slice none 0 0]) ?_ 5 _ rfl; (with_reducible repeat (first | refine blk_drewN ?_ _ | refine blk_drew ?_ | refine blk_alloc ?_ _)); refine blk_put (cs := #[.int .i64 ((rd_T64 l0_2 x14_1).f0), .int .i64 ((rd_T64 l0_2 x14_1).f1), .int .i64 ((rd_T64 l0_2 x14_1).f2), .string ((rd_T64 l0_2 x14_1).f3), .slice none 0 0, .slice none 0 0]) ?_ 4 _ rfl; (with_reducible repeat (first | refine blk_drewN ?_ _ | refine blk_drew ?_ | refine blk_alloc ?_ _)); refine blk_put (cs := #[.int .i64 ((rd_T64 l0_2 x14_1).f0), .int .i64 ((rd_T64 l0_2 x14_1).f1), .int .i64 ((rd_T64 l0_2 x14_1).f2), .string (⟨#[]⟩ : ByteArray), .slice none 0 0, .slice none 0 0]) ?_ 3 _ rfl; (with_reducible repeat (first | refine blk_drewN ?_ _ | refine blk_drew ?_ | refine blk_alloc ?_ _)); refine blk_put (cs := #[.int .i64 ((rd_T64 l0_2 x14_1).f0), .int .i64 ((rd_T64 l0_2 x14_1).f1), .int .i64 0, .string (⟨#[]⟩ : ByteArray), .slice none 0 0, .slice none 0 0]) ?_ 2 _ rfl; (with_reducible repeat (first | refine blk_drewN ?_ _ | refine blk_drew ?_ | refine blk_alloc ?_ _)); refine blk_put (cs := #[.int .i64 ((rd_T64 l0_2 x14_1).f0), .int .i64 0, .int .i64 0, .string (⟨#[]⟩ : ByteArray), .slice none 0 0, .slice none 0 0]) ?_ 1 _ rfl; (with_reducible repeat (first | refine blk_drewN ?_ _ | refine blk_drew ?_ | refine blk_alloc ?_ _)); refine blk_put (cs := #[.int .i64 0, .int .i64 0, .int .i64 0, .string (⟨#[]⟩ : ByteArray), .slice none 0 0, .slice none 0 0]) ?_ 0 _ rfl; (with_reducible repeat (first | refine blk_drewN ?_ _ | refine blk_drew ?_ | refine blk_alloc ?_ _)); exact BK322.out)⟩, ⟨tq_16⟩⟩
 case round =>
 clear H'
 try clear c1; try clear p2; try clear c3; try clear p3; try clear q3; try clear hx3; try clear c5; try clear c5b0; try clear c6; try clear c6b0; try clear c7; try clear c7b0; try clear c8; try clear c8b0; try clear c8b1; try clear c10; try clear c11; try clear hcz11_0 hcz11_1 hcz11_2 hcz11_3 hcz11_4 hcz11_5; try clear hcz4_0 hcz4_1 hcz4_2; try clear hfz11_0 hfz11_1 hfz11_2 hfz11_3 hfz11_4 hfz11_5; try clear hfz4_0 hfz4_1 hfz4_2; try clear hx321_0; try clear hx321_1; try clear hx321_2; try clear hx321_3; try clear hx321_4; try clear hx321_5; try clear p2; try clear p321; try clear q321
 obtain ⟨x25_2, rfl, HA, HK2, BK320, BK322, HB⟩ := hrel
 cases gk with
 | zero => exact absurd HA.out (by simp [impl_above.l1])
 | succ k2 =>
 have H := HA.out
 clear HA
 simp only [impl_above.l1] at H
 by_cases c12 : x25_2 < (((rd_T64 l0_2 x14_1).f5).length : Int)
 rotate_left
 ·rw [if_neg c12] at H
  have c12b0 := decide_eq_false c12
  clear c12
  have H' := Aside0.mk H
  clear H
  go_wp2
  repeat (go_quiet (fail); try go_wp2)
  go_roundg k2
  case measure => have := HK1.out; have := HK2.out; omega
  case rel => exact ⟨(wrap64 (x14_1 + 1)), tq_4, H', ⟨tq_129⟩, ⟨tq_13⟩, ⟨tq_16⟩⟩
 rw [if_pos c12] at H
 have c12b0 := decide_eq_true c12
 clear c12
 by_cases c13 : 0 ≤ x25_2
 rotate_left
 ·rw [if_neg c13] at H
  exact absurd H (by simp)
 rw [if_pos c13] at H
 have c13b0 := decide_eq_true c13
 clear c13
 by_cases c14 : x25_2 < (((rd_T64 l0_2 x14_1).f5).length : Int)
 rotate_left
 ·rw [if_neg c14] at H
  exact absurd H (by simp)
 rw [if_pos c14] at H
 have c14b0 := decide_eq_true c14
 clear c14
 by_cases c15 : ((rd_T67 ((rd_T64 l0_2 x14_1).f5) x25_2).f0) = a1
 ·rw [if_pos c15] at H
  have c15b0 := beq_iff_eq.mpr c15
  have c15b1 := bne_eq_false_iff_eq.mpr c15
  clear c15
  simp only [Option.some.injEq, Prod.mk.injEq] at H
  obtain ⟨rfl, rfl, rfl⟩ := H
  have p323 : 0 ≤ (x25_2 : Int) := of_decide_eq_true tq_3
  have q323 : x25_2 < (((rd_T64 l0_2 x14_1).f5).length : Int) := of_decide_eq_true tq_3
  obtain ⟨ad323, e323, hx323_0, hx323_1⟩ := at_T67 HR321_5.out x25_2 p323 q323
  cases e323
  replace hx323_0 := hx_ HB.out hx323_0
  replace hx323_1 := hx_ HB.out hx323_1
  replace p323 := eq_true p323
  replace q323 := eq_true q323
  go_wp2_with (first | ((with_reducible refine gate_dst (N := 10) rfl ?_); refine box_event ?hg (N := 10) ?hd (cs := #[.int .i64 0, .string (⟨#[]⟩ : ByteArray)]) (t := 67) ?hr ?_; (case hd => rfl); (case hg => rfl); (case hr => first | (go_simp; done) | (go_simp; rfl)); intro gb324 hg w16 hbox hb; have z_ := p_ (blk_below tq_13 hb) <| p_ (blk_below tq_37 hb) <| p_ (below_step tq_16 hb) <| p_ (hbox) <| p_ (gb_ hg tq_16) <| p_ (gb_ hg tq_16) <| p_ (ltne_ hg (blk_lt tq_13)) <| p_ (gtne_ hg (blk_lt tq_13)) <| p_ (ltne_ hg (blk_lt tq_37)) <| a_ (gtne_ hg (blk_lt tq_37)); clear BK320 BK322 HB; obtain ⟨BK320, BK322, HB, BK324, GW324, GE324, NB320_324, NB324_320, NB322_324, NB324_322⟩ := z_; clear hb hbox hg; have hnb17 := NB324_320.out; have hnc17 := NB320_324.out; have hnb18 := NB324_322.out; have hnc18 := NB322_324.out; obtain ⟨hcz19_0, hcz19_1⟩ := bk2_ BK324.out; obtain ⟨hfz19_0, hfz19_1⟩ := bf2_ BK324.out))
  repeat (go_quiet (first | ((with_reducible refine gate_dst (N := 10) rfl ?_); refine box_event ?hg (N := 10) ?hd (cs := #[.int .i64 0, .string (⟨#[]⟩ : ByteArray)]) (t := 67) ?hr ?_; (case hd => rfl); (case hg => rfl); (case hr => first | (go_simp; done) | (go_simp; rfl)); intro gb324 hg w16 hbox hb; have z_ := p_ (blk_below tq_13 hb) <| p_ (blk_below tq_37 hb) <| p_ (below_step tq_16 hb) <| p_ (hbox) <| p_ (gb_ hg tq_16) <| p_ (gb_ hg tq_16) <| p_ (ltne_ hg (blk_lt tq_13)) <| p_ (gtne_ hg (blk_lt tq_13)) <| p_ (ltne_ hg (blk_lt tq_37)) <| a_ (gtne_ hg (blk_lt tq_37)); clear BK320 BK322 HB; obtain ⟨BK320, BK322, HB, BK324, GW324, GE324, NB320_324, NB324_320, NB322_324, NB324_322⟩ := z_; clear hb hbox hg; have hnb17 := NB324_320.out; have hnc17 := NB320_324.out; have hnb18 := NB324_322.out; have hnc18 := NB322_324.out; obtain ⟨hcz19_0, hcz19_1⟩ := bk2_ BK324.out; obtain ⟨hfz19_0, hfz19_1⟩ := bf2_ BK324.out)); try go_wp2_with (first | ((with_reducible refine gate_dst (N := 10) rfl ?_); refine box_event ?hg (N := 10) ?hd (cs := #[.int .i64 0, .string (⟨#[]⟩ : ByteArray)]) (t := 67) ?hr ?_; (case hd => rfl); (case hg => rfl); (case hr => first | (go_simp; done) | (go_simp; rfl)); intro gb324 hg w16 hbox hb; have z_ := p_ (blk_below tq_13 hb) <| p_ (blk_below tq_37 hb) <| p_ (below_step tq_16 hb) <| p_ (hbox) <| p_ (gb_ hg tq_16) <| p_ (gb_ hg tq_16) <| p_ (ltne_ hg (blk_lt tq_13)) <| p_ (gtne_ hg (blk_lt tq_13)) <| p_ (ltne_ hg (blk_lt tq_37)) <| a_ (gtne_ hg (blk_lt tq_37)); clear BK320 BK322 HB; obtain ⟨BK320, BK322, HB, BK324, GW324, GE324, NB320_324, NB324_320, NB322_324, NB324_322⟩ := z_; clear hb hbox hg; have hnb17 := NB324_320.out; have hnc17 := NB320_324.out; have hnb18 := NB324_322.out; have hnc18 := NB322_324.out; obtain ⟨hcz19_0, hcz19_1⟩ := bk2_ BK324.out; obtain ⟨hfz19_0, hfz19_1⟩ := bf2_ BK324.out)))
  go_ret3
  exact ⟨tq_2, tq_147⟩
 rw [if_neg c15] at H
 have c15b0 := beq_eq_false_iff_ne.mpr c15
 have c15b1 := bne_iff_ne.mpr c15
 have H' := Aside0.mk H
 clear H
 have p323 : 0 ≤ (x25_2 : Int) := of_decide_eq_true tq_3
 have q323 : x25_2 < (((rd_T64 l0_2 x14_1).f5).length : Int) := of_decide_eq_true tq_3
 obtain ⟨ad323, e323, hx323_0, hx323_1⟩ := at_T67 HR321_5.out x25_2 p323 q323
 cases e323
 replace hx323_0 := hx_ HB.out hx323_0
 replace hx323_1 := hx_ HB.out hx323_1
 replace p323 := eq_true p323
 replace q323 := eq_true q323
 go_wp2_with (first | ((with_reducible refine gate_dst (N := 10) rfl ?_); refine box_event ?hg (N := 10) ?hd (cs := #[.int .i64 0, .string (⟨#[]⟩ : ByteArray)]) (t := 67) ?hr ?_; (case hd => rfl); (case hg => rfl); (case hr => first | (go_simp; done) | (go_simp; rfl)); intro gb324 hg w20 hbox hb; have z_ := p_ (blk_below tq_13 hb) <| p_ (blk_below tq_37 hb) <| p_ (below_step tq_16 hb) <| p_ (hbox) <| p_ (gb_ hg tq_16) <| p_ (gb_ hg tq_16) <| p_ (ltne_ hg (blk_lt tq_13)) <| p_ (gtne_ hg (blk_lt tq_13)) <| p_ (ltne_ hg (blk_lt tq_37)) <| a_ (gtne_ hg (blk_lt tq_37)); clear BK320 BK322 HB; obtain ⟨BK320, BK322, HB, BK324, GW324, GE324, NB320_324, NB324_320, NB322_324, NB324_322⟩ := z_; clear hb hbox hg; have hnb21 := NB324_320.out; have hnc21 := NB320_324.out; have hnb22 := NB324_322.out; have hnc22 := NB322_324.out; obtain ⟨hcz23_0, hcz23_1⟩ := bk2_ BK324.out; obtain ⟨hfz23_0, hfz23_1⟩ := bf2_ BK324.out))
 repeat (go_quiet (first | ((with_reducible refine gate_dst (N := 10) rfl ?_); refine box_event ?hg (N := 10) ?hd (cs := #[.int .i64 0, .string (⟨#[]⟩ : ByteArray)]) (t := 67) ?hr ?_; (case hd => rfl); (case hg => rfl); (case hr => first | (go_simp; done) | (go_simp; rfl)); intro gb324 hg w20 hbox hb; have z_ := p_ (blk_below tq_13 hb) <| p_ (blk_below tq_37 hb) <| p_ (below_step tq_16 hb) <| p_ (hbox) <| p_ (gb_ hg tq_16) <| p_ (gb_ hg tq_16) <| p_ (ltne_ hg (blk_lt tq_13)) <| p_ (gtne_ hg (blk_lt tq_13)) <| p_ (ltne_ hg (blk_lt tq_37)) <| a_ (gtne_ hg (blk_lt tq_37)); clear BK320 BK322 HB; obtain ⟨BK320, BK322, HB, BK324, GW324, GE324, NB320_324, NB324_320, NB322_324, NB324_322⟩ := z_; clear hb hbox hg; have hnb21 := NB324_320.out; have hnc21 := NB320_324.out; have hnb22 := NB324_322.out; have hnc22 := NB322_324.out; obtain ⟨hcz23_0, hcz23_1⟩ := bk2_ BK324.out; obtain ⟨hfz23_0, hfz23_1⟩ := bf2_ BK324.out)); try go_wp2_with (first | ((with_reducible refine gate_dst (N := 10) rfl ?_); refine box_event ?hg (N := 10) ?hd (cs := #[.int .i64 0, .string (⟨#[]⟩ : ByteArray)]) (t := 67) ?hr ?_; (case hd => rfl); (case hg => rfl); (case hr => first | (go_simp; done) | (go_simp; rfl)); intro gb324 hg w20 hbox hb; have z_ := p_ (blk_below tq_13 hb) <| p_ (blk_below tq_37 hb) <| p_ (below_step tq_16 hb) <| p_ (hbox) <| p_ (gb_ hg tq_16) <| p_ (gb_ hg tq_16) <| p_ (ltne_ hg (blk_lt tq_13)) <| p_ (gtne_ hg (blk_lt tq_13)) <| p_ (ltne_ hg (blk_lt tq_37)) <| a_ (gtne_ hg (blk_lt tq_37)); clear BK320 BK322 HB; obtain ⟨BK320, BK322, HB, BK324, GW324, GE324, NB320_324, NB324_320, NB322_324, NB324_322⟩ := z_; clear hb hbox hg; have hnb21 := NB324_320.out; have hnc21 := NB320_324.out; have hnb22 := NB324_322.out; have hnc22 := NB322_324.out; obtain ⟨hcz23_0, hcz23_1⟩ := bk2_ BK324.out; obtain ⟨hfz23_0, hfz23_1⟩ := bf2_ BK324.out)))
 go_roundg k2
 case measure => have := HK1.out; have := HK2.out; omega
 case rel => exact ⟨(wrap64 (x25_2 + 1)), tq_4, H', ⟨tq_129⟩, ⟨(by (with_reducible repeat (first | refine blk_drewN ?_ _ | refine blk_drew ?_ | refine blk_alloc ?_ _)); refine blk_far ?_ NB320_324.out _; (with_reducible repeat (first | refine blk_drewN ?_ _ | refine blk_drew ?_ | refine blk_alloc ?_ _)); refine blk_far ?_ NB320_324.out _; (with_reducible repeat (first | refine blk_drewN ?_ _ | refine blk_drew ?_ | refine blk_alloc ?_ _)); exact BK320.out)⟩, ⟨(by (with_reducible repeat (first | refine blk_drewN ?_ _ | refine blk_drew ?_ | refine blk_alloc ?_ _)); refine blk_far ?_ NB322_324.out _; (with_reducible repeat (first | refine blk_drewN ?_ _ | refine blk_drew ?_ | refine blk_alloc ?_ _)); refine blk_far ?_ NB322_324.out _; (with_reducible repeat (first | refine blk_drewN ?_ _ | refine blk_drew ?_ | refine blk_alloc ?_ _)); exact BK322.out)⟩, ⟨tq_147⟩⟩

/-! ### slices_Reverse_string: function 120 -/
def slices_Reverse_string.l0 : Nat → List ByteArray → Int → Int → Option (List ByteArray)
 | 0, _, _, _ => none
 | k + 1, x0, x2, x3 => if x2 < x3 then (if 0 ≤ x3 then (if x3 < (x0.length : Int) then (if 0 ≤ x2 then (if x2 < (x0.length : Int) then (slices_Reverse_string.l0 k ((x0.set (x2 : Int).toNat (rdOf ByteArray.empty x0 x3)).set (x3 : Int).toNat (rdOf ByteArray.empty x0 x2)) (wrap64 (x2 + 1)) (wrap64 (x3 - 1))) else (none)) else (none)) else (none)) else (none)) else (some x0)
def slices_Reverse_string.f (k : Nat) (l0 : List ByteArray) : Option (List ByteArray) := slices_Reverse_string.l0 k l0 0 (wrap64 ((l0.length : Int) - 1))
theorem slices_Reverse_string.mono_l : ∀ k, (∀ y0 y1 y2, LeO (slices_Reverse_string.l0 k y0 y1 y2) (slices_Reverse_string.l0 (k + 1) y0 y1 y2))
 | 0 => fun _ _ _ r h => by simp [slices_Reverse_string.l0] at h
 | k + 1 => by
  have ih0 := slices_Reverse_string.mono_l k
  ·intro y0 y1 y2
   unfold slices_Reverse_string.l0
   exact mo_0
theorem slices_Reverse_string.mono : ∀ a0 k, LeO (slices_Reverse_string.f k a0) (slices_Reverse_string.f (k + 1) a0) := by
 intro a0 k
 have ih0 := slices_Reverse_string.mono_l k
 unfold slices_Reverse_string.f
 repeat' first
   | (with_reducible exact ih0 ..)
   | (with_reducible exact LeO.refl _)
   | (with_reducible exact LeO.none _)
   | (with_reducible refine LeO.ite ?_ ?_)
   | (with_reducible refine LeO.bind ?_ (fun _ => ?_))
   | exact ih0 ..
   | exact LeO.none _
   | refine LeO.ite ?_ ?_
   | refine LeO.bind ?_ (fun _ => ?_)
def slices_Reverse_string.T3 : Bool × List (List Nat × List Nat) := (true, [([], []), ([], []), ([], []), ([], []), ([], []), ([], []), ([4, 5], [4, 5]), ([6], [6]), ([], []), ([], []), ([8, 9], [8, 9]), ([10], [10]), ([0, 1, 0, 1, 4, 5, 6, 7, 11], [0, 1]), ([12, 7, 0, 1, 4, 5, 6, 7, 11], [7, 12]), ([2, 3, 0, 1, 2, 3, 4, 5, 6, 7, 8, 9, 10, 11, 12, 13], [2, 3]), ([14, 11, 13, 0, 1, 2, 3, 4, 5, 6, 7, 8, 9, 10, 11, 12, 13], [11, 14])])
def slices_Reverse_string.B3 : List Nat := [0, 0, 0, 0, 0, 0, 48, 112, 0, 0, 768, 1792, 4083, 8179, 16383, 32767]
theorem slices_Reverse_string.tab3 : rtab .any (opsOf Try.f120 3) = slices_Reverse_string.T3 := by kernel_rfl
theorem slices_Reverse_string.bits3 : waitsOk slices_Reverse_string.T3.2 slices_Reverse_string.B3 = true := by kernel_rfl
set_option maxHeartbeats 8000000 in
set_option maxRecDepth 100000 in
theorem slices_Reverse_string.calls (k : Nat) (P0_ : Nat → Prop) (u9000_ : Value) (l0 : List ByteArray) (r : List ByteArray) (w0 w : World) (hB : Below w0.heap.size w0 w) (ho0 : Kd.R Kd.string 9 w w0.heap.size P0_ u9000_ l0) (h : slices_Reverse_string.f k l0 = some r) :
  Calls Try.prog 120 #[u9000_] w fun e w' => e = .returned (.tuple #[]) ∧ Kd.R Kd.string 9 w' w0.heap.size (fun k_ => (P0_ k_ ∨ w.heap.size ≤ k_)) u9000_ r ∧ Below w0.heap.size w0 w' ∧ Kept w w' (fun k_ => P0_ k_) := by
 have HO0 := Aside0.mk (show Kd.R Kd.string 9 w w0.heap.size (fun k_ => (P0_ k_ ∨ w.heap.size ≤ k_)) u9000_ l0 from Kd.R_mono ho0 (fun k_ hk => (.inl hk)))
 have HK := Aside0.mk (Kept.refl w (fun k_ => P0_ k_))
 have HW0 := Aside0.mk hB.size
 have HB := Aside0.mk hB
 clear hB
 have H : (slices_Reverse_string.l0 k l0 0 (wrap64 ((l0.length : Int) - 1))) = some r := h
 clear h
 have H' := Aside0.mk H
 clear H
 obtain ⟨Ao2, co2, eo2⟩ := Kd.R_slice HO0.out
 subst eo2
 go_enter Try.func120, Try.ntmps120
 go_wp2
 go_loopg [2, 3] k (fun kq v2 v3 w' => ∃ (x0_1 : List ByteArray) (x2_1 : Int) (x3_1 : Int), v2 = .int .i64 x2_1 ∧ v3 = .int .i64 x3_1 ∧ Aside0 (slices_Reverse_string.l0 kq x0_1 x2_1 x3_1 = some r) ∧ Aside0 (kq ≤ k) ∧ Aside0 (Kd.R Kd.string 9 w' w0.heap.size (fun k_ => (P0_ k_ ∨ w.heap.size ≤ k_)) (.slice Ao2 l0.length co2) x0_1) ∧ Aside0 (Kept w w' (fun k_ => P0_ k_)) ∧ Aside0 (Below w0.heap.size w0 w'))
 case atStart => exact ⟨(l0), (0), (wrap64 ((l0.length : Int) - 1)), tq_4, tq_4, H', ⟨Nat.le_refl _⟩, ⟨(by (with_reducible repeat (first | apply Kd.R_alloc | apply Kd.R_drewN | apply Kd.R_drew)); exact HO0.out)⟩, ⟨tq_178⟩, ⟨tq_0⟩⟩
 case round =>
 clear H'
 try clear c1; try clear p2
 obtain ⟨x0_1, x2_1, x3_1, rfl, rfl, HA, HK1, HO_0, HK, HB⟩ := hrel
 have hl0_1 := (Kd.R_reads' HO_0.out).1
 rw [hl0_1] at HO_0
 (try simp only [hl0_1])
 cases gk with
 | zero => exact absurd HA.out (by simp [slices_Reverse_string.l0])
 | succ k1 =>
 have H := HA.out
 clear HA
 simp only [slices_Reverse_string.l0] at H
 by_cases c3 : x2_1 < x3_1
 rotate_left
 ·rw [if_neg c3] at H
  have c3b0 := decide_eq_false c3
  clear c3
  obtain rfl := Option.some.inj H
  go_wp2
  first | go_end0 | ((try simp only [Exit.inBlock, Exit.then]); refine bodyPost_ret (results_none rfl _ _ _) rfl ?_)
  exact ⟨tq_2, (by first | exact (by (with_reducible repeat (first | apply Kd.R_alloc | apply Kd.R_drewN | apply Kd.R_drew)); exact HO_0.out) | (simp only [hl0_1]; exact (by (with_reducible repeat (first | apply Kd.R_alloc | apply Kd.R_drewN | apply Kd.R_drew)); exact HO_0.out))), tq_0, tq_178⟩
 rw [if_pos c3] at H
 have c3b0 := decide_eq_true c3
 clear c3
 by_cases c4 : 0 ≤ x3_1
 rotate_left
 ·rw [if_neg c4] at H
  exact absurd H (by simp)
 rw [if_pos c4] at H
 have c4b0 := decide_eq_true c4
 clear c4
 by_cases c5 : x3_1 < (x0_1.length : Int)
 rotate_left
 ·rw [if_neg c5] at H
  exact absurd H (by simp)
 rw [if_pos c5] at H
 have c5b0 := decide_eq_true c5
 clear c5
 by_cases c6 : 0 ≤ x2_1
 rotate_left
 ·rw [if_neg c6] at H
  exact absurd H (by simp)
 rw [if_pos c6] at H
 have c6b0 := decide_eq_true c6
 clear c6
 by_cases c7 : x2_1 < (x0_1.length : Int)
 rotate_left
 ·rw [if_neg c7] at H
  exact absurd H (by simp)
 rw [if_pos c7] at H
 have c7b0 := decide_eq_true c7
 clear c7
 obtain ⟨y327, hy327⟩ : ∃ y_ : List ByteArray, y_ = (x0_1.set (x2_1 : Int).toNat (rdOf ByteArray.empty x0_1 x3_1)) := ⟨_, rfl⟩
 replace H : (slices_Reverse_string.l0 k1 (y327.set (x3_1 : Int).toNat (rdOf ByteArray.empty x0_1 x2_1)) (wrap64 (x2_1 + 1)) (wrap64 (x3_1 - 1))) = some r := by first | (rw [hy327]; with_reducible exact H) | (have H2_ := (Option.bind_some _ _).symm.trans H; rw [hy327]; with_reducible exact H2_) | (have H2_ := (Option.bind_some _ _).symm.trans H; with_reducible exact H2_) | with_reducible exact H | (rw [hy327]; exact H) | exact H
 have Ny327 := Aside0.mk hy327
 clear hy327
 obtain ⟨y328, hy328⟩ : ∃ y_ : List ByteArray, y_ = (y327.set (x3_1 : Int).toNat (rdOf ByteArray.empty x0_1 x2_1)) := ⟨_, rfl⟩
 replace H : (slices_Reverse_string.l0 k1 y328 (wrap64 (x2_1 + 1)) (wrap64 (x3_1 - 1))) = some r := by first | (rw [hy328]; with_reducible exact H) | (have H2_ := (Option.bind_some _ _).symm.trans H; rw [hy328]; with_reducible exact H2_) | (have H2_ := (Option.bind_some _ _).symm.trans H; with_reducible exact H2_) | with_reducible exact H | (rw [hy328]; exact H) | exact H
 have Ny328 := Aside0.mk hy328
 clear hy328
 have H' := Aside0.mk H
 clear H
 try go_wp2
 have z_ := p_ (Kd.R_drew HO_0.out) <| p_ (Kept.drew HK.out) <| a_ (below_drew1 HB.out)
 clear HO_0 HK HB
 obtain ⟨HO_0, HK, HB⟩ := z_
 have p325 : 0 ≤ (x3_1 : Int) := of_decide_eq_true tq_3
 have q325 : x3_1 < (x0_1.length : Int) := of_decide_eq_true tq_3
 obtain ⟨ad325, e325, hx325_0⟩ := Kd.at_string (Kd.R_reads' HO_0.out).2.2 x3_1 p325 q325
 cases e325
 replace p325 := eq_true p325
 replace q325 := eq_true q325
 have p326 : 0 ≤ (x2_1 : Int) := of_decide_eq_true tq_3
 have q326 : x2_1 < (x0_1.length : Int) := of_decide_eq_true tq_3
 obtain ⟨ad326, e326, hx326_0⟩ := Kd.at_string (Kd.R_reads' HO_0.out).2.2 x2_1 p326 q326
 obtain rfl : ad325 = ad326 := (by injection e326)
 replace p326 := eq_true p326
 replace q326 := eq_true q326
 have p8 : 0 ≤ (x2_1 : Int) := of_decide_eq_true tq_3
 have q8 : (x2_1 : Int) < ((x0_1.length : Int) : Int) := of_decide_eq_true tq_3
 obtain ⟨go8, co8, eo8, gb8, gl8, cl8, HG8⟩ := Kd.R_form HO_0.out (by omega)
 (first | cases eo8 | (injection eo8 with ea_ en_ ec_; (first | subst ea_ | (injection ea_ with ea_; subst ea_)); subst ec_; clear en_))
 have GB8 := Aside0.mk gb8
 have GG8 := Aside0.mk HG8
 clear gb8 gl8 HG8
 have HMgo8 := Aside0.mk (show (P0_ go8 ∨ w.heap.size ≤ go8) from (HO_0.out.1 _ rfl))
 (first | simp only [add_plain] at hx325_0 | skip)
 (first | simp only [add_plain] at hx326_0 | skip)
 obtain ⟨hx8_0, hf8_0⟩ := Kd.R_celln (⟨#[]⟩ : ByteArray) HO_0.out (x2_1 : Int) p8 q8
 replace p8 := eq_true p8
 replace q8 := eq_true q8
 have HP11 := Kd.R_putn HO_0.out (x2_1 : Int) (rdOf ByteArray.empty x0_1 x3_1)
 rw [← Ny327.out] at HP11
 have HQ11 := Aside0.mk HP11
 clear HP11
 have p9 : 0 ≤ (x3_1 : Int) := of_decide_eq_true tq_3
 have q9 : (x3_1 : Int) < ((x0_1.length : Int) : Int) := of_decide_eq_true tq_3
 obtain ⟨hx9_0, hf9_0⟩ := Kd.R_celln (⟨#[]⟩ : ByteArray) HQ11.out (x3_1 : Int) p9 q9
 replace p9 := eq_true p9
 replace q9 := eq_true q9
 have HP12 := Kd.R_putn HQ11.out (x3_1 : Int) (rdOf ByteArray.empty x0_1 x2_1)
 rw [← Ny328.out] at HP12
 have HQ12 := Aside0.mk HP12
 clear HP12
 refine start_ (n := 16) (S := fun w' => w'.cell? ⟨go8, (x3_1).toNat, none⟩ = some (.string (rdOf ByteArray.empty x0_1 x3_1)) ∧ w'.cell? ⟨go8, (x2_1).toNat, none⟩ = some (.string (rdOf ByteArray.empty x0_1 x2_1))) (ds := [13, 15]) #[false, false, false, false, false, false, false, false, false, false, false, false, false, false, false, false] (by kernel_rfl) rfl rfl ⟨hx325_0, hx326_0⟩ (fun hHeld => ?_); refine with_tabW slices_Reverse_string.tab3 slices_Reverse_string.bits3 (fun HT_ HW_ => ?_)
 generalize wr.drew = w10 at HO_0 HK HB GG8 HQ11 HQ12 hf8_0 hf9_0 hx325_0 hx326_0 hx8_0 hx9_0 hHeld ⊢
 refine yq_ (i := 0) (N := some 14) #[true, false, false, false, false, false, false, false, false, false, false, false, false, false, false, false] (any_of HT_.out (by kernel_rfl)) ?_
 refine yq_ (i := 1) (N := some 15) #[true, true, false, false, false, false, false, false, false, false, false, false, false, false, false, false] (any_of HT_.out (by kernel_rfl)) ?_
 refine yq_ (i := 2) (N := some 16) #[true, true, true, false, false, false, false, false, false, false, false, false, false, false, false, false] (any_of HT_.out (by kernel_rfl)) ?_
 refine yq_ (i := 3) (N := some 17) #[true, true, true, true, false, false, false, false, false, false, false, false, false, false, false, false] (any_of HT_.out (by kernel_rfl)) ?_
 refine yq_ (i := 4) (N := some 18) #[true, true, true, true, true, false, false, false, false, false, false, false, false, false, false, false] (any_of HT_.out (by kernel_rfl)) ?_
 refine yq_ (i := 5) (N := some 19) #[true, true, true, true, true, true, false, false, false, false, false, false, false, false, false, false] (any_of HT_.out (by kernel_rfl)) ?_
 refine yq_ (i := 6) (N := some 20) #[true, true, true, true, true, true, true, false, false, false, false, false, false, false, false, false] (any_of HT_.out (by kernel_rfl)) ?_
 refine yq_ (i := 8) (N := some 22) #[true, true, true, true, true, true, true, false, true, false, false, false, false, false, false, false] (any_of HT_.out (by kernel_rfl)) ?_
 refine yq_ (i := 9) (N := some 23) #[true, true, true, true, true, true, true, false, true, true, false, false, false, false, false, false] (any_of HT_.out (by kernel_rfl)) ?_
 refine yq_ (i := 10) (N := some 24) #[true, true, true, true, true, true, true, false, true, true, true, false, false, false, false, false] (any_of HT_.out (by kernel_rfl)) ?_
 refine tk_ (i := 7) (N := some 21) #[true, true, true, true, true, true, true, true, true, true, true, false, false, false, false, false] (take_ofW HT_.out HW_.out (by kernel_rfl)) hHeld ?_
 refine tk_ (i := 11) (N := some 25) #[true, true, true, true, true, true, true, true, true, true, true, true, false, false, false, false] (take_ofW HT_.out HW_.out (by kernel_rfl)) hHeld ?_
 refine yq_ (i := 12) (N := some 26) #[true, true, true, true, true, true, true, true, true, true, true, true, true, false, false, false] (any_of HT_.out (by kernel_rfl)) ?_
 refine last_ (i := 13) (N := none) #[true, true, true, true, true, true, true, true, true, true, true, true, true, true, false, false] rfl rfl (one_of HT_.out (by kernel_rfl)) (by decide) (fun K hK => ?_)
 refine skip_ (w1 := ?_) (by rfl) rfl ?_ ?_
 rotate_left
 ·go_simp
  rfl
 refine hK.out _ _ ?_
 clear hK K
 refine yq_ (i := 14) (N := some 27) #[true, true, true, true, true, true, true, true, true, true, true, true, true, true, true, false] (any_of HT_.out (by kernel_rfl)) ?_
 refine last_ (i := 15) (N := none) #[true, true, true, true, true, true, true, true, true, true, true, true, true, true, true, true] rfl rfl (one_of HT_.out (by kernel_rfl)) (by decide) (fun K hK => ?_)
 refine skip_ (w1 := ?_) (by rfl) rfl ?_ ?_
 rotate_left
 ·go_simp
  rfl
 refine hK.out _ _ ?_
 clear hK K
 refine done_ (done_of HT_.out (by kernel_rfl)) ?_
 try go_wp2
 (try simp only [← hl0_1])
 go_roundg k1
 case measure => have := HK1.out; omega
 case rel => exact ⟨(y328), (wrap64 (x2_1 + 1)), (wrap64 (x3_1 - 1)), tq_4, tq_4, H', ⟨tq_93⟩, ⟨(by (try simp only [hl0_1]); (with_reducible repeat (first | apply Kd.R_alloc | apply Kd.R_drewN | apply Kd.R_drew)); exact HQ12.out)⟩, ⟨(by repeat (first | (with_reducible first | exact HK.out | apply Kept.alloc | apply Kept.drewN | apply Kept.drew | refine Kept.setCell ?_ HMgo8.out _ | refine Kept.setCell ?_ HMgo8.out _) | exact HK.out))⟩, ⟨(by repeat (first | (with_reducible first | exact HB.out | apply below_alloc | apply pw_below_drewN | apply below_drew1 | refine below_set ?_ GB8.out | refine below_set ?_ GB8.out) | exact HB.out))⟩⟩

end Go.Proofs.Ytljnnmpfeningaa.PFnExactPartOk
