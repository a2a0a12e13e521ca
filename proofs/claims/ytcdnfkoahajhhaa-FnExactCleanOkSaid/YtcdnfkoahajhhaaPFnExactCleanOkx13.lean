/- Contracts of Go functions, written by a program of ours over the print of the kit: each says that the call returns what the Lean function beside it computes. Conditions: as each theorem states them. -/
import Derived.Test.YtcdnfkoahajhhaaPkFnExactCleanOk
import Derived.Test.YtcdnfkoahajhhaaPFnExactCleanOkx0
import Derived.Test.YtcdnfkoahajhhaaPFnExactCleanOkx10
import Derived.Test.YtcdnfkoahajhhaaPFnExactCleanOkx12
namespace Go.Proofs.Ytcdnfkoahajhhaa.PFnExactCleanOk
open Go.RowKit Go.Proofs.YtcdnfkoahajhhaaW.PrintWords Go.Proofs.YtcdnfkoahajhhaaW.PrintLast Go.Proofs.YtcdnfkoahajhhaaW.PrintMore
attribute [local go_sem] max2_int min2_int max_two min_two max_three min_three max_four min_four   -- for this text's walks alone
set_option linter.unusedVariables false
set_option linter.unusedSimpArgs false

/-! ### impl_PageAt: function 233 -/
def impl_PageAt.f (a0_0 : Int) (a0_1 : Int) (a0_2 : Int) (a0_3 : Int) (a1 : Int) (a2 : Int) : Option (Int) := (impl_within.f a2 0 (wrap64 (a0_1 - 1))).bind fun t330 => ((impl_inPart.f a0_0 a0_1 a0_2 a0_3 a1 t330 (wrap64 ((wrap64 (38 + (wrap64 (8 * a0_2)))) + (wrap64 (4 * a2))))).bind fun t331 => (some t331))
def impl_PageAt.T1 : Bool × List (List Nat × List Nat) := (true, [([], []), ([], []), ([], []), ([], []), ([3], [3]), ([4], [4]), ([2, 5], [2, 5]), ([], []), ([7], [7]), ([8], [8]), ([9], [9]), ([], []), ([11], [11]), ([10, 12], [10, 12]), ([0, 1, 6, 13, 6], [0, 1, 6, 13]), ([14, 14, 0, 1, 2, 3, 4, 5, 6, 7, 8, 9, 10, 11, 12, 13, 14], [14])])
def impl_PageAt.B1 : List Nat := [0, 0, 0, 0, 8, 24, 60, 0, 128, 384, 896, 0, 2048, 8064, 16383, 32767]
theorem impl_PageAt.tab1 : rtab .any (opsOf Try.f233 1) = impl_PageAt.T1 := by kernel_rfl
theorem impl_PageAt.bits1 : waitsOk impl_PageAt.T1.2 impl_PageAt.B1 = true := by kernel_rfl
set_option maxHeartbeats 8000000 in
set_option maxRecDepth 100000 in
theorem impl_PageAt.calls (a0_0 : Int) (a0_1 : Int) (a0_2 : Int) (a0_3 : Int) (a1 : Int) (a2 : Int) (r : Int) (w : World) (h : impl_PageAt.f a0_0 a0_1 a0_2 a0_3 a1 a2 = some r) :
  Calls Try.prog 233 #[.agg #[.int .i64 a0_0, .int .i64 a0_1, .int .i64 a0_2, .int .i64 a0_3], .int .i64 a1, .int .i64 a2] w fun e w' => e = .returned (.int .i64 r) ∧ Below w.heap.size w w' := by
 have hu72 := Try.underlying72
 have HB := Aside0.mk (Below.refl w.heap.size w)
 have H : ((impl_within.f a2 0 (wrap64 (a0_1 - 1))).bind fun t330 => ((impl_inPart.f a0_0 a0_1 a0_2 a0_3 a1 t330 (wrap64 ((wrap64 (38 + (wrap64 (8 * a0_2)))) + (wrap64 (4 * a2))))).bind fun t331 => (some t331))) = some r := h
 clear h
 replace H := Option.bind_eq_some_iff.mp H
 obtain ⟨t330, A40, H⟩ := H
 replace H : ((impl_inPart.f a0_0 a0_1 a0_2 a0_3 a1 t330 (wrap64 ((wrap64 (38 + (wrap64 (8 * a0_2)))) + (wrap64 (4 * a2))))).bind fun t331 => (some t331)) = some r := H
 have A4 := Aside0.mk A40
 clear A40
 replace H := Option.bind_eq_some_iff.mp H
 obtain ⟨t331, A50, H⟩ := H
 replace H : (some t331) = some r := H
 have A5 := Aside0.mk A50
 clear A50
 obtain rfl := Option.some.inj H
 go_enter Try.func233, Try.ntmps233
 try go_wp2_with (first | ((with_reducible refine gate_dst (N := 3) rfl ?_); refine box_event ?hg (N := 3) ?hd (cs := #[.int .i64 a0_0, .int .i64 a0_1, .int .i64 a0_2, .int .i64 a0_3]) (t := 72) ?hr ?_; (case hd => rfl); (case hg => rfl); (case hr => first | (go_simp; done) | (go_simp; rfl)); intro gb329 hg w6 hbox hb; have z_ := p_ (below_step tq_0 hb) <| p_ (hbox) <| p_ (gb_ hg tq_0) <| a_ (gb_ hg tq_0); clear HB; obtain ⟨HB, BK329, GW329, GE329⟩ := z_; clear hb hbox hg))
 have z_ := p_ (blk_drew BK329.out) <| a_ (below_drew1 HB.out)
 clear BK329 HB
 obtain ⟨BK329, HB⟩ := z_
 refine start_ (n := 16) (S := fun w' => w'.cell? ⟨gb329, 0, none⟩ = some (.int .i64 a0_0) ∧ w'.cell? ⟨gb329, 1, none⟩ = some (.int .i64 a0_1) ∧ w'.cell? ⟨gb329, 2, none⟩ = some (.int .i64 a0_2) ∧ w'.cell? ⟨gb329, 3, none⟩ = some (.int .i64 a0_3)) (ds := []) bq_67 (by kernel_rfl) rfl rfl (bk4_ BK329.out) (fun hHeld => ?_); refine with_tabW impl_PageAt.tab1 impl_PageAt.bits1 (fun HT_ HW_ => ?_)
 generalize w6.drew = w7 at BK329 HB hHeld ⊢
 refine yq_ (i := 1) (N := some 8) #[false, true, false, false, false, false, false, false, false, false, false, false, false, false, false, false] (any_of HT_.out (by kernel_rfl)) ?_
 refine yq_ (i := 2) (N := some 9) #[false, true, true, false, false, false, false, false, false, false, false, false, false, false, false, false] (any_of HT_.out (by kernel_rfl)) ?_
 refine yq_ (i := 3) (N := some 10) #[false, true, true, true, false, false, false, false, false, false, false, false, false, false, false, false] (any_of HT_.out (by kernel_rfl)) ?_
 refine yq_ (i := 7) (N := some 14) #[false, true, true, true, false, false, false, true, false, false, false, false, false, false, false, false] (any_of HT_.out (by kernel_rfl)) ?_
 refine yq_ (i := 11) (N := some 18) #[false, true, true, true, false, false, false, true, false, false, false, true, false, false, false, false] (any_of HT_.out (by kernel_rfl)) ?_
 refine yq_ (i := 12) (N := some 19) #[false, true, true, true, false, false, false, true, false, false, false, true, true, false, false, false] (any_of HT_.out (by kernel_rfl)) ?_
 refine tk_ (i := 0) (N := some 7) #[true, true, true, true, false, false, false, true, false, false, false, true, true, false, false, false] (take_ofW HT_.out HW_.out (by kernel_rfl)) hHeld ?_
 refine tk_ (i := 4) (N := some 11) #[true, true, true, true, true, false, false, true, false, false, false, true, true, false, false, false] (take_ofW HT_.out HW_.out (by kernel_rfl)) hHeld ?_
 refine yq_ (i := 5) (N := some 12) #[true, true, true, true, true, true, false, true, false, false, false, true, true, false, false, false] (any_of HT_.out (by kernel_rfl)) ?_
 refine tk_ (i := 8) (N := some 15) #[true, true, true, true, true, true, false, true, true, false, false, true, true, false, false, false] (take_ofW HT_.out HW_.out (by kernel_rfl)) hHeld ?_
 refine yq_ (i := 9) (N := some 16) #[true, true, true, true, true, true, false, true, true, true, false, true, true, false, false, false] (any_of HT_.out (by kernel_rfl)) ?_
 refine yq_ (i := 10) (N := some 17) #[true, true, true, true, true, true, false, true, true, true, true, true, true, false, false, false] (any_of HT_.out (by kernel_rfl)) ?_
 refine yq_ (i := 13) (N := some 20) #[true, true, true, true, true, true, false, true, true, true, true, true, true, true, false, false] (any_of HT_.out (by kernel_rfl)) ?_
 refine one_ (i := 6) (N := some 13) bq_68 rfl rfl (one_of HT_.out (by kernel_rfl)) (by decide) (fun K hK => ?_)
 refine goes_ Try.func140 (by kernel_rfl) rfl #[.int .i64 a2, .int .i64 0, .int .i64 (wrap64 (a0_1 - 1))] (by rfl) rfl rfl tq_1 ?_
 with_reducible refine (impl_within.calls a2 0 (wrap64 (a0_1 - 1)) t330 _ A4.out).mono ?_
 rintro e w' ⟨rfl, ⟨nd, rfl⟩⟩
 refine ⟨_, rfl, ?_⟩
 refine hK.out _ _ (bk4_ BK329.out) (fun hHeld => ?_)
 clear hK K
 refine nm_ (some 13) ?_
 refine one_ (i := 14) (N := some 21) bq_69 rfl rfl (one_of HT_.out (by kernel_rfl)) (by decide) (fun K hK => ?_)
 refine goes_ Try.func259 (by kernel_rfl) rfl #[.agg #[.int .i64 a0_0, .int .i64 a0_1, .int .i64 a0_2, .int .i64 a0_3], .int .i64 a1, .bool t330, .int .i64 (wrap64 ((wrap64 (38 + (wrap64 (8 * a0_2)))) + (wrap64 (4 * a2))))] (by rfl) rfl rfl tq_1 ?_
 with_reducible refine (impl_inPart.calls a0_0 a0_1 a0_2 a0_3 a1 t330 (wrap64 ((wrap64 (38 + (wrap64 (8 * a0_2)))) + (wrap64 (4 * a2)))) t331 _ A5.out).mono ?_
 rintro e w8 ⟨rfl, hb⟩
 refine ⟨_, rfl, ?_⟩
 have z_ := p_ (blk_below (by (with_reducible repeat (first | refine blk_drewN ?_ _ | refine blk_drew ?_ | refine blk_alloc ?_ _)); exact BK329.out) hb) <| a_ (below_step tq_168 hb)
 clear BK329 HB
 obtain ⟨BK329, HB⟩ := z_
 (try clear hb)
 (try clear hb2)
 (try clear hk)
 (try clear hi)
 refine hK.out _ _ (bk4_ BK329.out) (fun hHeld => ?_)
 clear hK K
 refine nm_ (some 21) ?_
 refine yq_ (i := 15) (N := some 6) bq_70 (any_of HT_.out (by kernel_rfl)) ?_
 refine done_ (done_of HT_.out (by kernel_rfl)) ?_
 try go_wp2
 go_ret
 exact ⟨tq_2, tq_168⟩

/-! ### strings_Join: function 219 -/
def strings_Join.f (l0 : List ByteArray) (a1 : ByteArray) : Option (ByteArray) := if l0.length ≤ 140737488355328 ∧ (Lib.join (l0.map (·.data.toList)) a1.data.toList).length ≤ 140737488355328 then some ⟨(Lib.join (l0.map (·.data.toList)) a1.data.toList).toArray⟩ else none
theorem strings_Join.calls (A0 : Option Addr) (c0 : Nat) (l0 : List ByteArray) (a1 : ByteArray) (r : ByteArray) (w : World) (hr0 : Kd.C Kd.string w A0 l0.length l0) (hc0 : l0.length ≤ c0) (h : strings_Join.f l0 a1 = some r) :
  Calls Try.prog 219 #[.slice A0 l0.length c0, .string a1] w fun e w' => e = .returned (.string r) ∧ Below w.heap.size w w' := by
 unfold strings_Join.f at h
 split at h
 case isFalse => cases h
 case isTrue hc =>
  obtain ⟨h1, h2⟩ := hc
  obtain rfl := Option.some.inj h
  rcases Nat.eq_zero_or_pos l0.length with hz | hz
  ·have hn := List.eq_nil_of_length_eq_zero hz
   subst hn
   refine (Try.strings_Join_none A0 c0 a1 w).mono ?_
   rintro e w' ⟨rfl, rfl⟩
   exact ⟨rfl, Below.refl _ _⟩
  ·obtain ⟨ad, rfl, hcell⟩ := hr0.2.2 hz
   have cells : ∀ (j : Nat) x, l0[j]? = some x → w.cell? (ad.add j) = some (.string x) := by
    intro j x hx
    obtain ⟨c, _, rfl, hc⟩ := hcell j x hx
    have := hc 0 _ rfl
    rw [show j * (Kd.string).sz + 0 = j from Nat.mul_one j] at this
    exact this
   have h0 := cells 0 _ (List.getElem?_eq_getElem hz)
   have hsp : ad.spot = none := by
    have h0' : w.cell? ad = some (.string l0[0]) := h0
    unfold World.cell? at h0'
    split at h0'
    ·split at h0'
     ·cases h0'
     ·simpa using ‹¬ ad.spot.isSome = true›
    ·cases h0'
   obtain ⟨bk, o, sp⟩ := ad
   cases hsp
   refine Try.strings_Join bk o c0 l0 a1 w (fun j x hx => ?_) (World.block_lt_of_cell? w _ h0) h1 hc0 h2
   have := cells j x hx
   rw [Addr.add_lit] at this
   exact this

/-! ### cmp_isNaN_int: function 285 -/
def cmp_isNaN_int.f (a0 : Int) : Option (Bool) := some (a0 != a0)
set_option maxHeartbeats 8000000 in
set_option maxRecDepth 100000 in
theorem cmp_isNaN_int.calls (a0 : Int) (r : Bool) (w : World) (h : cmp_isNaN_int.f a0 = some r) :
  Calls Try.prog 285 #[.int .i64 a0] w fun e w' => e = .returned (.bool r) ∧ Drawn0 w w' := by
 have H : (some (a0 != a0)) = some r := h
 clear h
 obtain rfl := Option.some.inj H
 go_enter Try.func285, Try.ntmps285
 go_wp2
 go_ret
 exact ⟨tq_7, tq_57⟩

/-! ### cmp_Compare_int: function 284 -/
def cmp_Compare_int.f (a0 : Int) (a1 : Int) : Option (Int) := (cmp_isNaN_int.f a0).bind fun t332 => ((cmp_isNaN_int.f a1).bind fun t333 => (if t332 = true then (if t333 = true then (some 0) else (some (-1))) else (if t333 = true then (some 1) else (if a0 < a1 then (some (-1)) else (if a0 > a1 then (some 1) else (some 0))))))
set_option maxHeartbeats 8000000 in
set_option maxRecDepth 100000 in
theorem cmp_Compare_int.calls (a0 : Int) (a1 : Int) (r : Int) (w : World) (h : cmp_Compare_int.f a0 a1 = some r) :
  Calls Try.prog 284 #[.int .i64 a0, .int .i64 a1] w fun e w' => e = .returned (.int .i64 r) ∧ Drawn0 w w' := by
 have H : ((cmp_isNaN_int.f a0).bind fun t332 => ((cmp_isNaN_int.f a1).bind fun t333 => (if t332 = true then (if t333 = true then (some 0) else (some (-1))) else (if t333 = true then (some 1) else (if a0 < a1 then (some (-1)) else (if a0 > a1 then (some 1) else (some 0))))))) = some r := h
 clear h
 replace H := Option.bind_eq_some_iff.mp H
 obtain ⟨t332, A30, H⟩ := H
 replace H : ((cmp_isNaN_int.f a1).bind fun t333 => (if t332 = true then (if t333 = true then (some 0) else (some (-1))) else (if t333 = true then (some 1) else (if a0 < a1 then (some (-1)) else (if a0 > a1 then (some 1) else (some 0)))))) = some r := H
 have A3 := Aside0.mk A30
 clear A30
 replace H := Option.bind_eq_some_iff.mp H
 obtain ⟨t333, A40, H⟩ := H
 replace H : (if t332 = true then (if t333 = true then (some 0) else (some (-1))) else (if t333 = true then (some 1) else (if a0 < a1 then (some (-1)) else (if a0 > a1 then (some 1) else (some 0))))) = some r := H
 have A4 := Aside0.mk A40
 clear A40
 by_cases c5 : t332 = true
 ·subst c5
  have H1 : (if t333 = true then (some 0) else (some (-1))) = some r := by rw [if_pos rfl] at H; exact H
  clear H
  have H := H1
  clear H1
  by_cases c6 : t333 = true
  ·subst c6
   have H1 : (some 0) = some r := by rw [if_pos rfl] at H; exact H
   clear H
   have H := H1
   clear H1
   obtain rfl := Option.some.inj H
   go_enter Try.func284, Try.ntmps284
   go_wp2_with (first | ((with_reducible refine gate_callee (f := 285) rfl ?_); refine goesL_ (some 8) rfl rfl Try.func285 (by kernel_rfl) rfl #[.int .i64 a0] rfl tq_1 ?_; (with_reducible refine (cmp_isNaN_int.calls a0 true _ A3.out).mono ?_); rintro e w' ⟨rfl, ⟨nd, rfl⟩⟩; refine ⟨_, rfl, ?_⟩) | ((with_reducible refine gate_callee (f := 285) rfl ?_); refine goesL_ (some 10) rfl rfl Try.func285 (by kernel_rfl) rfl #[.int .i64 a1] rfl tq_1 ?_; (with_reducible refine (cmp_isNaN_int.calls a1 true _ A4.out).mono ?_); rintro e w' ⟨rfl, ⟨nd, rfl⟩⟩; refine ⟨_, rfl, ?_⟩))
   go_ret
   exact ⟨tq_7, tq_57⟩
  ·replace c6 := Bool.eq_false_iff.mpr c6
   subst c6
   have H1 : (some (-1)) = some r := by rw [if_neg (show ¬ (false = true) by decide)] at H; exact H
   clear H
   have H := H1
   clear H1
   obtain rfl := Option.some.inj H
   go_enter Try.func284, Try.ntmps284
   go_wp2_with (first | ((with_reducible refine gate_callee (f := 285) rfl ?_); refine goesL_ (some 8) rfl rfl Try.func285 (by kernel_rfl) rfl #[.int .i64 a0] rfl tq_1 ?_; (with_reducible refine (cmp_isNaN_int.calls a0 true _ A3.out).mono ?_); rintro e w' ⟨rfl, ⟨nd, rfl⟩⟩; refine ⟨_, rfl, ?_⟩) | ((with_reducible refine gate_callee (f := 285) rfl ?_); refine goesL_ (some 10) rfl rfl Try.func285 (by kernel_rfl) rfl #[.int .i64 a1] rfl tq_1 ?_; (with_reducible refine (cmp_isNaN_int.calls a1 false _ A4.out).mono ?_); rintro e w' ⟨rfl, ⟨nd, rfl⟩⟩; refine ⟨_, rfl, ?_⟩))
   go_ret
   exact ⟨tq_7, tq_57⟩
 ·replace c5 := Bool.eq_false_iff.mpr c5
  subst c5
  have H1 : (if t333 = true then (some 1) else (if a0 < a1 then (some (-1)) else (if a0 > a1 then (some 1) else (some 0)))) = some r := by rw [if_neg (show ¬ (false = true) by decide)] at H; exact H
  clear H
  have H := H1
  clear H1
  by_cases c7 : t333 = true
  ·subst c7
   have H1 : (some 1) = some r := by rw [if_pos rfl] at H; exact H
   clear H
   have H := H1
   clear H1
   obtain rfl := Option.some.inj H
   go_enter Try.func284, Try.ntmps284
   go_wp2_with (first | ((with_reducible refine gate_callee (f := 285) rfl ?_); refine goesL_ (some 8) rfl rfl Try.func285 (by kernel_rfl) rfl #[.int .i64 a0] rfl tq_1 ?_; (with_reducible refine (cmp_isNaN_int.calls a0 false _ A3.out).mono ?_); rintro e w' ⟨rfl, ⟨nd, rfl⟩⟩; refine ⟨_, rfl, ?_⟩) | ((with_reducible refine gate_callee (f := 285) rfl ?_); refine goesL_ (some 10) rfl rfl Try.func285 (by kernel_rfl) rfl #[.int .i64 a1] rfl tq_1 ?_; (with_reducible refine (cmp_isNaN_int.calls a1 true _ A4.out).mono ?_); rintro e w' ⟨rfl, ⟨nd, rfl⟩⟩; refine ⟨_, rfl, ?_⟩))
   go_ret
   exact ⟨tq_7, tq_57⟩
  ·replace c7 := Bool.eq_false_iff.mpr c7
   subst c7
   have H1 : (if a0 < a1 then (some (-1)) else (if a0 > a1 then (some 1) else (some 0))) = some r := by rw [if_neg (show ¬ (false = true) by decide)] at H; exact H
   clear H
   have H := H1
   clear H1
   by_cases c8 : a0 < a1
   ·rw [if_pos c8] at H
    have c8b0 : decide (a0 < a1) = true := decide_eq_true c8
    clear c8
    obtain rfl := Option.some.inj H
    go_enter Try.func284, Try.ntmps284
    go_wp2_with (first | ((with_reducible refine gate_callee (f := 285) rfl ?_); refine goesL_ (some 8) rfl rfl Try.func285 (by kernel_rfl) rfl #[.int .i64 a0] rfl tq_1 ?_; (with_reducible refine (cmp_isNaN_int.calls a0 false _ A3.out).mono ?_); rintro e w' ⟨rfl, ⟨nd, rfl⟩⟩; refine ⟨_, rfl, ?_⟩) | ((with_reducible refine gate_callee (f := 285) rfl ?_); refine goesL_ (some 10) rfl rfl Try.func285 (by kernel_rfl) rfl #[.int .i64 a1] rfl tq_1 ?_; (with_reducible refine (cmp_isNaN_int.calls a1 false _ A4.out).mono ?_); rintro e w' ⟨rfl, ⟨nd, rfl⟩⟩; refine ⟨_, rfl, ?_⟩))
    go_ret
    exact ⟨tq_7, tq_57⟩
   ·rw [if_neg c8] at H
    have c8b0 : decide (a0 < a1) = false := decide_eq_false c8
    clear c8
    by_cases c9 : a0 > a1
    ·rw [if_pos c9] at H
     have c9b0 : decide (a1 < a0) = true := decide_eq_true c9
     clear c9
     obtain rfl := Option.some.inj H
     go_enter Try.func284, Try.ntmps284
     go_wp2_with (first | ((with_reducible refine gate_callee (f := 285) rfl ?_); refine goesL_ (some 8) rfl rfl Try.func285 (by kernel_rfl) rfl #[.int .i64 a0] rfl tq_1 ?_; (with_reducible refine (cmp_isNaN_int.calls a0 false _ A3.out).mono ?_); rintro e w' ⟨rfl, ⟨nd, rfl⟩⟩; refine ⟨_, rfl, ?_⟩) | ((with_reducible refine gate_callee (f := 285) rfl ?_); refine goesL_ (some 10) rfl rfl Try.func285 (by kernel_rfl) rfl #[.int .i64 a1] rfl tq_1 ?_; (with_reducible refine (cmp_isNaN_int.calls a1 false _ A4.out).mono ?_); rintro e w' ⟨rfl, ⟨nd, rfl⟩⟩; refine ⟨_, rfl, ?_⟩))
     go_ret
     exact ⟨tq_7, tq_57⟩
    ·rw [if_neg c9] at H
     have c9b0 : decide (a1 < a0) = false := decide_eq_false c9
     clear c9
     obtain rfl := Option.some.inj H
     go_enter Try.func284, Try.ntmps284
     go_wp2_with (first | ((with_reducible refine gate_callee (f := 285) rfl ?_); refine goesL_ (some 8) rfl rfl Try.func285 (by kernel_rfl) rfl #[.int .i64 a0] rfl tq_1 ?_; (with_reducible refine (cmp_isNaN_int.calls a0 false _ A3.out).mono ?_); rintro e w' ⟨rfl, ⟨nd, rfl⟩⟩; refine ⟨_, rfl, ?_⟩) | ((with_reducible refine gate_callee (f := 285) rfl ?_); refine goesL_ (some 10) rfl rfl Try.func285 (by kernel_rfl) rfl #[.int .i64 a1] rfl tq_1 ?_; (with_reducible refine (cmp_isNaN_int.calls a1 false _ A4.out).mono ?_); rintro e w' ⟨rfl, ⟨nd, rfl⟩⟩; refine ⟨_, rfl, ?_⟩))
     go_ret
     exact ⟨tq_7, tq_57⟩

/-! ### impl_Memory_findCell_1: function 283 -/
def impl_Memory_findCell_1.f (a0_0 : Int) (a0_1 : ByteArray) (a0_2 : Bool) (a1 : Int) : Option (Int) := (cmp_Compare_int.f a0_0 a1).bind fun t335 => (some t335)
set_option maxHeartbeats 8000000 in
set_option maxRecDepth 100000 in
theorem impl_Memory_findCell_1.calls (a0_0 : Int) (a0_1 : ByteArray) (a0_2 : Bool) (a1 : Int) (r : Int) (w : World) (h : impl_Memory_findCell_1.f a0_0 a0_1 a0_2 a1 = some r) :
  Calls Try.prog 283 #[.agg #[.int .i64 a0_0, .string a0_1, .bool a0_2], .int .i64 a1] w fun e w' => e = .returned (.int .i64 r) ∧ Below w.heap.size w w' := by
 have hu206 := Try.underlying206
 have HB := Aside0.mk (Below.refl w.heap.size w)
 have H : ((cmp_Compare_int.f a0_0 a1).bind fun t335 => (some t335)) = some r := h
 clear h
 replace H := Option.bind_eq_some_iff.mp H
 obtain ⟨t335, A30, H⟩ := H
 replace H : (some t335) = some r := H
 have A3 := Aside0.mk A30
 clear A30
 obtain rfl := Option.some.inj H
 go_enter Try.func283, Try.ntmps283
 go_wp2_with (first | ((with_reducible refine gate_dst (N := 2) rfl ?_); refine box_event ?hg (N := 2) ?hd (cs := #[.int .i64 a0_0, .string a0_1, .bool a0_2]) (t := 206) ?hr ?_; (case hd => rfl); (case hg => rfl); (case hr => first | (go_simp; done) | (go_simp; rfl)); intro gb334 hg w4 hbox hb; have z_ := p_ (below_step tq_0 hb) <| p_ (hbox) <| p_ (gb_ hg tq_0) <| a_ (gb_ hg tq_0); clear HB; obtain ⟨HB, BK334, GW334, GE334⟩ := z_; clear hb hbox hg; have hcz5_0 := bc_ BK334.out 0; have hcz5_1 := bc_ BK334.out 1; have hcz5_2 := bc_ BK334.out 2; have hfz5_0 := blk_frozen BK334.out 0; have hfz5_1 := blk_frozen BK334.out 1; have hfz5_2 := blk_frozen BK334.out 2) | ((with_reducible refine gate_callee (f := 284) rfl ?_); refine goesL_ (some 8) rfl rfl Try.func284 (by kernel_rfl) rfl #[.int .i64 a0_0, .int .i64 a1] rfl tq_1 ?_; (with_reducible refine (cmp_Compare_int.calls a0_0 a1 t335 _ A3.out).mono ?_); rintro e w' ⟨rfl, ⟨nd, rfl⟩⟩; refine ⟨_, rfl, ?_⟩))
 go_ret
 exact ⟨tq_2, (by repeat (first | (with_reducible first | exact HB.out | apply below_alloc | apply pw_below_drewN | apply below_drew1 | refine below_set ?_ GE334.out) | exact HB.out))⟩

/-! ### slices_BinarySearchFunc_int: function 282 -/
def slices_BinarySearchFunc_int.l0 : Nat → List (S206) → Int → Int → Int → Int → Option (Int × Bool)
 | 0, _, _, _, _, _ => none
 | k + 1, x0, x1, x8, x9, x10 => if x9 < x10 then (if 0 ≤ (wrap64 ((IntKind.u64.wrap (wrap64 (x9 + x10))) / 2)) then (if (wrap64 ((IntKind.u64.wrap (wrap64 (x9 + x10))) / 2)) < (x0.length : Int) then ((impl_Memory_findCell_1.f ((rd_T206 x0 (wrap64 ((IntKind.u64.wrap (wrap64 (x9 + x10))) / 2))).f0) ((rd_T206 x0 (wrap64 ((IntKind.u64.wrap (wrap64 (x9 + x10))) / 2))).f1) ((rd_T206 x0 (wrap64 ((IntKind.u64.wrap (wrap64 (x9 + x10))) / 2))).f2) x1).bind fun t337 => (if t337 < 0 then (slices_BinarySearchFunc_int.l0 k x0 x1 x8 (wrap64 ((wrap64 ((IntKind.u64.wrap (wrap64 (x9 + x10))) / 2)) + 1)) x10) else (slices_BinarySearchFunc_int.l0 k x0 x1 x8 x9 (wrap64 ((IntKind.u64.wrap (wrap64 (x9 + x10))) / 2))))) else (none)) else (none)) else (if x9 < x8 then (if 0 ≤ x9 then (if x9 < (x0.length : Int) then ((impl_Memory_findCell_1.f ((rd_T206 x0 x9).f0) ((rd_T206 x0 x9).f1) ((rd_T206 x0 x9).f2) x1).bind fun t339 => (some (x9, (t339 == 0)))) else (none)) else (none)) else (some (x9, false)))
def slices_BinarySearchFunc_int.f (k : Nat) (l0 : List (S206)) (a1 : Int) (a2 : Unit) : Option (Int × Bool) := slices_BinarySearchFunc_int.l0 k l0 a1 (l0.length : Int) 0 (l0.length : Int)
theorem slices_BinarySearchFunc_int.mono_l : ∀ k, (∀ y0 y1 y2 y3 y4, LeO (slices_BinarySearchFunc_int.l0 k y0 y1 y2 y3 y4) (slices_BinarySearchFunc_int.l0 (k + 1) y0 y1 y2 y3 y4))
 | 0 => fun _ _ _ _ _ r h => by simp [slices_BinarySearchFunc_int.l0] at h
 | k + 1 => by
  have ih0 := slices_BinarySearchFunc_int.mono_l k
  ·intro y0 y1 y2 y3 y4
   unfold slices_BinarySearchFunc_int.l0
   repeat' first
   | (with_reducible exact ih0 ..)
   | (with_reducible exact LeO.refl _)
   | (with_reducible exact LeO.none _)
   | (with_reducible refine LeO.ite ?_ ?_)
   | (with_reducible refine LeO.bind ?_ (fun _ => ?_))
   | exact ih0 ..
   | exact LeO.none _
   | refine LeO.ite ?_ ?_
   | refine LeO.bind ?_ (fun _ => ?_)
theorem slices_BinarySearchFunc_int.mono : ∀ a0 a1 a2 k, LeO (slices_BinarySearchFunc_int.f k a0 a1 a2) (slices_BinarySearchFunc_int.f (k + 1) a0 a1 a2) := by
 intro a0 a1 a2 k
 have ih0 := slices_BinarySearchFunc_int.mono_l k
 unfold slices_BinarySearchFunc_int.f
 repeat' first
   | (with_reducible exact ih0 ..)
   | (with_reducible exact LeO.refl _)
   | (with_reducible exact LeO.none _)
   | (with_reducible refine LeO.ite ?_ ?_)
   | (with_reducible refine LeO.bind ?_ (fun _ => ?_))
   | exact ih0 ..
   | exact LeO.none _
   | refine LeO.ite ?_ ?_
   | refine LeO.bind ?_ (fun _ => ?_)
set_option maxHeartbeats 8000000 in
set_option maxRecDepth 100000 in
theorem slices_BinarySearchFunc_int.calls (k : Nat) (A0 : Option Addr) (c0 : Nat) (l0 : List (S206)) (a1 : Int) (a2 : Unit) (r1 : Int) (r2 : Bool) (w : World) (hr0 : Kd.C k206 w A0 l0.length l0) (hc0 : l0.length ≤ c0) (h : slices_BinarySearchFunc_int.f k l0 a1 a2 = some (r1, r2)) :
  Calls Try.prog 282 #[.slice A0 l0.length c0, .int .i64 a1, .func (.func 283) #[] #[]] w fun e w' => e = .returned (.tuple #[.int .i64 r1, .bool r2]) ∧ Below w.heap.size w w' := by
 have hu206 := Try.underlying206
 have HR0 := Aside0.mk hr0
 have HC0 := Aside0.mk hc0
 clear hr0 hc0
 have HB := Aside0.mk (Below.refl w.heap.size w)
 have H : (slices_BinarySearchFunc_int.l0 k l0 a1 (l0.length : Int) 0 (l0.length : Int)) = some (r1, r2) := h
 clear h
 have H' := Aside0.mk H
 clear H
 go_enter Try.func282, Try.ntmps282
 go_wp2
 go_loopg [9, 10] k (fun kq v9 v10 w' => ∃ (x9_1 : Int) (x10_1 : Int), v9 = .int .i64 x9_1 ∧ v10 = .int .i64 x10_1 ∧ Aside0 (slices_BinarySearchFunc_int.l0 kq l0 a1 (l0.length : Int) x9_1 x10_1 = some (r1, r2)) ∧ Aside0 (kq ≤ k) ∧ Aside0 (Below w.heap.size w w'))
 case atStart => exact ⟨(0), ((l0.length : Int)), tq_7, tq_7, H', ⟨Nat.le_refl _⟩, ⟨tq_0⟩⟩
 case round =>
  clear H'
  try clear c2
  try clear p2
  obtain ⟨x9_1, x10_1, rfl, rfl, HA, HK1, HB⟩ := hrel
  cases gk with
  | zero => exact absurd HA.out (by simp [slices_BinarySearchFunc_int.l0])
  | succ k1 =>
   have H := HA.out
   clear HA
   simp only [slices_BinarySearchFunc_int.l0] at H
   by_cases c4 : x9_1 < x10_1
   ·rw [if_pos c4] at H
    have c4b0 : decide (x9_1 < x10_1) = true := decide_eq_true c4
    clear c4
    obtain ⟨ji5, hji5⟩ : ∃ j_ : Int, (wrap64 ((IntKind.u64.wrap (wrap64 (x9_1 + x10_1))) / 2)) = j_ := ⟨_, rfl⟩
    replace H : (if 0 ≤ (ji5) then (if (ji5) < (l0.length : Int) then ((impl_Memory_findCell_1.f ((rd_T206 l0 (ji5)).f0) ((rd_T206 l0 (ji5)).f1) ((rd_T206 l0 (ji5)).f2) a1).bind fun t337 => (if t337 < 0 then (slices_BinarySearchFunc_int.l0 k1 l0 a1 (l0.length : Int) (wrap64 ((ji5) + 1)) x10_1) else (slices_BinarySearchFunc_int.l0 k1 l0 a1 (l0.length : Int) x9_1 ji5))) else (none)) else (none)) = some (r1, r2) := by first | (rw [hji5] at H; exact H) | (simp only [hji5] at H ⊢; exact H)
    have hji5w : (IntKind.i64.wrap ((IntKind.u64.wrap (wrap64 (x9_1 + x10_1))) / 2)) = ji5 := (i64_w _).trans hji5
    by_cases c6 : 0 ≤ (ji5)
    ·rw [if_pos c6] at H
     have c6b0 : decide (0 ≤ (ji5)) = true := decide_eq_true c6
     clear c6
     by_cases c7 : (ji5) < (l0.length : Int)
     ·rw [if_pos c7] at H
      have c7b0 : decide ((ji5) < (l0.length : Int)) = true := decide_eq_true c7
      clear c7
      replace H := Option.bind_eq_some_iff.mp H
      obtain ⟨t337, A80, H⟩ := H
      replace H : (if t337 < 0 then (slices_BinarySearchFunc_int.l0 k1 l0 a1 (l0.length : Int) (wrap64 ((ji5) + 1)) x10_1) else (slices_BinarySearchFunc_int.l0 k1 l0 a1 (l0.length : Int) x9_1 ji5)) = some (r1, r2) := H
      have A8 := Aside0.mk A80
      clear A80
      by_cases c9 : t337 < 0
      ·rw [if_pos c9] at H
       have c9b0 : decide (t337 < 0) = true := decide_eq_true c9
       clear c9
       have H' := Aside0.mk H
       clear H
       have p336 : 0 ≤ ((ji5) : Int) := of_decide_eq_true tq_3
       have q336 : (ji5) < (l0.length : Int) := of_decide_eq_true tq_3
       obtain ⟨ad336, e336, hx336_0, hx336_1, hx336_2⟩ := at_T206 HR0.out (ji5) p336 q336
       cases e336
       replace hx336_0 := hx_ HB.out hx336_0
       replace hx336_1 := hx_ HB.out hx336_1
       replace hx336_2 := hx_ HB.out hx336_2
       replace p336 := eq_true p336
       replace q336 := eq_true q336
       go_wp2_with (first | (go_at_call 283; (with_reducible refine (impl_Memory_findCell_1.calls ((rd_T206 l0 (ji5)).f0) ((rd_T206 l0 (ji5)).f1) ((rd_T206 l0 (ji5)).f2) a1 t337 _ A8.out).mono ?_); rintro e w10 ⟨rfl, hb⟩; have n0_ := Aside0.mk (below_step tq_0 hb); clear HB; have HB := n0_; clear n0_; (try clear hb); (try clear hb2); (try clear hk); (try clear hi)))
       go_roundg k1
       case measure => have := HK1.out; omega
       case rel => exact ⟨(wrap64 ((ji5) + 1)), (x10_1), (by first | rfl | (simp; done) | (simp only [← hji5] <;> (first | rfl | simp)) | (simp [*]; done)), tq_7, H', ⟨tq_96⟩, ⟨tq_0⟩⟩
      ·rw [if_neg c9] at H
       have c9b0 : decide (t337 < 0) = false := decide_eq_false c9
       clear c9
       have H' := Aside0.mk H
       clear H
       have p336 : 0 ≤ ((ji5) : Int) := of_decide_eq_true tq_3
       have q336 : (ji5) < (l0.length : Int) := of_decide_eq_true tq_3
       obtain ⟨ad336, e336, hx336_0, hx336_1, hx336_2⟩ := at_T206 HR0.out (ji5) p336 q336
       cases e336
       replace hx336_0 := hx_ HB.out hx336_0
       replace hx336_1 := hx_ HB.out hx336_1
       replace hx336_2 := hx_ HB.out hx336_2
       replace p336 := eq_true p336
       replace q336 := eq_true q336
       go_wp2_with (first | (go_at_call 283; (with_reducible refine (impl_Memory_findCell_1.calls ((rd_T206 l0 (ji5)).f0) ((rd_T206 l0 (ji5)).f1) ((rd_T206 l0 (ji5)).f2) a1 t337 _ A8.out).mono ?_); rintro e w11 ⟨rfl, hb⟩; have n0_ := Aside0.mk (below_step tq_0 hb); clear HB; have HB := n0_; clear n0_; (try clear hb); (try clear hb2); (try clear hk); (try clear hi)))
       go_roundg k1
       case measure => have := HK1.out; omega
       case rel => exact ⟨(x9_1), (ji5), tq_7, (by first | rfl | (simp; done) | (simp only [← hji5] <;> (first | rfl | simp)) | (simp [*]; done)), H', ⟨tq_96⟩, ⟨tq_0⟩⟩
     ·rw [if_neg c7] at H
      exact absurd H (by simp)
    ·rw [if_neg c6] at H
     exact absurd H (by simp)
   ·rw [if_neg c4] at H
    have c4b0 : decide (x9_1 < x10_1) = false := decide_eq_false c4
    clear c4
    by_cases c12 : x9_1 < (l0.length : Int)
    ·rw [if_pos c12] at H
     have c12b0 : decide (x9_1 < (l0.length : Int)) = true := decide_eq_true c12
     clear c12
     by_cases c13 : 0 ≤ x9_1
     ·rw [if_pos c13] at H
      have c13b0 : decide (0 ≤ x9_1) = true := decide_eq_true c13
      clear c13
      by_cases c14 : x9_1 < (l0.length : Int)
      ·rw [if_pos c14] at H
       have c14b0 : decide (x9_1 < (l0.length : Int)) = true := decide_eq_true c14
       clear c14
       replace H := Option.bind_eq_some_iff.mp H
       obtain ⟨t339, A150, H⟩ := H
       replace H : (some (x9_1, (t339 == 0))) = some (r1, r2) := H
       have A15 := Aside0.mk A150
       clear A150
       simp only [Option.some.injEq, Prod.mk.injEq] at H
       obtain ⟨rfl, rfl⟩ := H
       have p338 : 0 ≤ (x9_1 : Int) := of_decide_eq_true tq_3
       have q338 : x9_1 < (l0.length : Int) := of_decide_eq_true tq_3
       obtain ⟨ad338, e338, hx338_0, hx338_1, hx338_2⟩ := at_T206 HR0.out x9_1 p338 q338
       cases e338
       replace hx338_0 := hx_ HB.out hx338_0
       replace hx338_1 := hx_ HB.out hx338_1
       replace hx338_2 := hx_ HB.out hx338_2
       replace p338 := eq_true p338
       replace q338 := eq_true q338
       go_wp2_with (first | (go_at_call 283; (with_reducible refine (impl_Memory_findCell_1.calls ((rd_T206 l0 x9_1).f0) ((rd_T206 l0 x9_1).f1) ((rd_T206 l0 x9_1).f2) a1 t339 _ A15.out).mono ?_); rintro e w16 ⟨rfl, hb⟩; have n0_ := Aside0.mk (below_step tq_0 hb); clear HB; have HB := n0_; clear n0_; (try clear hb); (try clear hb2); (try clear hk); (try clear hi)))
       go_ret2
       exact ⟨tq_2, tq_0⟩
      ·rw [if_neg c14] at H
       exact absurd H (by simp)
     ·rw [if_neg c13] at H
      exact absurd H (by simp)
    ·rw [if_neg c12] at H
     have c12b0 : decide (x9_1 < (l0.length : Int)) = false := decide_eq_false c12
     clear c12
     simp only [Option.some.injEq, Prod.mk.injEq] at H
     obtain ⟨rfl, rfl⟩ := H
     go_wp2
     go_ret2
     exact ⟨tq_2, tq_0⟩

/-! ### impl_Memory_findCell: function 281 -/
def impl_Memory_findCell.f (k : Nat) (a0_0 : ByteArray) (l0_1 : List (S206)) (a1 : Int) : Option (Int × Bool) := (slices_BinarySearchFunc_int.f k l0_1 a1 ()).bind fun bt341 => (some (bt341.1, bt341.2))
theorem impl_Memory_findCell.mono : ∀ a0 a1 a2 k, LeO (impl_Memory_findCell.f k a0 a1 a2) (impl_Memory_findCell.f (k + 1) a0 a1 a2) := by
 intro a0 a1 a2 k
 unfold impl_Memory_findCell.f
 repeat' first
   | (with_reducible exact slices_BinarySearchFunc_int.mono ..)
   | (with_reducible exact LeO.refl _)
   | (with_reducible exact LeO.none _)
   | (with_reducible refine LeO.ite ?_ ?_)
   | (with_reducible refine LeO.bind ?_ (fun _ => ?_))
   | exact slices_BinarySearchFunc_int.mono ..
   | exact LeO.none _
   | refine LeO.ite ?_ ?_
   | refine LeO.bind ?_ (fun _ => ?_)
set_option maxHeartbeats 8000000 in
set_option maxRecDepth 100000 in
theorem impl_Memory_findCell.calls (k : Nat) (a0_0 : ByteArray) (A0_1 : Option Addr) (c0_1 : Nat) (l0_1 : List (S206)) (a1 : Int) (r1 : Int) (r2 : Bool) (w : World) (hr0_1 : Kd.C k206 w A0_1 l0_1.length l0_1) (hc0_1 : l0_1.length ≤ c0_1) (h : impl_Memory_findCell.f k a0_0 l0_1 a1 = some (r1, r2)) :
  Calls Try.prog 281 #[.agg #[.string a0_0, .slice A0_1 l0_1.length c0_1], .int .i64 a1] w fun e w' => e = .returned (.tuple #[.int .i64 r1, .bool r2]) ∧ Below w.heap.size w w' := by
 have hu113 := Try.underlying113
 have HR0_1 := Aside0.mk hr0_1
 have HC0_1 := Aside0.mk hc0_1
 clear hr0_1 hc0_1
 have HB := Aside0.mk (Below.refl w.heap.size w)
 have H : ((slices_BinarySearchFunc_int.f k l0_1 a1 ()).bind fun bt341 => (some (bt341.1, bt341.2))) = some (r1, r2) := h
 clear h
 replace H := Option.bind_eq_some_iff.mp H
 obtain ⟨⟨t341, t342⟩, A30, H⟩ := H
 replace H : (some (t341, t342)) = some (r1, r2) := H
 have A3 := Aside0.mk A30
 clear A30
 simp only [Option.some.injEq, Prod.mk.injEq] at H
 obtain ⟨rfl, rfl⟩ := H
 go_enter Try.func281, Try.ntmps281
 go_wp2_with (first | ((with_reducible refine gate_dst (N := 2) rfl ?_); refine box_event ?hg (N := 2) ?hd (cs := #[.string a0_0, .slice A0_1 l0_1.length c0_1]) (t := 113) ?hr ?_; (case hd => rfl); (case hg => rfl); (case hr => first | (go_simp; done) | (go_simp; rfl)); intro gb340 hg w4 hbox hb; have z_ := p_ (below_step tq_0 hb) <| p_ (hbox) <| p_ (gb_ hg tq_0) <| a_ (gb_ hg tq_0); clear HB; obtain ⟨HB, BK340, GW340, GE340⟩ := z_; clear hb hbox hg; have hcz5_0 := bc_ BK340.out 0; have hcz5_1 := bc_ BK340.out 1; have hfz5_0 := blk_frozen BK340.out 0; have hfz5_1 := blk_frozen BK340.out 1) | ((with_reducible refine gate_callee (f := 282) rfl ?_); refine goesL_ (some 9) rfl rfl Try.func282 (by kernel_rfl) rfl #[.slice A0_1 l0_1.length c0_1, .int .i64 a1, .func (.func 283) #[] #[]] rfl tq_1 ?_; (with_reducible refine (slices_BinarySearchFunc_int.calls k _ _ l0_1 a1 () t341 t342 _ ?side1 ?side2 A3.out).mono ?_); (case side1 => exact tq_4); (case side2 => exact HC0_1.out); rintro e w6 ⟨rfl, hb⟩; refine ⟨_, rfl, ?_⟩; have z_ := p_ (blk_below (by (with_reducible repeat (first | refine blk_drewN ?_ _ | refine blk_drew ?_ | refine blk_alloc ?_ _)); exact BK340.out) hb) <| a_ (below_step tq_167 hb); clear BK340 HB; obtain ⟨BK340, HB⟩ := z_; (try clear hb); (try clear hb2); (try clear hk); (try clear hi)))
 go_ret2
 exact ⟨tq_2, tq_167⟩

/-! ### impl_Memory_line: function 280 -/
def impl_Memory_line.f (k : Nat) (a0_0 : ByteArray) (l0_1 : List (S206)) (a1 : Int) : Option (ByteArray) := (impl_Memory_findCell.f k a0_0 l0_1 a1).bind fun bt344 => (if bt344.2 = true then (if 0 ≤ bt344.1 then (if bt344.1 < (l0_1.length : Int) then (some ((rd_T206 l0_1 bt344.1).f1)) else (none)) else (none)) else (if 0 ≤ (wrap64 (a1 * 16)) then (if (wrap64 (a1 * 16)) ≤ (wrap64 ((wrap64 (a1 + 1)) * 16)) then (if (wrap64 ((wrap64 (a1 + 1)) * 16)) ≤ (a0_0.size : Int) then ((some (a0_0.extract ((wrap64 (a1 * 16)) : Int).toNat ((wrap64 ((wrap64 (a1 + 1)) * 16)) : Int).toNat : ByteArray)).bind fun y347 => (some y347)) else (none)) else (none)) else (none)))
theorem impl_Memory_line.mono : ∀ a0 a1 a2 k, LeO (impl_Memory_line.f k a0 a1 a2) (impl_Memory_line.f (k + 1) a0 a1 a2) := by
 intro a0 a1 a2 k
 unfold impl_Memory_line.f
 repeat' first
   | (with_reducible exact impl_Memory_findCell.mono ..)
   | (with_reducible exact LeO.refl _)
   | (with_reducible exact LeO.none _)
   | (with_reducible refine LeO.ite ?_ ?_)
   | (with_reducible refine LeO.bind ?_ (fun _ => ?_))
   | exact impl_Memory_findCell.mono ..
   | exact LeO.none _
   | refine LeO.ite ?_ ?_
   | refine LeO.bind ?_ (fun _ => ?_)
set_option maxHeartbeats 8000000 in
set_option maxRecDepth 100000 in
theorem impl_Memory_line.calls (k : Nat) (a0_0 : ByteArray) (A0_1 : Option Addr) (c0_1 : Nat) (l0_1 : List (S206)) (a1 : Int) (r : ByteArray) (w : World) (hr0_1 : Kd.C k206 w A0_1 l0_1.length l0_1) (hc0_1 : l0_1.length ≤ c0_1) (h : impl_Memory_line.f k a0_0 l0_1 a1 = some r) :
  Calls Try.prog 280 #[.agg #[.string a0_0, .slice A0_1 l0_1.length c0_1], .int .i64 a1] w fun e w' => e = .returned (.string r) ∧ Below w.heap.size w w' := by
 have hu113 := Try.underlying113
 have HR0_1 := Aside0.mk hr0_1
 have HC0_1 := Aside0.mk hc0_1
 clear hr0_1 hc0_1
 have HB := Aside0.mk (Below.refl w.heap.size w)
 have H : ((impl_Memory_findCell.f k a0_0 l0_1 a1).bind fun bt344 => (if bt344.2 = true then (if 0 ≤ bt344.1 then (if bt344.1 < (l0_1.length : Int) then (some ((rd_T206 l0_1 bt344.1).f1)) else (none)) else (none)) else (if 0 ≤ (wrap64 (a1 * 16)) then (if (wrap64 (a1 * 16)) ≤ (wrap64 ((wrap64 (a1 + 1)) * 16)) then (if (wrap64 ((wrap64 (a1 + 1)) * 16)) ≤ (a0_0.size : Int) then ((some (a0_0.extract ((wrap64 (a1 * 16)) : Int).toNat ((wrap64 ((wrap64 (a1 + 1)) * 16)) : Int).toNat : ByteArray)).bind fun y347 => (some y347)) else (none)) else (none)) else (none)))) = some r := h
 clear h
 replace H := Option.bind_eq_some_iff.mp H
 obtain ⟨⟨t344, t345⟩, A30, H⟩ := H
 replace H : (if t345 = true then (if 0 ≤ t344 then (if t344 < (l0_1.length : Int) then (some ((rd_T206 l0_1 t344).f1)) else (none)) else (none)) else (if 0 ≤ (wrap64 (a1 * 16)) then (if (wrap64 (a1 * 16)) ≤ (wrap64 ((wrap64 (a1 + 1)) * 16)) then (if (wrap64 ((wrap64 (a1 + 1)) * 16)) ≤ (a0_0.size : Int) then ((some (a0_0.extract ((wrap64 (a1 * 16)) : Int).toNat ((wrap64 ((wrap64 (a1 + 1)) * 16)) : Int).toNat : ByteArray)).bind fun y347 => (some y347)) else (none)) else (none)) else (none))) = some r := H
 have A3 := Aside0.mk A30
 clear A30
 by_cases c4 : t345 = true
 ·subst c4
  have H1 : (if 0 ≤ t344 then (if t344 < (l0_1.length : Int) then (some ((rd_T206 l0_1 t344).f1)) else (none)) else (none)) = some r := by rw [if_pos rfl] at H; exact H
  clear H
  have H := H1
  clear H1
  by_cases c5 : 0 ≤ t344
  ·rw [if_pos c5] at H
   have c5b0 : decide (0 ≤ t344) = true := decide_eq_true c5
   clear c5
   by_cases c6 : t344 < (l0_1.length : Int)
   ·rw [if_pos c6] at H
    have c6b0 : decide (t344 < (l0_1.length : Int)) = true := decide_eq_true c6
    clear c6
    obtain rfl := Option.some.inj H
    go_enter Try.func280, Try.ntmps280
    go_wp2_with (first | ((with_reducible refine gate_dst (N := 2) rfl ?_); refine box_event ?hg (N := 2) ?hd (cs := #[.string a0_0, .slice A0_1 l0_1.length c0_1]) (t := 113) ?hr ?_; (case hd => rfl); (case hg => rfl); (case hr => first | (go_simp; done) | (go_simp; rfl)); intro gb343 hg w7 hbox hb; have z_ := p_ (below_step tq_0 hb) <| p_ (hbox) <| p_ (gb_ hg tq_0) <| a_ (gb_ hg tq_0); clear HB; obtain ⟨HB, BK343, GW343, GE343⟩ := z_; clear hb hbox hg; have hcz8_0 := bc_ BK343.out 0; have hcz8_1 := bc_ BK343.out 1; have hfz8_0 := blk_frozen BK343.out 0; have hfz8_1 := blk_frozen BK343.out 1) | ((with_reducible refine gate_callee (f := 281) rfl ?_); refine goesL_ (some 10) rfl rfl Try.func281 (by kernel_rfl) rfl #[.agg #[.string a0_0, .slice A0_1 l0_1.length c0_1], .int .i64 a1] rfl tq_1 ?_; (with_reducible refine (impl_Memory_findCell.calls k a0_0 _ _ l0_1 a1 t344 true _ ?side1 ?side2 A3.out).mono ?_); (case side1 => exact tq_4); (case side2 => exact HC0_1.out); rintro e w9 ⟨rfl, hb⟩; refine ⟨_, rfl, ?_⟩; have z_ := p_ (blk_below (by (with_reducible repeat (first | refine blk_drewN ?_ _ | refine blk_drew ?_ | refine blk_alloc ?_ _)); exact BK343.out) hb) <| a_ (below_step tq_97 hb); clear BK343 HB; obtain ⟨BK343, HB⟩ := z_; (try clear hb); (try clear hb2); (try clear hk); (try clear hi); have hcz10_0 := bc_ BK343.out 0; have hcz10_1 := bc_ BK343.out 1; have hfz10_0 := blk_frozen BK343.out 0; have hfz10_1 := blk_frozen BK343.out 1; have p346 : 0 ≤ (t344 : Int) := of_decide_eq_true tq_3; have q346 : t344 < (l0_1.length : Int) := of_decide_eq_true tq_3; obtain ⟨ad346, e346, hx346_0, hx346_1, hx346_2⟩ := at_T206 HR0_1.out t344 p346 q346; cases e346; replace hx346_0 := hx_ HB.out hx346_0; replace hx346_1 := hx_ HB.out hx346_1; replace hx346_2 := hx_ HB.out hx346_2; replace p346 := eq_true p346; replace q346 := eq_true q346))
    go_ret
    exact ⟨tq_2, tq_97⟩
   ·rw [if_neg c6] at H
    exact absurd H (by simp)
  ·rw [if_neg c5] at H
   exact absurd H (by simp)
 ·replace c4 := Bool.eq_false_iff.mpr c4
  subst c4
  have H1 : (if 0 ≤ (wrap64 (a1 * 16)) then (if (wrap64 (a1 * 16)) ≤ (wrap64 ((wrap64 (a1 + 1)) * 16)) then (if (wrap64 ((wrap64 (a1 + 1)) * 16)) ≤ (a0_0.size : Int) then ((some (a0_0.extract ((wrap64 (a1 * 16)) : Int).toNat ((wrap64 ((wrap64 (a1 + 1)) * 16)) : Int).toNat : ByteArray)).bind fun y347 => (some y347)) else (none)) else (none)) else (none)) = some r := by rw [if_neg (show ¬ (false = true) by decide)] at H; exact H
  clear H
  have H := H1
  clear H1
  obtain ⟨ji11, hji11⟩ : ∃ j_ : Int, (wrap64 (a1 * 16)) = j_ := ⟨_, rfl⟩
  replace H : (if 0 ≤ (ji11) then (if (ji11) ≤ (wrap64 ((wrap64 (a1 + 1)) * 16)) then (if (wrap64 ((wrap64 (a1 + 1)) * 16)) ≤ (a0_0.size : Int) then ((some (a0_0.extract ((ji11) : Int).toNat ((wrap64 ((wrap64 (a1 + 1)) * 16)) : Int).toNat : ByteArray)).bind fun y347 => (some y347)) else (none)) else (none)) else (none)) = some r := by first | (rw [hji11] at H; exact H) | (simp only [hji11] at H ⊢; exact H)
  (try rw [hji11] at A3)
  have hji11w : (IntKind.i64.wrap (a1 * 16)) = ji11 := (i64_w _).trans hji11
  by_cases c12 : 0 ≤ (ji11)
  ·rw [if_pos c12] at H
   have c12b0 := eq_true c12
   have c12b1 : decide (0 ≤ (ji11)) = true := decide_eq_true c12
   clear c12
   by_cases c13 : (ji11) ≤ (wrap64 ((wrap64 (a1 + 1)) * 16))
   ·rw [if_pos c13] at H
    have c13b0 := eq_true c13
    have c13b1 : decide ((ji11) ≤ (wrap64 ((wrap64 (a1 + 1)) * 16))) = true := decide_eq_true c13
    clear c13
    by_cases c14 : (wrap64 ((wrap64 (a1 + 1)) * 16)) ≤ (a0_0.size : Int)
    ·rw [if_pos c14] at H
     have c14b0 := eq_true c14
     have c14b1 : decide ((wrap64 ((wrap64 (a1 + 1)) * 16)) ≤ (a0_0.size : Int)) = true := decide_eq_true c14
     clear c14
     obtain ⟨y347, hy347⟩ : ∃ y_ : ByteArray, (a0_0.extract ((ji11) : Int).toNat ((wrap64 ((wrap64 (a1 + 1)) * 16)) : Int).toNat) = y_ := ⟨_, rfl⟩
     replace H : (some y347) = some r := by rw [← hy347]; exact (Option.bind_some _ _).symm.trans H
     obtain rfl := Option.some.inj H
     go_enter Try.func280, Try.ntmps280
     go_wp2_with (first | ((with_reducible refine gate_dst (N := 2) rfl ?_); refine box_event ?hg (N := 2) ?hd (cs := #[.string a0_0, .slice A0_1 l0_1.length c0_1]) (t := 113) ?hr ?_; (case hd => rfl); (case hg => rfl); (case hr => first | (go_simp; done) | (go_simp; rfl)); intro gb343 hg w15 hbox hb; have z_ := p_ (below_step tq_0 hb) <| p_ (hbox) <| p_ (gb_ hg tq_0) <| a_ (gb_ hg tq_0); clear HB; obtain ⟨HB, BK343, GW343, GE343⟩ := z_; clear hb hbox hg; have hcz16_0 := bc_ BK343.out 0; have hcz16_1 := bc_ BK343.out 1; have hfz16_0 := blk_frozen BK343.out 0; have hfz16_1 := blk_frozen BK343.out 1) | ((with_reducible refine gate_callee (f := 281) rfl ?_); refine goesL_ (some 10) rfl rfl Try.func281 (by kernel_rfl) rfl #[.agg #[.string a0_0, .slice A0_1 l0_1.length c0_1], .int .i64 a1] rfl tq_1 ?_; (with_reducible refine (impl_Memory_findCell.calls k a0_0 _ _ l0_1 a1 t344 false _ ?side1 ?side2 A3.out).mono ?_); (case side1 => exact tq_4); (case side2 => exact HC0_1.out); rintro e w17 ⟨rfl, hb⟩; refine ⟨_, rfl, ?_⟩; have z_ := p_ (blk_below (by (with_reducible repeat (first | refine blk_drewN ?_ _ | refine blk_drew ?_ | refine blk_alloc ?_ _)); exact BK343.out) hb) <| a_ (below_step tq_97 hb); clear BK343 HB; obtain ⟨BK343, HB⟩ := z_; (try clear hb); (try clear hb2); (try clear hk); (try clear hi); have hcz18_0 := bc_ BK343.out 0; have hcz18_1 := bc_ BK343.out 1; have hfz18_0 := blk_frozen BK343.out 0; have hfz18_1 := blk_frozen BK343.out 1))
     go_ret
     exact ⟨tq_164, tq_97⟩
    ·rw [if_neg c14] at H
     exact absurd H (by simp)
   ·rw [if_neg c13] at H
    exact absurd H (by simp)
  ·rw [if_neg c12] at H
   exact absurd H (by simp)

/-! ### impl_Memory_word: function 278 -/
def impl_Memory_word.f (k : Nat) (a0_0 : ByteArray) (l0_1 : List (S206)) (a1 : Int) : Option (ByteArray) := (impl_Memory_line.f k a0_0 l0_1 (wrap64 (Int.tdiv a1 2))).bind fun t349 => (if 0 ≤ (wrap64 ((Int.tmod a1 2) * 8)) then (if (wrap64 ((Int.tmod a1 2) * 8)) ≤ (wrap64 ((wrap64 ((Int.tmod a1 2) * 8)) + 8)) then (if (wrap64 ((wrap64 ((Int.tmod a1 2) * 8)) + 8)) ≤ (t349.size : Int) then ((some (t349.extract ((wrap64 ((Int.tmod a1 2) * 8)) : Int).toNat ((wrap64 ((wrap64 ((Int.tmod a1 2) * 8)) + 8)) : Int).toNat : ByteArray)).bind fun y350 => (some y350)) else (none)) else (none)) else (none))
theorem impl_Memory_word.mono : ∀ a0 a1 a2 k, LeO (impl_Memory_word.f k a0 a1 a2) (impl_Memory_word.f (k + 1) a0 a1 a2) := by
 intro a0 a1 a2 k
 unfold impl_Memory_word.f
 repeat' first
   | (with_reducible exact impl_Memory_line.mono ..)
   | (with_reducible exact LeO.refl _)
   | (with_reducible exact LeO.none _)
   | (with_reducible refine LeO.ite ?_ ?_)
   | (with_reducible refine LeO.bind ?_ (fun _ => ?_))
   | exact impl_Memory_line.mono ..
   | exact LeO.none _
   | refine LeO.ite ?_ ?_
   | refine LeO.bind ?_ (fun _ => ?_)
set_option maxHeartbeats 8000000 in
set_option maxRecDepth 100000 in
theorem impl_Memory_word.calls (k : Nat) (a0_0 : ByteArray) (A0_1 : Option Addr) (c0_1 : Nat) (l0_1 : List (S206)) (a1 : Int) (r : ByteArray) (w : World) (hr0_1 : Kd.C k206 w A0_1 l0_1.length l0_1) (hc0_1 : l0_1.length ≤ c0_1) (h : impl_Memory_word.f k a0_0 l0_1 a1 = some r) :
  Calls Try.prog 278 #[.agg #[.string a0_0, .slice A0_1 l0_1.length c0_1], .int .i64 a1] w fun e w' => e = .returned (.string r) ∧ Below w.heap.size w w' := by
 have hu113 := Try.underlying113
 have HR0_1 := Aside0.mk hr0_1
 have HC0_1 := Aside0.mk hc0_1
 clear hr0_1 hc0_1
 have HB := Aside0.mk (Below.refl w.heap.size w)
 have H : ((impl_Memory_line.f k a0_0 l0_1 (wrap64 (Int.tdiv a1 2))).bind fun t349 => (if 0 ≤ (wrap64 ((Int.tmod a1 2) * 8)) then (if (wrap64 ((Int.tmod a1 2) * 8)) ≤ (wrap64 ((wrap64 ((Int.tmod a1 2) * 8)) + 8)) then (if (wrap64 ((wrap64 ((Int.tmod a1 2) * 8)) + 8)) ≤ (t349.size : Int) then ((some (t349.extract ((wrap64 ((Int.tmod a1 2) * 8)) : Int).toNat ((wrap64 ((wrap64 ((Int.tmod a1 2) * 8)) + 8)) : Int).toNat : ByteArray)).bind fun y350 => (some y350)) else (none)) else (none)) else (none))) = some r := h
 clear h
 replace H := Option.bind_eq_some_iff.mp H
 obtain ⟨t349, A30, H⟩ := H
 replace H : (if 0 ≤ (wrap64 ((Int.tmod a1 2) * 8)) then (if (wrap64 ((Int.tmod a1 2) * 8)) ≤ (wrap64 ((wrap64 ((Int.tmod a1 2) * 8)) + 8)) then (if (wrap64 ((wrap64 ((Int.tmod a1 2) * 8)) + 8)) ≤ (t349.size : Int) then ((some (t349.extract ((wrap64 ((Int.tmod a1 2) * 8)) : Int).toNat ((wrap64 ((wrap64 ((Int.tmod a1 2) * 8)) + 8)) : Int).toNat : ByteArray)).bind fun y350 => (some y350)) else (none)) else (none)) else (none)) = some r := H
 have A3 := Aside0.mk A30
 clear A30
 obtain ⟨ji4, hji4⟩ : ∃ j_ : Int, (wrap64 ((Int.tmod a1 2) * 8)) = j_ := ⟨_, rfl⟩
 replace H : (if 0 ≤ (ji4) then (if (ji4) ≤ (wrap64 ((ji4) + 8)) then (if (wrap64 ((ji4) + 8)) ≤ (t349.size : Int) then ((some (t349.extract ((ji4) : Int).toNat ((wrap64 ((ji4) + 8)) : Int).toNat : ByteArray)).bind fun y350 => (some y350)) else (none)) else (none)) else (none)) = some r := by first | (rw [hji4] at H; exact H) | (simp only [hji4] at H ⊢; exact H)
 (try rw [hji4] at A3)
 have hji4w : (IntKind.i64.wrap ((Int.tmod a1 2) * 8)) = ji4 := (i64_w _).trans hji4
 by_cases c5 : 0 ≤ (ji4)
 ·rw [if_pos c5] at H
  have c5b0 := eq_true c5
  have c5b1 : decide (0 ≤ (ji4)) = true := decide_eq_true c5
  clear c5
  by_cases c6 : (ji4) ≤ (wrap64 ((ji4) + 8))
  ·rw [if_pos c6] at H
   have c6b0 := eq_true c6
   have c6b1 : decide ((ji4) ≤ (wrap64 ((ji4) + 8))) = true := decide_eq_true c6
   clear c6
   by_cases c7 : (wrap64 ((ji4) + 8)) ≤ (t349.size : Int)
   ·rw [if_pos c7] at H
    have c7b0 := eq_true c7
    have c7b1 : decide ((wrap64 ((ji4) + 8)) ≤ (t349.size : Int)) = true := decide_eq_true c7
    clear c7
    obtain ⟨y350, hy350⟩ : ∃ y_ : ByteArray, (t349.extract ((ji4) : Int).toNat ((wrap64 ((ji4) + 8)) : Int).toNat) = y_ := ⟨_, rfl⟩
    replace H : (some y350) = some r := by rw [← hy350]; exact (Option.bind_some _ _).symm.trans H
    obtain rfl := Option.some.inj H
    go_enter Try.func278, Try.ntmps278
    go_wp2_with (first | ((with_reducible refine gate_dst (N := 2) rfl ?_); refine box_event ?hg (N := 2) ?hd (cs := #[.string a0_0, .slice A0_1 l0_1.length c0_1]) (t := 113) ?hr ?_; (case hd => rfl); (case hg => rfl); (case hr => first | (go_simp; done) | (go_simp; rfl)); intro gb348 hg w8 hbox hb; have z_ := p_ (below_step tq_0 hb) <| p_ (hbox) <| p_ (gb_ hg tq_0) <| a_ (gb_ hg tq_0); clear HB; obtain ⟨HB, BK348, GW348, GE348⟩ := z_; clear hb hbox hg; have hcz9_0 := bc_ BK348.out 0; have hcz9_1 := bc_ BK348.out 1; have hfz9_0 := blk_frozen BK348.out 0; have hfz9_1 := blk_frozen BK348.out 1) | ((with_reducible refine gate_callee (f := 280) rfl ?_); refine goesL_ (some 12) rfl rfl Try.func280 (by kernel_rfl) rfl #[.agg #[.string a0_0, .slice A0_1 l0_1.length c0_1], .int .i64 (wrap64 (Int.tdiv a1 2))] rfl tq_1 ?_; (with_reducible refine (impl_Memory_line.calls k a0_0 _ _ l0_1 (wrap64 (Int.tdiv a1 2)) t349 _ ?side1 ?side2 A3.out).mono ?_); (case side1 => exact tq_4); (case side2 => exact HC0_1.out); rintro e w10 ⟨rfl, hb⟩; refine ⟨_, rfl, ?_⟩; have z_ := p_ (blk_below (by (with_reducible repeat (first | refine blk_drewN ?_ _ | refine blk_drew ?_ | refine blk_alloc ?_ _)); exact BK348.out) hb) <| a_ (below_step tq_166 hb); clear BK348 HB; obtain ⟨BK348, HB⟩ := z_; (try clear hb); (try clear hb2); (try clear hk); (try clear hi)))
    go_ret
    exact ⟨tq_165, tq_166⟩
   ·rw [if_neg c7] at H
    exact absurd H (by simp)
  ·rw [if_neg c6] at H
   exact absurd H (by simp)
 ·rw [if_neg c5] at H
  exact absurd H (by simp)

/-! ### impl_readWords: function 260 -/
def impl_readWords.l0 : Nat → Int → List ByteArray → Int → Int → ByteArray → List (S206) → Option (List ByteArray)
 | 0, _, _, _, _, _, _ => none
 | k + 1, x1, x7, x10, x11, x352000, x352001 => if x11 < x10 then ((impl_Memory_word.f k x352000 x352001 (wrap64 (x1 + x11))).bind fun t355 => (if x7.length < 8796093022208 then (impl_readWords.l0 k x1 (x7 ++ [t355]) x10 (wrap64 (x11 + 1)) x352000 x352001) else (none))) else (some x7)
def impl_readWords.f (k : Nat) (a0_0 : ByteArray) (l0_1 : List (S206)) (a1 : Int) (a2 : Int) : Option (List ByteArray) := impl_readWords.l0 k a1 (([] : List ByteArray)) a2 0 a0_0 l0_1
theorem impl_readWords.mono_l : ∀ k, (∀ y0 y1 y2 y3 y4 y5, LeO (impl_readWords.l0 k y0 y1 y2 y3 y4 y5) (impl_readWords.l0 (k + 1) y0 y1 y2 y3 y4 y5))
 | 0 => fun _ _ _ _ _ _ r h => by simp [impl_readWords.l0] at h
 | k + 1 => by
  have ih0 := impl_readWords.mono_l k
  ·intro y0 y1 y2 y3 y4 y5
   unfold impl_readWords.l0
   repeat' first
   | (with_reducible exact ih0 ..)
   | (with_reducible exact impl_Memory_word.mono ..)
   | (with_reducible exact LeO.refl _)
   | (with_reducible exact LeO.none _)
   | (with_reducible refine LeO.ite ?_ ?_)
   | (with_reducible refine LeO.bind ?_ (fun _ => ?_))
   | exact ih0 ..
   | exact impl_Memory_word.mono ..
   | exact LeO.none _
   | refine LeO.ite ?_ ?_
   | refine LeO.bind ?_ (fun _ => ?_)
theorem impl_readWords.mono : ∀ a0 a1 a2 a3 k, LeO (impl_readWords.f k a0 a1 a2 a3) (impl_readWords.f (k + 1) a0 a1 a2 a3) := by
 intro a0 a1 a2 a3 k
 have ih0 := impl_readWords.mono_l k
 unfold impl_readWords.f
 repeat' first
   | (with_reducible exact ih0 ..)
   | (with_reducible exact impl_Memory_word.mono ..)
   | (with_reducible exact LeO.refl _)
   | (with_reducible exact LeO.none _)
   | (with_reducible refine LeO.ite ?_ ?_)
   | (with_reducible refine LeO.bind ?_ (fun _ => ?_))
   | exact ih0 ..
   | exact impl_Memory_word.mono ..
   | exact LeO.none _
   | refine LeO.ite ?_ ?_
   | refine LeO.bind ?_ (fun _ => ?_)
set_option maxHeartbeats 8000000 in
set_option maxRecDepth 100000 in
theorem impl_readWords.calls (k : Nat) (a0_0 : ByteArray) (A0_1 : Option Addr) (c0_1 : Nat) (l0_1 : List (S206)) (a1 : Int) (a2 : Int) (r : List ByteArray) (w : World) (hr0_1 : Kd.C k206 w A0_1 l0_1.length l0_1) (hc0_1 : l0_1.length ≤ c0_1) (h : impl_readWords.f k a0_0 l0_1 a1 a2 = some r) :
  Calls Try.prog 260 #[.agg #[.string a0_0, .slice A0_1 l0_1.length c0_1], .int .i64 a1, .int .i64 a2] w fun e w' => ∃ v0_ : Value, e = .returned (v0_) ∧ Kd.R Kd.string 9 w' w.heap.size (fun _ => True) v0_ r ∧ Below w.heap.size w w' := by
 have hu113 := Try.underlying113
 have HR0_1 := Aside0.mk hr0_1
 have HC0_1 := Aside0.mk hc0_1
 clear hr0_1 hc0_1
 have HB := Aside0.mk (Below.refl w.heap.size w)
 have H : (impl_readWords.l0 k a1 (([] : List ByteArray)) a2 0 a0_0 l0_1) = some r := h
 clear h
 obtain ⟨y352, hy352⟩ : ∃ y_ : List ByteArray, y_ = (([] : List ByteArray)) := ⟨_, rfl⟩
 replace H : (impl_readWords.l0 k a1 y352 a2 0 a0_0 l0_1) = some r := by first | (rw [hy352]; with_reducible exact H) | (have H2_ := (Option.bind_some _ _).symm.trans H; rw [hy352]; with_reducible exact H2_) | (have H2_ := (Option.bind_some _ _).symm.trans H; with_reducible exact H2_) | with_reducible exact H | (rw [hy352]; exact H) | exact H
 have Ny352 := Aside0.mk hy352
 clear hy352
 have H' := Aside0.mk H
 clear H
 go_enter Try.func260, Try.ntmps260
 go_wp2_with (first | ((with_reducible refine gate_dst (N := 3) rfl ?_); refine box_event ?hg (N := 3) ?hd (cs := #[.string a0_0, .slice A0_1 l0_1.length c0_1]) (t := 113) ?hr ?_; (case hd => rfl); (case hg => rfl); (case hr => first | (go_simp; done) | (go_simp; rfl)); intro gb351 hg w4 hbox hb; have z_ := p_ (below_step tq_0 hb) <| p_ (hbox) <| p_ (gb_ hg tq_0) <| a_ (gb_ hg tq_0); clear HB; obtain ⟨HB, BK351, GW351, GE351⟩ := z_; clear hb hbox hg) | ((with_reducible refine gate_dst (N := 9) rfl ?_); refine Kd.R_lit Kd.string _ 9 ?hg (N := 9) ?hd (xs := ([] : List ByteArray)) (inner := []) (ok := fun _ => True) (okp := fun _ => True) ?hr ?hp (fun _ hk => hk) trivial (Below.refl _ _) (Nat.le_refl _) (by simp) ?_; (case hd => rfl); (case hg => rfl); (case hr => first | (go_simp; done) | (go_simp; rfl)); (case hp => exact (Reps.none _ _)); intro v353 w5 ho6 hb hg_ hnew_; clear hg_ hnew_; (first | rw [← Ny352.out] at ho6 | (simp only [Int.reduceToNat] at ho6; rw [← Ny352.out] at ho6)); have z_ := p_ (Kd.R_lower ho6 (below_size tq_53)) <| p_ (blk_below tq_106 hb) <| a_ (below_step tq_53 hb); clear BK351 HB; obtain ⟨HO354, BK351, HB⟩ := z_; clear hb ho6))
 go_loopg [7, 11] k (fun kq v7 v11 w' => ∃ (x7_1 : List ByteArray) (x11_1 : Int), v11 = .int .i64 x11_1 ∧ Aside0 (impl_readWords.l0 kq a1 x7_1 a2 x11_1 a0_0 l0_1 = some r) ∧ Aside0 (kq ≤ k) ∧ Aside0 (Kd.R Kd.string 9 w' w.heap.size (fun _ => True) v7 x7_1) ∧ Aside0 (w'.heap[gb351]? = some (.cells #[.string a0_0, (.slice A0_1 l0_1.length c0_1)] 113 (0, 0))) ∧ Aside0 (Below w.heap.size w w'))
 case atStart => exact ⟨(y352), (0), tq_7, H', ⟨Nat.le_refl _⟩, ⟨(by (with_reducible repeat (first | apply Kd.R_alloc | apply Kd.R_drewN | apply Kd.R_drew)); exact HO354.out)⟩, ⟨tq_106⟩, ⟨tq_53⟩⟩
 case round =>
  clear H'
  try clear c2
  try clear p2
  obtain ⟨x7_1, x11_1, rfl, HA, HK1, HO_7, BK351, HB⟩ := hrel
  cases gk with
  | zero => exact absurd HA.out (by simp [impl_readWords.l0])
  | succ k1 =>
   have H := HA.out
   clear HA
   simp only [impl_readWords.l0] at H
   by_cases c7 : x11_1 < a2
   ·rw [if_pos c7] at H
    have c7b0 : decide (x11_1 < a2) = true := decide_eq_true c7
    clear c7
    replace H := Option.bind_eq_some_iff.mp H
    obtain ⟨t355, A80, H⟩ := H
    replace H : (if x7_1.length < 8796093022208 then (impl_readWords.l0 k1 a1 (x7_1 ++ [t355]) a2 (wrap64 (x11_1 + 1)) a0_0 l0_1) else (none)) = some r := H
    have A8 := Aside0.mk A80
    clear A80
    by_cases c9 : x7_1.length < 8796093022208
    ·rw [if_pos c9] at H
     have LMc9 := Aside0.mk c9
     clear c9
     obtain ⟨y356, hy356⟩ : ∃ y_ : List ByteArray, y_ = (x7_1 ++ [t355]) := ⟨_, rfl⟩
     replace H : (impl_readWords.l0 k1 a1 y356 a2 (wrap64 (x11_1 + 1)) a0_0 l0_1) = some r := by first | (rw [hy356]; with_reducible exact H) | (have H2_ := (Option.bind_some _ _).symm.trans H; rw [hy356]; with_reducible exact H2_) | (have H2_ := (Option.bind_some _ _).symm.trans H; with_reducible exact H2_) | with_reducible exact H | (rw [hy356]; exact H) | exact H
     have Ny356 := Aside0.mk hy356
     clear hy356
     have H' := Aside0.mk H
     clear H
     have hcz10_0 := bc_ BK351.out 0
     have hcz10_1 := bc_ BK351.out 1
     have hfz10_0 := blk_frozen BK351.out 0
     have hfz10_1 := blk_frozen BK351.out 1
     go_wp2_with (first | ((with_reducible refine gate_callee (f := 278) rfl ?_); refine goesL_ (some 19) rfl rfl Try.func278 (by kernel_rfl) rfl #[.agg #[.string a0_0, .slice A0_1 l0_1.length c0_1], .int .i64 (wrap64 (a1 + x11_1))] rfl tq_1 ?_; (with_reducible refine (impl_Memory_word.calls k1 a0_0 _ _ l0_1 (wrap64 (a1 + x11_1)) t355 _ ?side1 ?side2 A8.out).mono ?_); (case side1 => exact tq_4); (case side2 => exact HC0_1.out); rintro e w11 ⟨rfl, hb⟩; refine ⟨_, rfl, ?_⟩; have z_ := p_ (Kd.R_below tq_162 hb) <| p_ (blk_below tq_106 hb) <| a_ (below_step tq_53 hb); clear HO_7 BK351 HB; obtain ⟨HO_7, BK351, HB⟩ := z_; (try clear hb); (try clear hb2); (try clear hk); (try clear hi)) | ((with_reducible refine gate_builtin (b := .append) (xs := #[.tmp 14, .tmp 20]) rfl ?_); at_builtin; refine Kd.R_append Kd.string (w0 := w) w.heap.size rfl (.tmp 14) (.tmp 20) 96 9 (.string ⟨#[]⟩) 16 rfl Try.underlying96 info9 rfl (by decide) (by omega) u7 x7_1 t355 [.string t355] (fun _ => True) (fun _ => False) rfl rfl ?aP (fun _ hk => hk.elim) ?aF ?aO ?aB ?aS ?aL ?_; (case aP => exact rfl); (case aB => exact tq_53); (case aF => exact (fun _ _ => trivial)); (case aO => exact tq_162); (case aS => exact (below_size tq_53)); (case aL => have := LMc9.out; omega); intro v357 w12 ho hb hg hat; rw [← Ny356.out] at ho; have z_ := p_ (blk_grown (g := gb351) (o := .cells #[.string a0_0, .slice A0_1 l0_1.length c0_1] 113 (0, 0)) tq_106 hg (Kd.R_ne HO_7.out BK351.out (by decide))) <| p_ (hb) <| a_ (ho); clear BK351 HB HO_7; obtain ⟨BK351, HB, HO358⟩ := z_; clear ho hb hg hat))
     go_roundg k1
     case measure => have := HK1.out; omega
     case rel => exact ⟨(y356), (wrap64 (x11_1 + 1)), tq_7, H', ⟨tq_96⟩, ⟨(by (with_reducible repeat (first | apply Kd.R_alloc | apply Kd.R_drewN | apply Kd.R_drew)); exact HO358.out)⟩, ⟨tq_106⟩, ⟨tq_53⟩⟩
    ·rw [if_neg c9] at H
     exact absurd H (by simp)
   ·rw [if_neg c7] at H
    have c7b0 : decide (x11_1 < a2) = false := decide_eq_false c7
    clear c7
    obtain rfl := Option.some.inj H
    go_wp2
    go_ret
    exact ⟨_, tq_2, tq_162, tq_53⟩

end Go.Proofs.Ytcdnfkoahajhhaa.PFnExactCleanOk
