/- Contracts of Go functions, written by a program of ours over the print of the kit: each says that the call returns what the Lean function beside it computes. Conditions: as each theorem states them. -/
import Derived.Test.YtljnnmpfeningaaPkFnExactPartOk
import Derived.Test.YtljnnmpfeningaaPFnExactPartOkx0
import Derived.Test.YtljnnmpfeningaaPFnExactPartOkx9
namespace Go.Proofs.Ytljnnmpfeningaa.PFnExactPartOk
open Go.RowKit Go.Proofs.YtljnnmpfeningaaW.PrintWords Go.Proofs.YtljnnmpfeningaaW.PrintLast Go.Proofs.YtljnnmpfeningaaW.PrintMore
attribute [local go_sem] max2_int min2_int max_two min_two max_three min_three max_four min_four   -- for this text's walks alone
set_option linter.unusedVariables false
set_option linter.unusedSimpArgs false

/-! ### slices_IndexFunc_int: function 100 -/
def slices_IndexFunc_int.l0 : Nat → List Int → Int → Int → Option (Int)
 | 0, _, _, _ => none
 | k + 1, x0, x7, x8 => if x8 < x7 then (if 0 ≤ x8 then (if x8 < (x0.length : Int) then ((impl_StatesOk_1.f (rd x0 x8)).bind fun t273 => (if t273 = true then (some x8) else (slices_IndexFunc_int.l0 k x0 x7 (wrap64 (x8 + 1))))) else (none)) else (none)) else (some (-1))
def slices_IndexFunc_int.f (k : Nat) (l0 : List Int) (a1 : Unit) : Option (Int) := slices_IndexFunc_int.l0 k l0 (l0.length : Int) 0
theorem slices_IndexFunc_int.mono_l : ∀ k, (∀ y0 y1 y2, LeO (slices_IndexFunc_int.l0 k y0 y1 y2) (slices_IndexFunc_int.l0 (k + 1) y0 y1 y2))
 | 0 => fun _ _ _ r h => by simp [slices_IndexFunc_int.l0] at h
 | k + 1 => by
  have ih0 := slices_IndexFunc_int.mono_l k
  ·intro y0 y1 y2
   unfold slices_IndexFunc_int.l0
   exact mo_0
theorem slices_IndexFunc_int.mono : ∀ a0 a1 k, LeO (slices_IndexFunc_int.f k a0 a1) (slices_IndexFunc_int.f (k + 1) a0 a1) := by
 intro a0 a1 k
 have ih0 := slices_IndexFunc_int.mono_l k
 unfold slices_IndexFunc_int.f
 repeat' first
   | (with_reducible exact ih0 ..)
   | (with_reducible exact LeO.refl _)
   | (with_reducible exact LeO.none _)
   | (with_reducible refine LeO.ite ?_ ?_)
   | (with_reducible refine LeO.bind ?_ (fun _ => ?_))
   | exact ih0 ..
   | exact LeO.none _
   | refine LeO.ite ?_ ?_
   | refine LeO.bind ?_ (fun _ => ?_)
set_option maxHeartbeats 8000000 in
set_option maxRecDepth 100000 in
theorem slices_IndexFunc_int.calls (k : Nat) (A0 : Option Addr) (c0 : Nat) (l0 : List Int) (a1 : Unit) (r : Int) (w : World) (hr0 : Kd.C (Kd.int .i64) w A0 l0.length l0) (hc0 : l0.length ≤ c0) (h : slices_IndexFunc_int.f k l0 a1 = some r) :
  Calls Try.prog 100 #[.slice A0 l0.length c0, .func (.func 73) #[] #[]] w fun e w' => e = .returned (.int .i64 r) ∧ Drawn0 w w' := by
 have HR0 := Aside0.mk hr0
 have HC0 := Aside0.mk hc0
 clear hr0 hc0
 have H : (slices_IndexFunc_int.l0 k l0 (l0.length : Int) 0) = some r := h
 clear h
 have H' := Aside0.mk H
 clear H
 go_enter Try.func100, Try.ntmps100
 go_wp2
 go_loopg [8] k (fun kq v8 w' => ∃ (x8_1 : Int), v8 = .int .i64 x8_1 ∧ Aside0 (slices_IndexFunc_int.l0 kq l0 (l0.length : Int) x8_1 = some r) ∧ Aside0 (kq ≤ k) ∧ Drawn0 w w')
 case atStart => exact ⟨(0), tq_4, H', ⟨Nat.le_refl _⟩, tq_27⟩
 case round =>
 clear H'
 try clear c1; try clear p2
 obtain ⟨x8_1, rfl, HA, HK1, ⟨m1, rfl⟩⟩ := hrel
 cases gk with
 | zero => exact absurd HA.out (by simp [slices_IndexFunc_int.l0])
 | succ k1 =>
 have H := HA.out
 clear HA
 simp only [slices_IndexFunc_int.l0] at H
 by_cases c3 : x8_1 < (l0.length : Int)
 rotate_left
 ·rw [if_neg c3] at H
  have c3b0 := decide_eq_false c3
  clear c3
  obtain rfl := Option.some.inj H
  go_wp2
  go_ret
  exact ⟨tq_4, tq_27⟩
 rw [if_pos c3] at H
 have c3b0 := decide_eq_true c3
 clear c3
 by_cases c4 : 0 ≤ x8_1
 rotate_left
 ·rw [if_neg c4] at H
  exact absurd H (by simp)
 rw [if_pos c4] at H
 have c4b0 := decide_eq_true c4
 clear c4
 by_cases c5 : x8_1 < (l0.length : Int)
 rotate_left
 ·rw [if_neg c5] at H
  exact absurd H (by simp)
 rw [if_pos c5] at H
 have c5b0 := decide_eq_true c5
 clear c5
 replace H := Option.bind_eq_some_iff.mp H
 obtain ⟨t273, A60, H⟩ := H
 replace H : (if t273 = true then (some x8_1) else (slices_IndexFunc_int.l0 k1 l0 (l0.length : Int) (wrap64 (x8_1 + 1)))) = some r := H
 have A6 := Aside0.mk A60
 clear A60
 by_cases c7 : t273 = true
 ·subst c7
  have H1 : (some x8_1) = some r := by rw [if_pos rfl] at H; exact H
  clear H
  have H := H1
  clear H1
  obtain rfl := Option.some.inj H
  have p272 : 0 ≤ (x8_1 : Int) := of_decide_eq_true tq_3
  have q272 : x8_1 < (l0.length : Int) := of_decide_eq_true tq_3
  obtain ⟨ad272, e272, hx272_0⟩ := Kd.at_int HR0.out x8_1 p272 q272
  cases e272
  replace p272 := eq_true p272
  replace q272 := eq_true q272
  go_wp2_with (first | (go_at_call 73; (with_reducible refine (impl_StatesOk_1.calls (rd l0 x8_1) true _ A6.out).mono ?_); rintro e w' ⟨rfl, ⟨nd, rfl⟩⟩))
  go_ret
  exact ⟨tq_4, tq_27⟩
 replace c7 := Bool.eq_false_iff.mpr c7
 subst c7
 have H1 : (slices_IndexFunc_int.l0 k1 l0 (l0.length : Int) (wrap64 (x8_1 + 1))) = some r := by rw [if_neg (show ¬ (false = true) by decide)] at H; exact H
 clear H
 have H := H1
 clear H1
 have H' := Aside0.mk H
 clear H
 have p272 : 0 ≤ (x8_1 : Int) := of_decide_eq_true tq_3
 have q272 : x8_1 < (l0.length : Int) := of_decide_eq_true tq_3
 obtain ⟨ad272, e272, hx272_0⟩ := Kd.at_int HR0.out x8_1 p272 q272
 cases e272
 replace p272 := eq_true p272
 replace q272 := eq_true q272
 go_wp2_with (first | (go_at_call 73; (with_reducible refine (impl_StatesOk_1.calls (rd l0 x8_1) false _ A6.out).mono ?_); rintro e w' ⟨rfl, ⟨nd, rfl⟩⟩))
 go_roundg k1
 case measure => have := HK1.out; omega
 case rel => exact ⟨(wrap64 (x8_1 + 1)), tq_4, H', ⟨tq_93⟩, tq_27⟩

/-! ### slices_ContainsFunc_int: function 72 -/
def slices_ContainsFunc_int.f (k : Nat) (l0 : List Int) (a1 : Unit) : Option (Bool) := (slices_IndexFunc_int.f k l0 a1).bind fun t274 => (some (decide (t274 ≥ 0)))
theorem slices_ContainsFunc_int.mono : ∀ a0 a1 k, LeO (slices_ContainsFunc_int.f k a0 a1) (slices_ContainsFunc_int.f (k + 1) a0 a1) := by
 intro a0 a1 k
 unfold slices_ContainsFunc_int.f
 repeat' first
   | (with_reducible exact slices_IndexFunc_int.mono ..)
   | (with_reducible exact LeO.refl _)
   | (with_reducible exact LeO.none _)
   | (with_reducible refine LeO.ite ?_ ?_)
   | (with_reducible refine LeO.bind ?_ (fun _ => ?_))
   | exact slices_IndexFunc_int.mono ..
   | exact LeO.none _
   | refine LeO.ite ?_ ?_
   | refine LeO.bind ?_ (fun _ => ?_)
set_option maxHeartbeats 8000000 in
set_option maxRecDepth 100000 in
theorem slices_ContainsFunc_int.calls (k : Nat) (A0 : Option Addr) (c0 : Nat) (l0 : List Int) (a1 : Unit) (r : Bool) (w : World) (hr0 : Kd.C (Kd.int .i64) w A0 l0.length l0) (hc0 : l0.length ≤ c0) (h : slices_ContainsFunc_int.f k l0 a1 = some r) :
  Calls Try.prog 72 #[.slice A0 l0.length c0, .func (.func 73) #[] #[]] w fun e w' => e = .returned (.bool r) ∧ Drawn0 w w' := by
 have HR0 := Aside0.mk hr0
 have HC0 := Aside0.mk hc0
 clear hr0 hc0
 have H : ((slices_IndexFunc_int.f k l0 a1).bind fun t274 => (some (decide (t274 ≥ 0)))) = some r := h
 clear h
 replace H := Option.bind_eq_some_iff.mp H
 obtain ⟨t274, A30, H⟩ := H
 replace H : (some (decide (t274 ≥ 0))) = some r := H
 have A3 := Aside0.mk A30
 clear A30
 obtain rfl := Option.some.inj H
 go_enter Try.func72, Try.ntmps72
 go_wp2_with (first | ((with_reducible refine gate_callee (f := 100) rfl ?_); refine goesL_ (some 7) rfl rfl Try.func100 (by kernel_rfl) rfl #[.slice A0 l0.length c0, .func (.func 73) #[] #[]] rfl tq_1 ?_; (with_reducible refine (slices_IndexFunc_int.calls k _ _ l0 a1 t274 _ ?side1 ?side2 A3.out).mono ?_); (case side1 => exact tq_177); (case side2 => exact HC0.out); rintro e w' ⟨rfl, ⟨nd, rfl⟩⟩; refine ⟨_, rfl, ?_⟩))
 go_ret
 exact ⟨tq_4, tq_27⟩

/-! ### impl_StatesOk: function 41 -/
def impl_StatesOk.f (k : Nat) (l0 : List Int) (a1 : Int) : Option (Bool) := (impl_within.f a1 1 12).bind fun t275 => (if t275 = true then (if (l0.length : Int) = a1 then ((slices_ContainsFunc_int.f k l0 ()).bind fun t276 => (some (!t276))) else (some false)) else (some false))
theorem impl_StatesOk.mono : ∀ a0 a1 k, LeO (impl_StatesOk.f k a0 a1) (impl_StatesOk.f (k + 1) a0 a1) := by
 intro a0 a1 k
 unfold impl_StatesOk.f
 repeat' first
   | (with_reducible exact slices_ContainsFunc_int.mono ..)
   | (with_reducible exact LeO.refl _)
   | (with_reducible exact LeO.none _)
   | (with_reducible refine LeO.ite ?_ ?_)
   | (with_reducible refine LeO.bind ?_ (fun _ => ?_))
   | exact slices_ContainsFunc_int.mono ..
   | exact LeO.none _
   | refine LeO.ite ?_ ?_
   | refine LeO.bind ?_ (fun _ => ?_)
set_option maxHeartbeats 8000000 in
set_option maxRecDepth 100000 in
theorem impl_StatesOk.calls (k : Nat) (A0 : Option Addr) (c0 : Nat) (l0 : List Int) (a1 : Int) (r : Bool) (w : World) (hr0 : Kd.C (Kd.int .i64) w A0 l0.length l0) (hc0 : l0.length ≤ c0) (h : impl_StatesOk.f k l0 a1 = some r) :
  Calls Try.prog 41 #[.slice A0 l0.length c0, .int .i64 a1] w fun e w' => e = .returned (.bool r) ∧ Drawn0 w w' := by
 have HR0 := Aside0.mk hr0
 have HC0 := Aside0.mk hc0
 clear hr0 hc0
 have H : ((impl_within.f a1 1 12).bind fun t275 => (if t275 = true then (if (l0.length : Int) = a1 then ((slices_ContainsFunc_int.f k l0 ()).bind fun t276 => (some (!t276))) else (some false)) else (some false))) = some r := h
 clear h
 replace H := Option.bind_eq_some_iff.mp H
 obtain ⟨t275, A30, H⟩ := H
 replace H : (if t275 = true then (if (l0.length : Int) = a1 then ((slices_ContainsFunc_int.f k l0 ()).bind fun t276 => (some (!t276))) else (some false)) else (some false)) = some r := H
 have A3 := Aside0.mk A30
 clear A30
 by_cases c4 : t275 = true
 rotate_left
 ·replace c4 := Bool.eq_false_iff.mpr c4
  subst c4
  have H1 : (some false) = some r := by rw [if_neg (show ¬ (false = true) by decide)] at H; exact H
  clear H
  have H := H1
  clear H1
  obtain rfl := Option.some.inj H
  go_enter Try.func41, Try.ntmps41
  go_wp2_with (first | ((with_reducible refine gate_callee (f := 40) rfl ?_); refine goesL_ (some 6) rfl rfl Try.func40 (by kernel_rfl) rfl #[.int .i64 a1, .int .i64 1, .int .i64 12] rfl tq_1 ?_; (with_reducible refine (impl_within.calls a1 1 12 false _ A3.out).mono ?_); rintro e w' ⟨rfl, ⟨nd, rfl⟩⟩; refine ⟨_, rfl, ?_⟩))
  go_ret
  exact ⟨tq_4, tq_27⟩
 subst c4
 have H1 : (if (l0.length : Int) = a1 then ((slices_ContainsFunc_int.f k l0 ()).bind fun t276 => (some (!t276))) else (some false)) = some r := by rw [if_pos rfl] at H; exact H
 clear H
 have H := H1
 clear H1
 by_cases c5 : (l0.length : Int) = a1
 rotate_left
 ·rw [if_neg c5] at H
  have c5b0 := beq_eq_false_iff_ne.mpr c5
  have c5b1 := bne_iff_ne.mpr c5
  obtain rfl := Option.some.inj H
  go_enter Try.func41, Try.ntmps41
  go_wp2_with (first | ((with_reducible refine gate_callee (f := 40) rfl ?_); refine goesL_ (some 6) rfl rfl Try.func40 (by kernel_rfl) rfl #[.int .i64 a1, .int .i64 1, .int .i64 12] rfl tq_1 ?_; (with_reducible refine (impl_within.calls a1 1 12 true _ A3.out).mono ?_); rintro e w' ⟨rfl, ⟨nd, rfl⟩⟩; refine ⟨_, rfl, ?_⟩))
  go_ret
  exact ⟨tq_4, tq_27⟩
 rw [if_pos c5] at H
 have c5b0 := beq_iff_eq.mpr c5
 have c5b1 := bne_eq_false_iff_eq.mpr c5
 clear c5
 replace H := Option.bind_eq_some_iff.mp H
 obtain ⟨t276, A60, H⟩ := H
 replace H : (some (!t276)) = some r := H
 have A6 := Aside0.mk A60
 clear A60
 obtain rfl := Option.some.inj H
 go_enter Try.func41, Try.ntmps41
 go_wp2_with (first | ((with_reducible refine gate_callee (f := 40) rfl ?_); refine goesL_ (some 6) rfl rfl Try.func40 (by kernel_rfl) rfl #[.int .i64 a1, .int .i64 1, .int .i64 12] rfl tq_1 ?_; (with_reducible refine (impl_within.calls a1 1 12 true _ A3.out).mono ?_); rintro e w' ⟨rfl, ⟨nd, rfl⟩⟩; refine ⟨_, rfl, ?_⟩) | (go_at_call 72; (with_reducible refine (slices_ContainsFunc_int.calls k _ _ l0 () t276 _ ?side1 ?side2 A6.out).mono ?_); (case side1 => exact tq_177); (case side2 => exact HC0.out); rintro e w' ⟨rfl, ⟨nd, rfl⟩⟩))
 go_ret
 exact ⟨tq_4, tq_27⟩

/-! ### impl_LinksTo: function 74 -/
mutual
def impl_LinksTo.l0 : Nat → Int → Int → List (S64) → Int → Int → Option (Int)
 | 0, _, _, _, _, _ => none
 | k + 1, x1, x5, x11, x12, x13 => if x13 < x12 then (if 0 ≤ x13 then (if x13 < (x11.length : Int) then (impl_LinksTo.l1 k x1 x5 x11 x12 x13 ((rd_T64 x11 x13).f5) (((rd_T64 x11 x13).f5).length : Int) 0 ((rd_T64 x11 x13).f0) ((rd_T64 x11 x13).f1) ((rd_T64 x11 x13).f2) ((rd_T64 x11 x13).f3) ((rd_T64 x11 x13).f4) ((rd_T64 x11 x13).f5)) else (none)) else (none)) else (some x5)
def impl_LinksTo.l1 : Nat → Int → Int → List (S64) → Int → Int → List (S67) → Int → Int → Int → Int → Int → ByteArray → List (S96) → List (S67) → Option (Int)
 | 0, _, _, _, _, _, _, _, _, _, _, _, _, _, _ => none
 | k + 1, x1, x5, x11, x12, x13, x18, x19, x20, x280000, x280001, x280002, x280003, x280004, x280005 => if x20 < x19 then (if 0 ≤ x20 then (if x20 < (x18.length : Int) then (if x280000 = 2 then (if ((rd_T67 x18 x20).f0) = x1 then (impl_LinksTo.l1 k x1 (wrap64 (x5 + 1)) x11 x12 x13 x18 x19 (wrap64 (x20 + 1)) x280000 x280001 x280002 x280003 x280004 x280005) else (impl_LinksTo.l1 k x1 x5 x11 x12 x13 x18 x19 (wrap64 (x20 + 1)) x280000 x280001 x280002 x280003 x280004 x280005)) else (impl_LinksTo.l1 k x1 x5 x11 x12 x13 x18 x19 (wrap64 (x20 + 1)) x280000 x280001 x280002 x280003 x280004 x280005)) else (none)) else (none)) else (impl_LinksTo.l0 k x1 x5 x11 x12 (wrap64 (x13 + 1)))
end
def impl_LinksTo.f (k : Nat) (a0_0 : Int) (l0_1 : List Int) (l0_2 : List (S64)) (a1 : Int) : Option (Int) := impl_LinksTo.l0 k a1 0 l0_2 (l0_2.length : Int) 0
theorem impl_LinksTo.mono_l : ∀ k, (∀ y0 y1 y2 y3 y4, LeO (impl_LinksTo.l0 k y0 y1 y2 y3 y4) (impl_LinksTo.l0 (k + 1) y0 y1 y2 y3 y4)) ∧ (∀ y0 y1 y2 y3 y4 y5 y6 y7 y8 y9 y10 y11 y12 y13, LeO (impl_LinksTo.l1 k y0 y1 y2 y3 y4 y5 y6 y7 y8 y9 y10 y11 y12 y13) (impl_LinksTo.l1 (k + 1) y0 y1 y2 y3 y4 y5 y6 y7 y8 y9 y10 y11 y12 y13))
 | 0 => ⟨fun _ _ _ _ _ r h => by simp [impl_LinksTo.l0] at h, fun _ _ _ _ _ _ _ _ _ _ _ _ _ _ r h => by simp [impl_LinksTo.l1] at h⟩
 | k + 1 => by
  obtain ⟨ih0, ih1⟩ := impl_LinksTo.mono_l k
  refine ⟨?_, ?_⟩
  ·intro y0 y1 y2 y3 y4
   unfold impl_LinksTo.l0
   exact mo_2
  ·intro y0 y1 y2 y3 y4 y5 y6 y7 y8 y9 y10 y11 y12 y13
   unfold impl_LinksTo.l1
   exact mo_2
theorem impl_LinksTo.mono : ∀ a0 a1 a2 a3 k, LeO (impl_LinksTo.f k a0 a1 a2 a3) (impl_LinksTo.f (k + 1) a0 a1 a2 a3) := by
 intro a0 a1 a2 a3 k
 obtain ⟨ih0, ih1⟩ := impl_LinksTo.mono_l k
 unfold impl_LinksTo.f
 repeat' first
   | (with_reducible exact ih0 ..)
   | (with_reducible exact ih1 ..)
   | (with_reducible exact LeO.refl _)
   | (with_reducible exact LeO.none _)
   | (with_reducible refine LeO.ite ?_ ?_)
   | (with_reducible refine LeO.bind ?_ (fun _ => ?_))
   | exact ih0 ..
   | exact ih1 ..
   | exact LeO.none _
   | refine LeO.ite ?_ ?_
   | refine LeO.bind ?_ (fun _ => ?_)
set_option maxHeartbeats 8000000 in
set_option maxRecDepth 100000 in
theorem impl_LinksTo.calls (k : Nat) (a0_0 : Int) (A0_1 : Option Addr) (c0_1 : Nat) (l0_1 : List Int) (A0_2 : Option Addr) (c0_2 : Nat) (l0_2 : List (S64)) (a1 : Int) (r : Int) (w : World) (hr0_1 : Kd.C (Kd.int .i64) w A0_1 l0_1.length l0_1) (hc0_1 : l0_1.length ≤ c0_1) (hr0_2 : Kd.C k64 w A0_2 l0_2.length l0_2) (hc0_2 : l0_2.length ≤ c0_2) (h : impl_LinksTo.f k a0_0 l0_1 l0_2 a1 = some r) :
  Calls Try.prog 74 #[.agg #[.int .i64 a0_0, .slice A0_1 l0_1.length c0_1, .slice A0_2 l0_2.length c0_2], .int .i64 a1] w fun e w' => e = .returned (.int .i64 r) ∧ Below w.heap.size w w' := by
 have hu34 := Try.underlying34
 have hu64 := Try.underlying64
 have hu67 := Try.underlying67
 have HR0_1 := Aside0.mk hr0_1
 have HC0_1 := Aside0.mk hc0_1
 clear hr0_1 hc0_1
 have HR0_2 := Aside0.mk hr0_2
 have HC0_2 := Aside0.mk hc0_2
 clear hr0_2 hc0_2
 have HB := Aside0.mk (Below.refl w.heap.size w)
 have H : (impl_LinksTo.l0 k a1 0 l0_2 (l0_2.length : Int) 0) = some r := h
 clear h
 have H' := Aside0.mk H
 clear H
 go_enter Try.func74, Try.ntmps74
 go_wp2_with (first | ((with_reducible refine gate_dst (N := 2) rfl ?_); refine box_event ?hg (N := 2) ?hd (cs := #[.int .i64 a0_0, .slice A0_1 l0_1.length c0_1, .slice A0_2 l0_2.length c0_2]) (t := 34) ?hr ?_; (case hd => rfl); (case hg => rfl); (case hr => first | (go_simp; done) | (go_simp; rfl)); intro gb277 hg w3 hbox hb; have z_ := p_ (below_step tq_0 hb) <| p_ (hbox) <| p_ (gb_ hg tq_0) <| a_ (gb_ hg tq_0); clear HB; obtain ⟨HB, BK277, GW277, GE277⟩ := z_; clear hb hbox hg; obtain ⟨hcz4_0, hcz4_1, hcz4_2⟩ := bk3_ BK277.out; obtain ⟨hfz4_0, hfz4_1, hfz4_2⟩ := bf3_ BK277.out))
 go_loopg [5, 13] k (fun kq v5 v13 w' => ∃ (x5_1 : Int) (x13_1 : Int), v5 = .int .i64 x5_1 ∧ v13 = .int .i64 x13_1 ∧ Aside0 (impl_LinksTo.l0 kq a1 x5_1 l0_2 (l0_2.length : Int) x13_1 = some r) ∧ Aside0 (kq ≤ k) ∧ Aside0 (w'.heap[gb277]? = some (.cells #[.int .i64 a0_0, (.slice A0_1 l0_1.length c0_1), (.slice A0_2 l0_2.length c0_2)] 34 (0, 0))) ∧ Aside0 (Below w.heap.size w w'))
 case atStart => exact ⟨(0), (0), tq_4, tq_4, H', ⟨Nat.le_refl _⟩, ⟨tq_49⟩, ⟨tq_90⟩⟩
 case round =>
 clear H'
 try clear p2; try clear hcz4_0 hcz4_1 hcz4_2 hfz4_0 hfz4_1 hfz4_2
 obtain ⟨x5_1, x13_1, rfl, rfl, HA, HK1, BK277, HB⟩ := hrel
 cases gk with
 | zero => exact absurd HA.out (by simp [impl_LinksTo.l0])
 | succ k1 =>
 have H := HA.out
 clear HA
 simp only [impl_LinksTo.l0] at H
 by_cases c5 : x13_1 < (l0_2.length : Int)
 rotate_left
 ·rw [if_neg c5] at H
  have c5b0 := decide_eq_false c5
  clear c5
  obtain rfl := Option.some.inj H
  go_wp2
  go_ret
  exact ⟨tq_2, tq_90⟩
 rw [if_pos c5] at H
 have c5b0 := decide_eq_true c5
 clear c5
 by_cases c6 : 0 ≤ x13_1
 rotate_left
 ·rw [if_neg c6] at H
  exact absurd H (by simp)
 rw [if_pos c6] at H
 have c6b0 := decide_eq_true c6
 clear c6
 by_cases c7 : x13_1 < (l0_2.length : Int)
 rotate_left
 ·rw [if_neg c7] at H
  exact absurd H (by simp)
 rw [if_pos c7] at H
 have c7b0 := decide_eq_true c7
 clear c7
 have H' := Aside0.mk H
 clear H
 have p278 : 0 ≤ (x13_1 : Int) := of_decide_eq_true tq_3
 have q278 : x13_1 < (l0_2.length : Int) := of_decide_eq_true tq_3
 obtain ⟨ad278, A278_4, c278_4, A278_5, c278_5, e278, hx278_0, hx278_1, hx278_2, hx278_3, hx278_4, hx278_5, hl278_4, hi278_4, hl278_5, hi278_5⟩ := at_T64 HR0_2.out x13_1 p278 q278
 cases e278
 replace hx278_0 := hx_ HB.out hx278_0
 replace hx278_1 := hx_ HB.out hx278_1
 replace hx278_2 := hx_ HB.out hx278_2
 replace hx278_3 := hx_ HB.out hx278_3
 replace hx278_4 := hx_ HB.out hx278_4
 replace hx278_5 := hx_ HB.out hx278_5
 have HR278_4 := Aside0.mk hi278_4
 have HC278_4 := Aside0.mk hl278_4
 clear hi278_4 hl278_4
 have HR278_5 := Aside0.mk hi278_5
 have HC278_5 := Aside0.mk hl278_5
 clear hi278_5 hl278_5
 replace p278 := eq_true p278
 replace q278 := eq_true q278
 go_wp2_with (first | ((with_reducible refine gate_dst (N := 7) rfl ?_); refine box_event ?hg (N := 7) ?hd (cs := #[.int .i64 0, .int .i64 0, .int .i64 0, .string (⟨#[]⟩ : ByteArray), .slice none 0 0, .slice none 0 0]) (t := 64) ?hr ?_; (case hd => rfl); (case hg => rfl); (case hr => first | (go_simp; done) | (go_simp; rfl)); intro gb279 hg w8 hbox hb; have z_ := p_ (blk_below tq_49 hb) <| p_ (below_step tq_90 hb) <| p_ (hbox) <| p_ (gb_ hg tq_90) <| p_ (gb_ hg tq_90) <| p_ (ltne_ hg (blk_lt tq_49)) <| a_ (gtne_ hg (blk_lt tq_49)); clear BK277 HB; obtain ⟨BK277, HB, BK279, GW279, GE279, NB277_279, NB279_277⟩ := z_; clear hb hbox hg; have hnb9 := NB279_277.out; have hnc9 := NB277_279.out; obtain ⟨hcz10_0, hcz10_1, hcz10_2, hcz10_3, hcz10_4, hcz10_5⟩ := bk6_ BK279.out; obtain ⟨hfz10_0, hfz10_1, hfz10_2, hfz10_3, hfz10_4, hfz10_5⟩ := bf6_ BK279.out))
 go_loopg [5, 20] k1 (fun kq v5 v20 w' => ∃ (x5_2 : Int) (x20_2 : Int), v5 = .int .i64 x5_2 ∧ v20 = .int .i64 x20_2 ∧ Aside0 (impl_LinksTo.l1 kq a1 x5_2 l0_2 (l0_2.length : Int) x13_1 ((rd_T64 l0_2 x13_1).f5) (((rd_T64 l0_2 x13_1).f5).length : Int) x20_2 ((rd_T64 l0_2 x13_1).f0) ((rd_T64 l0_2 x13_1).f1) ((rd_T64 l0_2 x13_1).f2) ((rd_T64 l0_2 x13_1).f3) ((rd_T64 l0_2 x13_1).f4) ((rd_T64 l0_2 x13_1).f5) = some r) ∧ Aside0 (kq ≤ k1) ∧ Aside0 (w'.heap[gb277]? = some (.cells #[.int .i64 a0_0, (.slice A0_1 l0_1.length c0_1), (.slice (some ad278) l0_2.length c0_2)] 34 (0, 0))) ∧ Aside0 (w'.heap[gb279]? = some (.cells #[.int .i64 ((rd_T64 l0_2 x13_1).f0), .int .i64 ((rd_T64 l0_2 x13_1).f1), .int .i64 ((rd_T64 l0_2 x13_1).f2), .string ((rd_T64 l0_2 x13_1).f3), (.slice A278_4 ((rd_T64 l0_2 x13_1).f4).length c278_4), (.slice A278_5 ((rd_T64 l0_2 x13_1).f5).length c278_5)] 64 (0, 0))) ∧ Aside0 (Below w.heap.size w w'))
 case atStart => exact ⟨(x5_1), (0), tq_4, tq_4, H', ⟨Nat.le_refl _⟩, ⟨(by (with_reducible repeat (first | refine blk_drewN ?_ _ | refine blk_drew ?_ | refine blk_alloc ?_ _)); refine blk_far ?_ NB277_279.out _; (with_reducible repeat (first | refine blk_drewN ?_ _ | refine blk_drew ?_ | refine blk_alloc ?_ _)); refine blk_far ?_ NB277_279.out _; (with_reducible repeat (first | refine blk_drewN ?_ _ | refine blk_drew ?_ | refine blk_alloc ?_ _)); refine blk_far ?_ NB277_279.out _; (with_reducible repeat (first | refine blk_drewN ?_ _ | refine blk_drew ?_ | refine blk_alloc ?_ _)); refine blk_far ?_ NB277_279.out _; (with_reducible repeat (first | refine blk_drewN ?_ _ | refine blk_drew ?_ | refine blk_alloc ?_ _)); refine blk_far ?_ NB277_279.out _; (with_reducible repeat (first | refine blk_drewN ?_ _ | refine blk_drew ?_ | refine blk_alloc ?_ _)); refine blk_far ?_ NB277_279.out _; (with_reducible repeat (first | refine blk_drewN ?_ _ | refine blk_drew ?_ | refine blk_alloc ?_ _)); exact BK277.out)⟩, ⟨(by (with_reducible repeat (first | refine blk_drewN ?_ _ | refine blk_drew ?_ | refine blk_alloc ?_ _)); refine blk_put (cs := #[.int .i64 ((rd_T64 l0_2 x13_1).f0), .int .i64 ((rd_T64 l0_2 x13_1).f1), .int .i64 ((rd_T64 l0_2 x13_1).f2), .string ((rd_T64 l0_2 x13_1).f3), .slice A278_4 ((rd_T64 l0_2 x13_1).f4).length c278_4, .slice none 0 0]) ?_ 5 _ rfl; (with_reducible repeat (first | refine blk_drewN ?_ _ | refine blk_drew ?_ | refine blk_alloc ?_ _)); refine blk_put (cs := #[.int .i64 ((rd_T64 l0_2 x13_1).f0), .int .i64 ((rd_T64 l0_2 x13_1).f1), .int .i64 ((rd_T64 l0_2 x13_1).f2), .string ((rd_T64 l0_2 x13_1).f3), .slice none 0 0, .slice none 0 0]) ?_ 4 _ rfl; (with_reducible repeat (first | refine blk_drewN ?_ _ | refine blk_drew ?_ | refine blk_alloc ?_ _)); refine blk_put (cs := #[.int .i64 ((rd_T64 l0_2 x13_1).f0), .int .i64 ((rd_T64 l0_2 x13_1).f1), .int .i64 ((rd_T64 l0_2 x13_1).f2), .string (⟨#[]⟩ : ByteArray), .slice none 0 0, .slice none 0 0]) ?_ 3 _ rfl; (with_reducible repeat (first | refine blk_drewN ?_ _ | refine blk_drew ?_ | refine blk_alloc ?_ _)); refine blk_put (cs := #[.int .i64 ((rd_T64 l0_2 x13_1).f0), .int .i64 ((rd_T64 l0_2 x13_1).f1), .int .i64 0, .string (⟨#[]⟩ : ByteArray), .slice none 0 0, .slice none 0 0]) ?_ 2 _ rfl; (with_reducible repeat (first | refine blk_drewN ?_ _ | refine blk_drew ?_ | refine blk_alloc ?_ _)); refine blk_put (cs := #[.int .i64 ((rd_T64 l0_2 x13_1).f0), .int .i64 0, .int .i64 0, .string (⟨#[]⟩ : ByteArray), .slice none 0 0, .slice none 0 0]) ?_ 1 _ rfl; (with_reducible repeat (first | refine blk_drewN ?_ _ | refine blk_drew ?_ | refine blk_alloc ?_ _)); refine blk_put (cs := #[.int .i64 0, .int .i64 0, .int .i64 0, .string (⟨#[]⟩ : ByteArray), .slice none 0 0, .slice none 0 0]) ?_ 0 _ rfl; (with_reducible repeat (first | refine blk_drewN ?_ _ | refine blk_drew ?_ | refine blk_alloc ?_ _)); exact BK279.out)⟩, ⟨tq_39⟩⟩
 case round =>
 clear H'
 try clear c2; try clear p2; try clear q2; try clear hx2; try clear c5; try clear c5b0; try clear c6; try clear c6b0; try clear c7; try clear c7b0; try clear c9; try clear hcz10_0 hcz10_1 hcz10_2 hcz10_3 hcz10_4 hcz10_5; try clear hcz4_0 hcz4_1 hcz4_2; try clear hfz10_0 hfz10_1 hfz10_2 hfz10_3 hfz10_4 hfz10_5; try clear hfz4_0 hfz4_1 hfz4_2; try clear hx278_0; try clear hx278_1; try clear hx278_2; try clear hx278_3; try clear hx278_4; try clear hx278_5; try clear p2; try clear p278; try clear q278
 obtain ⟨x5_2, x20_2, rfl, rfl, HA, HK2, BK277, BK279, HB⟩ := hrel
 cases gk with
 | zero => exact absurd HA.out (by simp [impl_LinksTo.l1])
 | succ k2 =>
 have H := HA.out
 clear HA
 simp only [impl_LinksTo.l1] at H
 by_cases c11 : x20_2 < (((rd_T64 l0_2 x13_1).f5).length : Int)
 rotate_left
 ·rw [if_neg c11] at H
  have c11b0 := decide_eq_false c11
  clear c11
  have H' := Aside0.mk H
  clear H
  go_wp2
  go_roundg k2
  case measure => have := HK1.out; have := HK2.out; omega
  case rel => exact ⟨(x5_2), (wrap64 (x13_1 + 1)), tq_4, tq_4, H', ⟨tq_129⟩, ⟨tq_49⟩, ⟨tq_39⟩⟩
 rw [if_pos c11] at H
 have c11b0 := decide_eq_true c11
 clear c11
 by_cases c12 : 0 ≤ x20_2
 rotate_left
 ·rw [if_neg c12] at H
  exact absurd H (by simp)
 rw [if_pos c12] at H
 have c12b0 := decide_eq_true c12
 clear c12
 by_cases c13 : x20_2 < (((rd_T64 l0_2 x13_1).f5).length : Int)
 rotate_left
 ·rw [if_neg c13] at H
  exact absurd H (by simp)
 rw [if_pos c13] at H
 have c13b0 := decide_eq_true c13
 clear c13
 by_cases c14 : ((rd_T64 l0_2 x13_1).f0) = 2
 rotate_left
 ·rw [if_neg c14] at H
  have c14b0 := beq_eq_false_iff_ne.mpr c14
  have c14b1 := bne_iff_ne.mpr c14
  have H' := Aside0.mk H
  clear H
  have p280 : 0 ≤ (x20_2 : Int) := of_decide_eq_true tq_3
  have q280 : x20_2 < (((rd_T64 l0_2 x13_1).f5).length : Int) := of_decide_eq_true tq_3
  obtain ⟨ad280, e280, hx280_0, hx280_1⟩ := at_T67 HR278_5.out x20_2 p280 q280
  cases e280
  replace hx280_0 := hx_ HB.out hx280_0
  replace hx280_1 := hx_ HB.out hx280_1
  replace p280 := eq_true p280
  replace q280 := eq_true q280
  go_wp2_with (first | ((with_reducible refine gate_dst (N := 9) rfl ?_); refine box_event ?hg (N := 9) ?hd (cs := #[.int .i64 0, .string (⟨#[]⟩ : ByteArray)]) (t := 67) ?hr ?_; (case hd => rfl); (case hg => rfl); (case hr => first | (go_simp; done) | (go_simp; rfl)); intro gb281 hg w28 hbox hb; have z_ := p_ (blk_below tq_49 hb) <| p_ (blk_below tq_74 hb) <| p_ (below_step tq_39 hb) <| p_ (hbox) <| p_ (gb_ hg tq_39) <| p_ (gb_ hg tq_39) <| p_ (ltne_ hg (blk_lt tq_49)) <| p_ (gtne_ hg (blk_lt tq_49)) <| p_ (ltne_ hg (blk_lt tq_74)) <| a_ (gtne_ hg (blk_lt tq_74)); clear BK277 BK279 HB; obtain ⟨BK277, BK279, HB, BK281, GW281, GE281, NB277_281, NB281_277, NB279_281, NB281_279⟩ := z_; clear hb hbox hg; have hnb29 := NB281_277.out; have hnc29 := NB277_281.out; have hnb30 := NB281_279.out; have hnc30 := NB279_281.out; obtain ⟨hcz31_0, hcz31_1⟩ := bk2_ BK281.out; obtain ⟨hfz31_0, hfz31_1⟩ := bf2_ BK281.out; have hnb32 := NB279_277.out; have hnc32 := NB277_279.out; obtain ⟨hcz33_0, hcz33_1, hcz33_2, hcz33_3, hcz33_4, hcz33_5⟩ := bk6_ BK279.out; obtain ⟨hfz33_0, hfz33_1, hfz33_2, hfz33_3, hfz33_4, hfz33_5⟩ := bf6_ BK279.out))
  go_roundg k2
  case measure => have := HK1.out; have := HK2.out; omega
  case rel => exact ⟨(x5_2), (wrap64 (x20_2 + 1)), tq_4, tq_4, H', ⟨tq_129⟩, ⟨tq_83⟩, ⟨tq_82⟩, ⟨tq_115⟩⟩
 rw [if_pos c14] at H
 have c14b0 := beq_iff_eq.mpr c14
 have c14b1 := bne_eq_false_iff_eq.mpr c14
 clear c14
 by_cases c15 : ((rd_T67 ((rd_T64 l0_2 x13_1).f5) x20_2).f0) = a1
 rotate_left
 ·rw [if_neg c15] at H
  have c15b0 := beq_eq_false_iff_ne.mpr c15
  have c15b1 := bne_iff_ne.mpr c15
  have H' := Aside0.mk H
  clear H
  have p280 : 0 ≤ (x20_2 : Int) := of_decide_eq_true tq_3
  have q280 : x20_2 < (((rd_T64 l0_2 x13_1).f5).length : Int) := of_decide_eq_true tq_3
  obtain ⟨ad280, e280, hx280_0, hx280_1⟩ := at_T67 HR278_5.out x20_2 p280 q280
  cases e280
  replace hx280_0 := hx_ HB.out hx280_0
  replace hx280_1 := hx_ HB.out hx280_1
  replace p280 := eq_true p280
  replace q280 := eq_true q280
  go_wp2_with (first | ((with_reducible refine gate_dst (N := 9) rfl ?_); refine box_event ?hg (N := 9) ?hd (cs := #[.int .i64 0, .string (⟨#[]⟩ : ByteArray)]) (t := 67) ?hr ?_; (case hd => rfl); (case hg => rfl); (case hr => first | (go_simp; done) | (go_simp; rfl)); intro gb281 hg w22 hbox hb; have z_ := p_ (blk_below tq_49 hb) <| p_ (blk_below tq_74 hb) <| p_ (below_step tq_39 hb) <| p_ (hbox) <| p_ (gb_ hg tq_39) <| p_ (gb_ hg tq_39) <| p_ (ltne_ hg (blk_lt tq_49)) <| p_ (gtne_ hg (blk_lt tq_49)) <| p_ (ltne_ hg (blk_lt tq_74)) <| a_ (gtne_ hg (blk_lt tq_74)); clear BK277 BK279 HB; obtain ⟨BK277, BK279, HB, BK281, GW281, GE281, NB277_281, NB281_277, NB279_281, NB281_279⟩ := z_; clear hb hbox hg; have hnb23 := NB281_277.out; have hnc23 := NB277_281.out; have hnb24 := NB281_279.out; have hnc24 := NB279_281.out; obtain ⟨hcz25_0, hcz25_1⟩ := bk2_ BK281.out; obtain ⟨hfz25_0, hfz25_1⟩ := bf2_ BK281.out; have hnb26 := NB279_277.out; have hnc26 := NB277_279.out; obtain ⟨hcz27_0, hcz27_1, hcz27_2, hcz27_3, hcz27_4, hcz27_5⟩ := bk6_ BK279.out; obtain ⟨hfz27_0, hfz27_1, hfz27_2, hfz27_3, hfz27_4, hfz27_5⟩ := bf6_ BK279.out))
  go_roundg k2
  case measure => have := HK1.out; have := HK2.out; omega
  case rel => exact ⟨(x5_2), (wrap64 (x20_2 + 1)), tq_4, tq_4, H', ⟨tq_129⟩, ⟨tq_83⟩, ⟨tq_82⟩, ⟨tq_115⟩⟩
 rw [if_pos c15] at H
 have c15b0 := beq_iff_eq.mpr c15
 have c15b1 := bne_eq_false_iff_eq.mpr c15
 clear c15
 have H' := Aside0.mk H
 clear H
 have p280 : 0 ≤ (x20_2 : Int) := of_decide_eq_true tq_3
 have q280 : x20_2 < (((rd_T64 l0_2 x13_1).f5).length : Int) := of_decide_eq_true tq_3
 obtain ⟨ad280, e280, hx280_0, hx280_1⟩ := at_T67 HR278_5.out x20_2 p280 q280
 cases e280
 replace hx280_0 := hx_ HB.out hx280_0
 replace hx280_1 := hx_ HB.out hx280_1
 replace p280 := eq_true p280
 replace q280 := eq_true q280
 go_wp2_with (first | ((with_reducible refine gate_dst (N := 9) rfl ?_); refine box_event ?hg (N := 9) ?hd (cs := #[.int .i64 0, .string (⟨#[]⟩ : ByteArray)]) (t := 67) ?hr ?_; (case hd => rfl); (case hg => rfl); (case hr => first | (go_simp; done) | (go_simp; rfl)); intro gb281 hg w16 hbox hb; have z_ := p_ (blk_below tq_49 hb) <| p_ (blk_below tq_74 hb) <| p_ (below_step tq_39 hb) <| p_ (hbox) <| p_ (gb_ hg tq_39) <| p_ (gb_ hg tq_39) <| p_ (ltne_ hg (blk_lt tq_49)) <| p_ (gtne_ hg (blk_lt tq_49)) <| p_ (ltne_ hg (blk_lt tq_74)) <| a_ (gtne_ hg (blk_lt tq_74)); clear BK277 BK279 HB; obtain ⟨BK277, BK279, HB, BK281, GW281, GE281, NB277_281, NB281_277, NB279_281, NB281_279⟩ := z_; clear hb hbox hg; have hnb17 := NB281_277.out; have hnc17 := NB277_281.out; have hnb18 := NB281_279.out; have hnc18 := NB279_281.out; obtain ⟨hcz19_0, hcz19_1⟩ := bk2_ BK281.out; obtain ⟨hfz19_0, hfz19_1⟩ := bf2_ BK281.out; have hnb20 := NB279_277.out; have hnc20 := NB277_279.out; obtain ⟨hcz21_0, hcz21_1, hcz21_2, hcz21_3, hcz21_4, hcz21_5⟩ := bk6_ BK279.out; obtain ⟨hfz21_0, hfz21_1, hfz21_2, hfz21_3, hfz21_4, hfz21_5⟩ := bf6_ BK279.out))
 go_roundg k2
 case measure => have := HK1.out; have := HK2.out; omega
 case rel => exact ⟨(wrap64 (x5_2 + 1)), (wrap64 (x20_2 + 1)), tq_4, tq_4, H', ⟨tq_129⟩, ⟨tq_83⟩, ⟨tq_82⟩, ⟨tq_115⟩⟩

/-! ### impl_PagesFor: function 61 -/
def impl_PagesFor.f (a0 : Int) : Option (Int) := if a0 < 0 then (some 0) else (if (Int.tmod a0 32) > 0 then (some (wrap64 ((wrap64 (Int.tdiv a0 32)) + 1))) else (some (wrap64 (Int.tdiv a0 32))))
set_option maxHeartbeats 8000000 in
set_option maxRecDepth 100000 in
theorem impl_PagesFor.calls (a0 : Int) (r : Int) (w : World) (h : impl_PagesFor.f a0 = some r) :
  Calls Try.prog 61 #[.int .i64 a0] w fun e w' => e = .returned (.int .i64 r) ∧ Drawn0 w w' := by
 have H : (if a0 < 0 then (some 0) else (if (Int.tmod a0 32) > 0 then (some (wrap64 ((wrap64 (Int.tdiv a0 32)) + 1))) else (some (wrap64 (Int.tdiv a0 32))))) = some r := h
 clear h
 by_cases c2 : a0 < 0
 ·rw [if_pos c2] at H
  have c2b0 := decide_eq_true c2
  clear c2
  obtain rfl := Option.some.inj H
  go_enter Try.func61, Try.ntmps61
  go_wp2
  go_ret
  exact ⟨tq_4, tq_27⟩
 rw [if_neg c2] at H
 have c2b0 := decide_eq_false c2
 clear c2
 by_cases c3 : (Int.tmod a0 32) > 0
 ·rw [if_pos c3] at H
  have c3b0 := decide_eq_true c3
  clear c3
  obtain rfl := Option.some.inj H
  go_enter Try.func61, Try.ntmps61
  go_wp2
  go_ret
  exact ⟨tq_4, tq_27⟩
 rw [if_neg c3] at H
 have c3b0 := decide_eq_false c3
 clear c3
 obtain rfl := Option.some.inj H
 go_enter Try.func61, Try.ntmps61
 go_wp2
 go_ret
 exact ⟨tq_4, tq_27⟩

/-! ### impl_NumText: function 134 -/
mutual
def impl_NumText.j0 : Nat → Int → Int → Bool → Option (ByteArray)
 | 0, _, _, _ => none
 | k + 1, x0, x1, x20 => if x20 = true then (some (⟨#[]⟩ : ByteArray)) else (if 0 ≤ x1 then (if (x1 : Int).toNat ≤ 281474976710656 then ((some (List.replicate (x1 : Int).toNat 0 : List Int)).bind fun y283 => (impl_NumText.l0 k x0 x1 y283 (y283.length : Int) 0)) else (none)) else (none))
def impl_NumText.l0 : Nat → Int → Int → List Int → Int → Int → Option (ByteArray)
 | 0, _, _, _, _, _ => none
 | k + 1, x0, x1, x5, x24, x25 => if x25 < x24 then (if 0 ≤ (wrap64 (8 * (wrap64 ((wrap64 (x1 - 1)) - x25)))) then (if 0 ≤ x25 then (if x25 < (x5.length : Int) then (impl_NumText.l0 k x0 x1 (x5.set (x25 : Int).toNat ((shr .i64 x0 (wrap64 (8 * (wrap64 ((wrap64 (x1 - 1)) - x25))))) % 256)) x24 (wrap64 (x25 + 1))) else (none)) else (none)) else (none)) else (some (strOfNums x5))
end
def impl_NumText.f (k : Nat) (a0 : Int) (a1 : Int) : Option (ByteArray) := if a0 < 0 then (impl_NumText.j0 k a0 a1 true) else ((impl_within.f a1 1 7).bind fun t282 => (if t282 = true then (if 0 ≤ (wrap64 (8 * a1)) then (impl_NumText.j0 k a0 a1 (decide (a0 ≥ (shl .i64 1 (wrap64 (8 * a1)))))) else (none)) else (impl_NumText.j0 k a0 a1 true)))
theorem impl_NumText.mono_l : ∀ k, (∀ y0 y1 y2, LeO (impl_NumText.j0 k y0 y1 y2) (impl_NumText.j0 (k + 1) y0 y1 y2)) ∧ (∀ y0 y1 y2 y3 y4, LeO (impl_NumText.l0 k y0 y1 y2 y3 y4) (impl_NumText.l0 (k + 1) y0 y1 y2 y3 y4))
 | 0 => ⟨fun _ _ _ r h => by simp [impl_NumText.j0] at h, fun _ _ _ _ _ r h => by simp [impl_NumText.l0] at h⟩
 | k + 1 => by
  obtain ⟨ih0, ih1⟩ := impl_NumText.mono_l k
  refine ⟨?_, ?_⟩
  ·intro y0 y1 y2
   unfold impl_NumText.j0
   exact mo_2
  ·intro y0 y1 y2 y3 y4
   unfold impl_NumText.l0
   exact mo_2
theorem impl_NumText.mono : ∀ a0 a1 k, LeO (impl_NumText.f k a0 a1) (impl_NumText.f (k + 1) a0 a1) := by
 intro a0 a1 k
 obtain ⟨ih0, ih1⟩ := impl_NumText.mono_l k
 unfold impl_NumText.f
 repeat' first
   | (with_reducible exact ih0 ..)
   | (with_reducible exact ih1 ..)
   | (with_reducible exact LeO.refl _)
   | (with_reducible exact LeO.none _)
   | (with_reducible refine LeO.ite ?_ ?_)
   | (with_reducible refine LeO.bind ?_ (fun _ => ?_))
   | exact ih0 ..
   | exact ih1 ..
   | exact LeO.none _
   | refine LeO.ite ?_ ?_
   | refine LeO.bind ?_ (fun _ => ?_)
set_option maxHeartbeats 8000000 in
set_option maxRecDepth 100000 in
theorem impl_NumText.calls (k : Nat) (a0 : Int) (a1 : Int) (r : ByteArray) (w : World) (h : impl_NumText.f k a0 a1 = some r) :
  Calls Try.prog 134 #[.int .i64 a0, .int .i64 a1] w fun e w' => e = .returned (.string r) ∧ Below w.heap.size w w' := by
 have HB := Aside0.mk (Below.refl w.heap.size w)
 have H : (if a0 < 0 then (impl_NumText.j0 k a0 a1 true) else ((impl_within.f a1 1 7).bind fun t282 => (if t282 = true then (if 0 ≤ (wrap64 (8 * a1)) then (impl_NumText.j0 k a0 a1 (decide (a0 ≥ (shl .i64 1 (wrap64 (8 * a1)))))) else (none)) else (impl_NumText.j0 k a0 a1 true)))) = some r := h
 clear h
 have HC3 := Aside0.mk H
 clear H
 go_enter Try.func134, Try.ntmps134
 go_upto_region 1 with (fail)
 go_cut [20] (fun v20 wc => ∃ (kq : Nat) (x20_2 : Bool), v20 = .bool x20_2 ∧ Aside0 (impl_NumText.j0 kq a0 a1 x20_2 = some r) ∧ Aside0 (kq ≤ k) ∧ Aside0 (Below w.heap.size w wc))
 case first =>
  have H := HC3.out
  clear HC3
  by_cases c4 : a0 < 0
  ·rw [if_pos c4] at H
   have c4b0 := decide_eq_true c4
   clear c4
   (first | rw [c4b0] | (simp only [i64_w, i32_w]; rw [c4b0]) | skip)
   have H' := Aside0.mk H
   clear H
   go_wp2
   go_meet
   case rel => exact ⟨_, (true), tq_4, H', ⟨tq_59⟩, ⟨tq_0⟩⟩
  rw [if_neg c4] at H
  have c4b0 := decide_eq_false c4
  clear c4
  (first | rw [c4b0] | (simp only [i64_w, i32_w]; rw [c4b0]) | skip)
  replace H := Option.bind_eq_some_iff.mp H
  obtain ⟨t282, A50, H⟩ := H
  replace H : (if t282 = true then (if 0 ≤ (wrap64 (8 * a1)) then (impl_NumText.j0 k a0 a1 (decide (a0 ≥ (shl .i64 1 (wrap64 (8 * a1)))))) else (none)) else (impl_NumText.j0 k a0 a1 true)) = some r := H
  have A5 := Aside0.mk A50
  clear A50
  by_cases c6 : t282 = true
  rotate_left
  ·replace c6 := Bool.eq_false_iff.mpr c6
   subst c6
   have H1 : (impl_NumText.j0 k a0 a1 true) = some r := by rw [if_neg (show ¬ (false = true) by decide)] at H; exact H
   clear H
   have H := H1
   clear H1
   have H' := Aside0.mk H
   clear H
   go_wp2_with (first | (go_at_call 40; (with_reducible refine (impl_within.calls a1 1 7 false _ A5.out).mono ?_); rintro e w' ⟨rfl, ⟨nd, rfl⟩⟩))
   go_meet
   case rel => exact ⟨_, (true), tq_4, H', ⟨tq_59⟩, ⟨tq_0⟩⟩
  subst c6
  have H1 : (if 0 ≤ (wrap64 (8 * a1)) then (impl_NumText.j0 k a0 a1 (decide (a0 ≥ (shl .i64 1 (wrap64 (8 * a1)))))) else (none)) = some r := by rw [if_pos rfl] at H; exact H
  clear H
  have H := H1
  clear H1
  obtain ⟨ji7, hji7⟩ : ∃ j_ : Int, (wrap64 (8 * a1)) = j_ := ⟨_, rfl⟩
  replace H : (if 0 ≤ (ji7) then (impl_NumText.j0 k a0 a1 (decide (a0 ≥ (shl .i64 1 (ji7))))) else (none)) = some r := by first | (rw [hji7] at H; exact H) | (simp only [hji7] at H ⊢; exact H)
  (try rw [hji7] at A5)
  have hji7w : (IntKind.i64.wrap (8 * a1)) = ji7 := (i64_w _).trans hji7
  by_cases c8 : 0 ≤ (ji7)
  rotate_left
  ·rw [if_neg c8] at H
   exact absurd H (by simp)
  rw [if_pos c8] at H
  have c8b0 := eq_true c8
  have c8b1 := decide_eq_true c8
  clear c8
  obtain ⟨ji9, hji9⟩ : ∃ j_ : Int, (shl .i64 1 (ji7)) = j_ := ⟨_, rfl⟩
  replace H : (impl_NumText.j0 k a0 a1 (decide (a0 ≥ (ji9)))) = some r := by first | (rw [hji9] at H; exact H) | (simp only [hji9] at H ⊢; exact H)
  (try rw [hji9] at A5)
  have hji9_ : (IntKind.i64.wrap (1 * 2 ^ min (ji7).toNat 64)) = ji9 := hji9
  have hji9z : (ji7) ≤ 64 → (IntKind.i64.wrap (1 * 2 ^ (ji7).toNat)) = ji9 := shl_small hji9
  have hji9u : (IntKind.i64.wrap (2 ^ min (ji7).toNat 64)) = ji9 := by have h_ := hji9_; rw [Int.one_mul] at h_; exact h_
  have hji9v : (ji7) ≤ 64 → (IntKind.i64.wrap (2 ^ (ji7).toNat)) = ji9 := fun hle_ => by have h_ := hji9z hle_; rw [Int.one_mul] at h_; exact h_
  have hji9y : (wrap64 (1 * 2 ^ min (ji7).toNat 64)) = ji9 := (i64_w _).symm.trans hji9_
  have hji9x : (ji7) ≤ 64 → (wrap64 (1 * 2 ^ (ji7).toNat)) = ji9 := fun h_ => (i64_w _).symm.trans (hji9z h_)
  have H' := Aside0.mk H
  clear H
  go_wp2_with (first | (go_at_call 40; (with_reducible refine (impl_within.calls a1 1 7 true _ A5.out).mono ?_); rintro e w' ⟨rfl, ⟨nd, rfl⟩⟩))
  go_meet
  case rel => exact ⟨_, (decide (a0 ≥ (ji9))), (by first | rfl | (simp; done) | (simp only [← hji9] <;> (first | rfl | simp)) | (simp [*]; done)), H', ⟨tq_59⟩, ⟨tq_0⟩⟩
 case rest =>
 clear HC3
 try clear c1; try clear p2; try clear c4; try clear c4b0; try clear c6; try clear p6; try clear c8; try clear c8b0; try clear c8b1
 obtain ⟨kq, x20_2, rfl, HA, HJ2, HB⟩ := hcut
 cases kq with
 | zero => exact absurd HA.out (by simp [impl_NumText.j0])
 | succ kj2 =>
 have H := HA.out
 clear HA
 simp only [impl_NumText.j0] at H
 by_cases c10 : x20_2 = true
 ·subst c10
  have H1 : (some (⟨#[]⟩ : ByteArray)) = some r := by rw [if_pos rfl] at H; exact H
  clear H
  have H := H1
  clear H1
  obtain rfl := Option.some.inj H
  go_wp2
  go_ret
  exact ⟨tq_2, tq_0⟩
 replace c10 := Bool.eq_false_iff.mpr c10
 subst c10
 have H1 : (if 0 ≤ a1 then (if (a1 : Int).toNat ≤ 281474976710656 then ((some (List.replicate (a1 : Int).toNat 0 : List Int)).bind fun y283 => (impl_NumText.l0 kj2 a0 a1 y283 (y283.length : Int) 0)) else (none)) else (none)) = some r := by rw [if_neg (show ¬ (false = true) by decide)] at H; exact H
 clear H
 have H := H1
 clear H1
 by_cases c11 : 0 ≤ a1
 rotate_left
 ·rw [if_neg c11] at H
  exact absurd H (by simp)
 rw [if_pos c11] at H
 have c11b0 := eq_true c11
 have c11b1 := decide_eq_true c11
 clear c11
 by_cases c12 : (a1 : Int).toNat ≤ 281474976710656
 rotate_left
 ·rw [if_neg c12] at H
  exact absurd H (by simp)
 rw [if_pos c12] at H
 have c12b0 := eq_true c12
 have c12b1 := decide_eq_true c12
 clear c12
 obtain ⟨y283, hy283⟩ : ∃ y_ : List Int, y_ = (List.replicate (a1 : Int).toNat 0) := ⟨_, rfl⟩
 replace H : (impl_NumText.l0 kj2 a0 a1 y283 (y283.length : Int) 0) = some r := by first | (rw [hy283]; with_reducible exact H) | (have H2_ := (Option.bind_some _ _).symm.trans H; rw [hy283]; with_reducible exact H2_) | (have H2_ := (Option.bind_some _ _).symm.trans H; with_reducible exact H2_) | with_reducible exact H | (rw [hy283]; exact H) | exact H
 have Ny283 := Aside0.mk hy283
 clear hy283
 have H' := Aside0.mk H
 clear H
 go_wp2_with (first | ((with_reducible refine gate_dst (N := 22) rfl ?_); refine Kd.R_make (Kd.int .u8) _ 5 rfl (N := 22) rfl 38 _ _ rfl a1 rfl rfl Try.underlying38 (.int .u8 0) 1 info5 rfl (by decide) (by omega) 0 (ok := fun _ => True) (okp := fun _ => True) rfl (fun _ hk => hk) trivial (of_decide_eq_true tq_3) (Nat.le_trans (Nat.mul_le_mul_right _ (of_decide_eq_true tq_3 : a1.toNat ≤ 281474976710656)) (by omega)) (Below.refl _ _) (Nat.le_refl _) ?_; intro v284 w13 ho14 hb hg_ hnew_; clear hg_ hnew_; (first | rw [← Ny283.out] at ho14 | (simp only [Int.reduceToNat] at ho14; rw [← Ny283.out] at ho14)); have z_ := p_ (Kd.R_lower ho14 (below_size tq_0)) <| a_ (below_step tq_0 hb); clear HB; obtain ⟨HO285, HB⟩ := z_; clear hb ho14; obtain ⟨Ao15, co15, eo15⟩ := Kd.R_slice HO285.out; subst eo15))
 go_loopg [25] kj2 (fun kq v25 w' => ∃ (x5_2 : List Int) (x25_2 : Int), v25 = .int .i64 x25_2 ∧ Aside0 (impl_NumText.l0 kq a0 a1 x5_2 (y283.length : Int) x25_2 = some r) ∧ Aside0 (kq ≤ kj2) ∧ Aside0 (Kd.R (Kd.int .u8) 5 w' w.heap.size (fun _ => True) (.slice Ao15 y283.length co15) x5_2) ∧ Aside0 (Below w.heap.size w w'))
 case atStart => exact ⟨(y283), (0), tq_4, H', ⟨Nat.le_refl _⟩, ⟨(by (with_reducible repeat (first | apply Kd.R_alloc | apply Kd.R_drewN | apply Kd.R_drew)); exact HO285.out)⟩, ⟨tq_0⟩⟩
 case round =>
 clear H'
 try clear c1; try clear p2; try clear c4; try clear c4b0; try clear c6; try clear p6; try clear c8; try clear c8b0; try clear c8b1; try clear c10; try clear c11; try clear c11b0; try clear c11b1; try clear c12; try clear c12b0; try clear c12b1; try clear c13; try clear p2; try clear p6
 obtain ⟨x5_2, x25_2, rfl, HA, HK2, HO_5, HB⟩ := hrel
 have hl5_2 := (Kd.R_reads' HO_5.out).1
 rw [hl5_2] at HO_5
 (try simp only [hl5_2])
 cases gk with
 | zero => exact absurd HA.out (by simp [impl_NumText.l0])
 | succ k2 =>
 have H := HA.out
 clear HA
 simp only [impl_NumText.l0] at H
 by_cases c16 : x25_2 < (y283.length : Int)
 rotate_left
 ·rw [if_neg c16] at H
  have c16b0 := decide_eq_false c16
  (try simp only [hl5_2] at c16b0)
  clear c16
  obtain rfl := Option.some.inj H
  have hcv25 := own_string (P := Try.prog) Try.underlying38 Try.underlying5 Try.underlying9 (Kd.own_of_R HO_5.out)
  go_wp2
  go_ret
  exact ⟨tq_2, tq_0⟩
 rw [if_pos c16] at H
 have c16b0 := decide_eq_true c16
 (try simp only [hl5_2] at c16b0)
 clear c16
 obtain ⟨ji17, hji17⟩ : ∃ j_ : Int, (wrap64 (8 * (wrap64 ((wrap64 (a1 - 1)) - x25_2)))) = j_ := ⟨_, rfl⟩
 replace H : (if 0 ≤ (ji17) then (if 0 ≤ x25_2 then (if x25_2 < (x5_2.length : Int) then (impl_NumText.l0 k2 a0 a1 (x5_2.set (x25_2 : Int).toNat ((shr .i64 a0 (ji17)) % 256)) (y283.length : Int) (wrap64 (x25_2 + 1))) else (none)) else (none)) else (none)) = some r := by first | (rw [hji17] at H; exact H) | (simp only [hji17] at H ⊢; exact H)
 have hji17w : (IntKind.i64.wrap (8 * (wrap64 ((wrap64 (a1 - 1)) - x25_2)))) = ji17 := (i64_w _).trans hji17
 by_cases c18 : 0 ≤ (ji17)
 rotate_left
 ·rw [if_neg c18] at H
  exact absurd H (by simp)
 rw [if_pos c18] at H
 have c18b0 := eq_true c18
 have c18b1 := decide_eq_true c18
 clear c18
 obtain ⟨ji19, hji19⟩ : ∃ j_ : Int, (shr .i64 a0 (ji17)) = j_ := ⟨_, rfl⟩
 replace H : (if 0 ≤ x25_2 then (if x25_2 < (x5_2.length : Int) then (impl_NumText.l0 k2 a0 a1 (x5_2.set (x25_2 : Int).toNat ((ji19) % 256)) (y283.length : Int) (wrap64 (x25_2 + 1))) else (none)) else (none)) = some r := by first | (rw [hji19] at H; exact H) | (simp only [hji19] at H ⊢; exact H)
 have hji19_ : (a0 / 2 ^ min (ji17).toNat 64) = ji19 := hji19
 have hji19z : (ji17) ≤ 64 → (a0 / 2 ^ (ji17).toNat) = ji19 := shr_small hji19
 by_cases c20 : 0 ≤ x25_2
 rotate_left
 ·rw [if_neg c20] at H
  exact absurd H (by simp)
 rw [if_pos c20] at H
 have c20b0 := decide_eq_true c20
 clear c20
 by_cases c21 : x25_2 < (x5_2.length : Int)
 rotate_left
 ·rw [if_neg c21] at H
  exact absurd H (by simp)
 rw [if_pos c21] at H
 have c21b0 := decide_eq_true c21
 clear c21
 obtain ⟨y286, hy286⟩ : ∃ y_ : List Int, y_ = (x5_2.set (x25_2 : Int).toNat ((ji19) % 256)) := ⟨_, rfl⟩
 replace H : (impl_NumText.l0 k2 a0 a1 y286 (y283.length : Int) (wrap64 (x25_2 + 1))) = some r := by first | (rw [hy286]; with_reducible exact H) | (have H2_ := (Option.bind_some _ _).symm.trans H; rw [hy286]; with_reducible exact H2_) | (have H2_ := (Option.bind_some _ _).symm.trans H; with_reducible exact H2_) | with_reducible exact H | (rw [hy286]; exact H) | exact H
 have Ny286 := Aside0.mk hy286
 clear hy286
 have H' := Aside0.mk H
 clear H
 have p22 : 0 ≤ (x25_2 : Int) := of_decide_eq_true tq_3
 have q22 : (x25_2 : Int) < ((x5_2.length : Int) : Int) := of_decide_eq_true tq_3
 obtain ⟨go22, co22, eo22, gb22, gl22, cl22, HG22⟩ := Kd.R_form HO_5.out (by omega)
 (first | cases eo22 | (injection eo22 with ea_ en_ ec_; (first | subst ea_ | (injection ea_ with ea_; subst ea_)); subst ec_; clear en_))
 have GB22 := Aside0.mk gb22
 have GG22 := Aside0.mk HG22
 clear gb22 gl22 HG22
 obtain ⟨hx22_0, hf22_0⟩ := Kd.R_celln 0 HO_5.out (x25_2 : Int) p22 q22
 replace p22 := eq_true p22
 replace q22 := eq_true q22
 have HP23 := Kd.R_putg HO_5.out (x25_2 : Int) ((ji19) % 256)
 go_wp2_with (first | ((with_reducible refine gate_store (t := 5) (p := 38) rfl ?_); refine store_event (t := 5) (p := 38) (v := ?vo_w24) (w1 := (wr.setCell ⟨go22, (x25_2 : Int).toNat, none⟩ (.int .u8 ((ji19) % 256)))) ?hg ?ho ?hn ?hr ?_; (case ho => rfl); (case hg => rfl); (case hn => rfl); (case hr => first | (go_simp; done) | (go_simp; rfl)); intro w24 hw; have hg : wr.grownBy w24 (some go22) := (by rw [hw]; exact HP23.2); have hp_ : Kd.R (Kd.int .u8) 5 w24 w.heap.size (fun _ => True) (.slice (some ⟨go22, 0, none⟩) x5_2.length co15) y286 := (by rw [hw, Ny286.out]; exact HP23.1); clear HP23; have z_ := p_ (hp_) <| a_ ((by rw [hw]; exact below_set (HB.out) GB22.out : Below w.heap.size w w24)); clear HO_5 HB; obtain ⟨HO_5, HB⟩ := z_; clear hg hw hp_))
 (try simp only [← hl5_2])
 go_roundg k2
 case measure => have := HJ2.out; have := HK2.out; omega
 case rel => exact ⟨(y286), (wrap64 (x25_2 + 1)), tq_4, H', ⟨(by have := HJ2.out; have := HK2.out; omega)⟩, ⟨(by (try simp only [hl5_2]); (with_reducible repeat (first | apply Kd.R_alloc | apply Kd.R_drewN | apply Kd.R_drew)); exact HO_5.out)⟩, ⟨tq_0⟩⟩

end Go.Proofs.Ytljnnmpfeningaa.PFnExactPartOk
