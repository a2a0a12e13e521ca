/- Contracts of Go functions, written by a program of ours over the print of the kit: each says that the call returns what the Lean function beside it computes. Conditions: as each theorem states them. -/
import Derived.Test.YtcdnfkoahajhhaaPkFnStates
import Derived.Test.YtcdnfkoahajhhaaPFnStatesx0
import Derived.Test.YtcdnfkoahajhhaaPFnStatesx2
import Derived.Test.YtcdnfkoahajhhaaPFnStatesx3
namespace Go.Proofs.Ytcdnfkoahajhhaa.PFnStates
open Go.RowKit Go.Proofs.YtcdnfkoahajhhaaW.PrintWords Go.Proofs.YtcdnfkoahajhhaaW.PrintLast Go.Proofs.YtcdnfkoahajhhaaW.PrintMore
attribute [local go_sem] max2_int min2_int max_two min_two max_three min_three max_four min_four   -- for this text's walks alone
set_option linter.unusedVariables false
set_option linter.unusedSimpArgs false

/-! ### impl_ReadStates: function 63 -/
mutual
def impl_ReadStates.j0 : Nat → List ByteArray → Int → Bool → Option (List Int × Bool)
 | 0, _, _, _ => none
 | k + 1, x0, x1, x30 => if x30 = true then (some (([] : List Int), false)) else (if 0 < (x0.length : Int) then (if 1 < (x0.length : Int) then (if (rdOf ByteArray.empty x0 0).size + (rdOf ByteArray.empty x0 1).size ≤ 9223372036854775807 then ((some ((rdOf ByteArray.empty x0 0) ++ (rdOf ByteArray.empty x0 1) : ByteArray)).bind fun y250 => (impl_ReadStates.l0 k x0 y250 (([] : List Int)) x1 0)) else (none)) else (none)) else (none))
def impl_ReadStates.l0 : Nat → List ByteArray → ByteArray → List Int → Int → Int → Option (List Int × Bool)
 | 0, _, _, _, _, _ => none
 | k + 1, x0, x6, x7, x39, x40 => if x40 < x39 then (if 0 ≤ x40 then (if x40 < (x6.size : Int) then (if x7.length < 17592186044416 then (impl_ReadStates.l0 k x0 x6 (x7 ++ [wrap64 (bt x6 x40)]) x39 (wrap64 (x40 + 1))) else (none)) else (none)) else (none)) else ((impl_StatesWords.f k x7).bind fun t257 => ((slices_Equal_string.f k t257 x0).bind fun t260 => (if t260 = true then (some (x7, true)) else (some (([] : List Int), false)))))
end
def impl_ReadStates.f (k : Nat) (l0 : List ByteArray) (a1 : Int) : Option (List Int × Bool) := if (l0.length : Int) = 2 then (if 0 < (l0.length : Int) then (if ((rdOf ByteArray.empty l0 0).size : Int) = 8 then (if 1 < (l0.length : Int) then (if ((rdOf ByteArray.empty l0 1).size : Int) = 8 then ((impl_within.f a1 1 12).bind fun t247 => (impl_ReadStates.j0 k l0 a1 (!t247))) else (impl_ReadStates.j0 k l0 a1 true)) else (none)) else (impl_ReadStates.j0 k l0 a1 true)) else (none)) else (impl_ReadStates.j0 k l0 a1 true)
theorem impl_ReadStates.mono_l : ∀ k, (∀ y0 y1 y2, LeO (impl_ReadStates.j0 k y0 y1 y2) (impl_ReadStates.j0 (k + 1) y0 y1 y2)) ∧ (∀ y0 y1 y2 y3 y4, LeO (impl_ReadStates.l0 k y0 y1 y2 y3 y4) (impl_ReadStates.l0 (k + 1) y0 y1 y2 y3 y4))
 | 0 => ⟨fun _ _ _ r h => by simp [impl_ReadStates.j0] at h, fun _ _ _ _ _ r h => by simp [impl_ReadStates.l0] at h⟩
 | k + 1 => by
  obtain ⟨ih0, ih1⟩ := impl_ReadStates.mono_l k
  refine ⟨?_, ?_⟩
  ·intro y0 y1 y2
   unfold impl_ReadStates.j0
   repeat' first
   | (with_reducible exact ih0 ..)
   | (with_reducible exact ih1 ..)
   | (with_reducible exact impl_StatesWords.mono ..)
   | (with_reducible exact slices_Equal_string.mono ..)
   | (with_reducible exact LeO.refl _)
   | (with_reducible exact LeO.none _)
   | (with_reducible refine LeO.ite ?_ ?_)
   | (with_reducible refine LeO.bind ?_ (fun _ => ?_))
   | exact ih0 ..
   | exact ih1 ..
   | exact impl_StatesWords.mono ..
   | exact slices_Equal_string.mono ..
   | exact LeO.none _
   | refine LeO.ite ?_ ?_
   | refine LeO.bind ?_ (fun _ => ?_)
  ·intro y0 y1 y2 y3 y4
   unfold impl_ReadStates.l0
   repeat' first
   | (with_reducible exact ih0 ..)
   | (with_reducible exact ih1 ..)
   | (with_reducible exact impl_StatesWords.mono ..)
   | (with_reducible exact slices_Equal_string.mono ..)
   | (with_reducible exact LeO.refl _)
   | (with_reducible exact LeO.none _)
   | (with_reducible refine LeO.ite ?_ ?_)
   | (with_reducible refine LeO.bind ?_ (fun _ => ?_))
   | exact ih0 ..
   | exact ih1 ..
   | exact impl_StatesWords.mono ..
   | exact slices_Equal_string.mono ..
   | exact LeO.none _
   | refine LeO.ite ?_ ?_
   | refine LeO.bind ?_ (fun _ => ?_)
theorem impl_ReadStates.mono : ∀ a0 a1 k, LeO (impl_ReadStates.f k a0 a1) (impl_ReadStates.f (k + 1) a0 a1) := by
 intro a0 a1 k
 obtain ⟨ih0, ih1⟩ := impl_ReadStates.mono_l k
 unfold impl_ReadStates.f
 repeat' first
   | (with_reducible exact ih0 ..)
   | (with_reducible exact ih1 ..)
   | (with_reducible exact impl_StatesWords.mono ..)
   | (with_reducible exact slices_Equal_string.mono ..)
   | (with_reducible exact LeO.refl _)
   | (with_reducible exact LeO.none _)
   | (with_reducible refine LeO.ite ?_ ?_)
   | (with_reducible refine LeO.bind ?_ (fun _ => ?_))
   | exact ih0 ..
   | exact ih1 ..
   | exact impl_StatesWords.mono ..
   | exact slices_Equal_string.mono ..
   | exact LeO.none _
   | refine LeO.ite ?_ ?_
   | refine LeO.bind ?_ (fun _ => ?_)
set_option maxHeartbeats 8000000 in
set_option maxRecDepth 100000 in
theorem impl_ReadStates.calls (k : Nat) (A0 : Option Addr) (c0 : Nat) (l0 : List ByteArray) (a1 : Int) (r1 : List Int) (r2 : Bool) (w : World) (hr0 : Kd.C Kd.string w A0 l0.length l0) (hc0 : l0.length ≤ c0) (h : impl_ReadStates.f k l0 a1 = some (r1, r2)) :
  Calls Try.prog 63 #[.slice A0 l0.length c0, .int .i64 a1] w fun e w' => ∃ v0_ : Value, e = .returned (.tuple #[v0_, .bool r2]) ∧ Kd.R (Kd.int .i64) 3 w' w.heap.size (fun _ => True) v0_ r1 ∧ Below w.heap.size w w' := by
 have HR0 := Aside0.mk hr0
 have HC0 := Aside0.mk hc0
 clear hr0 hc0
 have HB := Aside0.mk (Below.refl w.heap.size w)
 have H : (if (l0.length : Int) = 2 then (if 0 < (l0.length : Int) then (if ((rdOf ByteArray.empty l0 0).size : Int) = 8 then (if 1 < (l0.length : Int) then (if ((rdOf ByteArray.empty l0 1).size : Int) = 8 then ((impl_within.f a1 1 12).bind fun t247 => (impl_ReadStates.j0 k l0 a1 (!t247))) else (impl_ReadStates.j0 k l0 a1 true)) else (none)) else (impl_ReadStates.j0 k l0 a1 true)) else (none)) else (impl_ReadStates.j0 k l0 a1 true)) = some (r1, r2) := h
 clear h
 have HC3 := Aside0.mk H
 clear H
 go_enter Try.func63, Try.ntmps63
 go_upto_region 1 with (fail)
 repeat (go_quiet (fail); go_upto_region 1 with (fail))
 go_cut [30] (fun v30 wc => ∃ (kq : Nat) (x30_2 : Bool), v30 = .bool x30_2 ∧ Aside0 (impl_ReadStates.j0 kq l0 a1 x30_2 = some (r1, r2)) ∧ Aside0 (kq ≤ k) ∧ Aside0 (Below w.heap.size w wc))
 case first =>
  have H := HC3.out
  clear HC3
  by_cases c4 : (l0.length : Int) = 2
  ·rw [if_pos c4] at H
   have c4b0 : ((l0.length : Int) == 2) = true := beq_iff_eq.mpr c4
   have c4b1 : ((l0.length : Int) != 2) = false := bne_eq_false_iff_eq.mpr c4
   clear c4
   (first | rw [c4b0] | (simp only [i64_w, i32_w]; rw [c4b0]) | skip)
   by_cases c5 : 0 < (l0.length : Int)
   ·rw [if_pos c5] at H
    have c5b0 : decide (0 < (l0.length : Int)) = true := decide_eq_true c5
    have c5b1 : decide (0 < l0.length) = true := decide_eq_true (by omega)
    clear c5
    by_cases c6 : ((rdOf ByteArray.empty l0 0).size : Int) = 8
    ·rw [if_pos c6] at H
     have c6b0 : (((rdOf ByteArray.empty l0 0).size : Int) == 8) = true := beq_iff_eq.mpr c6
     have c6b1 : (((rdOf ByteArray.empty l0 0).size : Int) != 8) = false := bne_eq_false_iff_eq.mpr c6
     clear c6
     by_cases c7 : 1 < (l0.length : Int)
     ·rw [if_pos c7] at H
      have c7b0 : decide (1 < (l0.length : Int)) = true := decide_eq_true c7
      have c7b1 : decide (1 < l0.length) = true := decide_eq_true (by omega)
      clear c7
      by_cases c8 : ((rdOf ByteArray.empty l0 1).size : Int) = 8
      ·rw [if_pos c8] at H
       have c8b0 : (((rdOf ByteArray.empty l0 1).size : Int) == 8) = true := beq_iff_eq.mpr c8
       have c8b1 : (((rdOf ByteArray.empty l0 1).size : Int) != 8) = false := bne_eq_false_iff_eq.mpr c8
       clear c8
       replace H := Option.bind_eq_some_iff.mp H
       obtain ⟨t247, A90, H⟩ := H
       replace H : (impl_ReadStates.j0 k l0 a1 (!t247)) = some (r1, r2) := H
       have A9 := Aside0.mk A90
       clear A90
       have H' := Aside0.mk H
       clear H
       have p245 : 0 ≤ (0 : Int) := (by omega)
       have q245 : 0 < (l0.length : Int) := of_decide_eq_true tq_14
       obtain ⟨ad245, e245, hx245_0⟩ := Kd.at_string HR0.out 0 p245 q245
       cases e245
       have qi245 : (0 < l0.length) = True := eq_true (by omega)
       (try rw [show ((0 : Int)).toNat = 0 from rfl] at hx245_0)
       (try rw [Addr.add_zero'] at hx245_0)
       replace hx245_0 := hx_ HB.out hx245_0
       replace p245 := eq_true p245
       replace q245 := eq_true q245
       have p246 : 0 ≤ (1 : Int) := (by omega)
       have q246 : 1 < (l0.length : Int) := of_decide_eq_true tq_14
       obtain ⟨ad246, e246, hx246_0⟩ := Kd.at_string HR0.out 1 p246 q246
       obtain rfl : ad245 = ad246 := (by injection e246)
       (try simp only [show (1 : Int).toNat = 1 from rfl, Nat.reduceMul, Nat.reduceEqDiff, Go.Addr.add, ↓reduceIte] at hx246_0)
       have qi246 : (1 < l0.length) = True := eq_true (by omega)
       (try rw [show ((1 : Int)).toNat = 1 from rfl] at hx246_0)
       replace hx246_0 := hx_ HB.out hx246_0
       replace p246 := eq_true p246
       replace q246 := eq_true q246
       go_wp2_with (first | (go_at_call 140; (with_reducible refine (impl_within.calls a1 1 12 t247 _ A9.out).mono ?_); rintro e w' ⟨rfl, ⟨nd, rfl⟩⟩; (try first | exact ⟨rfl, _, World.drewN_drewN _ _ _⟩ | exact ⟨rfl, _, Eq.trans (World.drewN_drewN _ _ _) (congrArg (World.drewN _) (Nat.add_assoc _ _ _))⟩)))
       repeat (go_quiet (first | (go_at_call 140; (with_reducible refine (impl_within.calls a1 1 12 t247 _ A9.out).mono ?_); rintro e w' ⟨rfl, ⟨nd, rfl⟩⟩; (try first | exact ⟨rfl, _, World.drewN_drewN _ _ _⟩ | exact ⟨rfl, _, Eq.trans (World.drewN_drewN _ _ _) (congrArg (World.drewN _) (Nat.add_assoc _ _ _))⟩))); try go_wp2_with (first | (go_at_call 140; (with_reducible refine (impl_within.calls a1 1 12 t247 _ A9.out).mono ?_); rintro e w' ⟨rfl, ⟨nd, rfl⟩⟩; (try first | exact ⟨rfl, _, World.drewN_drewN _ _ _⟩ | exact ⟨rfl, _, Eq.trans (World.drewN_drewN _ _ _) (congrArg (World.drewN _) (Nat.add_assoc _ _ _))⟩))))
       go_meet
       case rel => exact ⟨_, (!t247), tq_16, H', ⟨tq_43⟩, ⟨tq_0⟩⟩
      ·rw [if_neg c8] at H
       have c8b0 : (((rdOf ByteArray.empty l0 1).size : Int) == 8) = false := beq_eq_false_iff_ne.mpr c8
       have c8b1 : (((rdOf ByteArray.empty l0 1).size : Int) != 8) = true := bne_iff_ne.mpr c8
       have H' := Aside0.mk H
       clear H
       have p245 : 0 ≤ (0 : Int) := (by omega)
       have q245 : 0 < (l0.length : Int) := of_decide_eq_true tq_14
       obtain ⟨ad245, e245, hx245_0⟩ := Kd.at_string HR0.out 0 p245 q245
       cases e245
       have qi245 : (0 < l0.length) = True := eq_true (by omega)
       (try rw [show ((0 : Int)).toNat = 0 from rfl] at hx245_0)
       (try rw [Addr.add_zero'] at hx245_0)
       replace hx245_0 := hx_ HB.out hx245_0
       replace p245 := eq_true p245
       replace q245 := eq_true q245
       have p246 : 0 ≤ (1 : Int) := (by omega)
       have q246 : 1 < (l0.length : Int) := of_decide_eq_true tq_14
       obtain ⟨ad246, e246, hx246_0⟩ := Kd.at_string HR0.out 1 p246 q246
       obtain rfl : ad245 = ad246 := (by injection e246)
       (try simp only [show (1 : Int).toNat = 1 from rfl, Nat.reduceMul, Nat.reduceEqDiff, Go.Addr.add, ↓reduceIte] at hx246_0)
       have qi246 : (1 < l0.length) = True := eq_true (by omega)
       (try rw [show ((1 : Int)).toNat = 1 from rfl] at hx246_0)
       replace hx246_0 := hx_ HB.out hx246_0
       replace p246 := eq_true p246
       replace q246 := eq_true q246
       go_wp2
       repeat (go_quiet (fail); try go_wp2)
       go_meet
       case rel => exact ⟨_, (true), tq_16, H', ⟨tq_43⟩, ⟨tq_0⟩⟩
     ·rw [if_neg c7] at H
      exact absurd H (by simp)
    ·rw [if_neg c6] at H
     have c6b0 : (((rdOf ByteArray.empty l0 0).size : Int) == 8) = false := beq_eq_false_iff_ne.mpr c6
     have c6b1 : (((rdOf ByteArray.empty l0 0).size : Int) != 8) = true := bne_iff_ne.mpr c6
     have H' := Aside0.mk H
     clear H
     have p245 : 0 ≤ (0 : Int) := (by omega)
     have q245 : 0 < (l0.length : Int) := of_decide_eq_true tq_14
     obtain ⟨ad245, e245, hx245_0⟩ := Kd.at_string HR0.out 0 p245 q245
     cases e245
     have qi245 : (0 < l0.length) = True := eq_true (by omega)
     (try rw [show ((0 : Int)).toNat = 0 from rfl] at hx245_0)
     (try rw [Addr.add_zero'] at hx245_0)
     replace hx245_0 := hx_ HB.out hx245_0
     replace p245 := eq_true p245
     replace q245 := eq_true q245
     go_wp2
     repeat (go_quiet (fail); try go_wp2)
     go_meet
     case rel => exact ⟨_, (true), tq_16, H', ⟨tq_43⟩, ⟨tq_0⟩⟩
   ·rw [if_neg c5] at H
    exact absurd H (by simp)
  ·rw [if_neg c4] at H
   have c4b0 : ((l0.length : Int) == 2) = false := beq_eq_false_iff_ne.mpr c4
   have c4b1 : ((l0.length : Int) != 2) = true := bne_iff_ne.mpr c4
   (first | rw [c4b0] | (simp only [i64_w, i32_w]; rw [c4b0]) | skip)
   have H' := Aside0.mk H
   clear H
   go_wp2
   repeat (go_quiet (fail); try go_wp2)
   go_meet
   case rel => exact ⟨_, (true), tq_16, H', ⟨tq_43⟩, ⟨tq_0⟩⟩
 case rest =>
  clear HC3
  try clear p2
  try clear q2
  try clear hx2
  try clear qi2
  try clear c4
  try clear c4b0
  try clear c4b1
  try clear c5
  try clear c5b0
  try clear c5b1
  try clear c6
  try clear c6b0
  try clear c6b1
  try clear c7
  try clear c7b0
  try clear c7b1
  try clear c8
  try clear c8b0
  try clear c8b1
  try clear hx245_0
  try clear hx246_0
  try clear p245
  try clear p246
  try clear q245
  try clear q246
  obtain ⟨kq, x30_2, rfl, HA, HJ2, HB⟩ := hcut
  cases kq with
  | zero => exact absurd HA.out (by simp [impl_ReadStates.j0])
  | succ kj2 =>
   have H := HA.out
   clear HA
   simp only [impl_ReadStates.j0] at H
   by_cases c10 : x30_2 = true
   ·subst c10
    have H1 : (some (([] : List Int), false)) = some (r1, r2) := by rw [if_pos rfl] at H; exact H
    clear H
    have H := H1
    clear H1
    simp only [Option.some.injEq, Prod.mk.injEq] at H
    obtain ⟨rfl, rfl⟩ := H
    go_wp2
    repeat (go_quiet (fail); try go_wp2)
    go_ret2
    exact ⟨_, tq_13, tq_34, tq_0⟩
   ·replace c10 := Bool.eq_false_iff.mpr c10
    subst c10
    have H1 : (if 0 < (l0.length : Int) then (if 1 < (l0.length : Int) then (if (rdOf ByteArray.empty l0 0).size + (rdOf ByteArray.empty l0 1).size ≤ 9223372036854775807 then ((some ((rdOf ByteArray.empty l0 0) ++ (rdOf ByteArray.empty l0 1) : ByteArray)).bind fun y250 => (impl_ReadStates.l0 kj2 l0 y250 (([] : List Int)) a1 0)) else (none)) else (none)) else (none)) = some (r1, r2) := by rw [if_neg (show ¬ (false = true) by decide)] at H; exact H
    clear H
    have H := H1
    clear H1
    by_cases c11 : 0 < (l0.length : Int)
    ·rw [if_pos c11] at H
     have c11b0 : decide (0 < (l0.length : Int)) = true := decide_eq_true c11
     have c11b1 : decide (0 < l0.length) = true := decide_eq_true (by omega)
     clear c11
     by_cases c12 : 1 < (l0.length : Int)
     ·rw [if_pos c12] at H
      have c12b0 : decide (1 < (l0.length : Int)) = true := decide_eq_true c12
      have c12b1 : decide (1 < l0.length) = true := decide_eq_true (by omega)
      clear c12
      by_cases c13 : (rdOf ByteArray.empty l0 0).size + (rdOf ByteArray.empty l0 1).size ≤ 9223372036854775807
      ·rw [if_pos c13] at H
       have c13b0 := eq_true c13
       have c13b1 : decide ((rdOf ByteArray.empty l0 0).size + (rdOf ByteArray.empty l0 1).size ≤ 9223372036854775807) = true := decide_eq_true c13
       try have c13b2 : (9223372036854775807 < (rdOf ByteArray.empty l0 0).size + (rdOf ByteArray.empty l0 1).size) = False := eq_false (Nat.not_lt.2 c13)
       clear c13
       obtain ⟨y250, hy250⟩ : ∃ y_ : ByteArray, ((rdOf ByteArray.empty l0 0) ++ (rdOf ByteArray.empty l0 1)) = y_ := ⟨_, rfl⟩
       replace H : (impl_ReadStates.l0 kj2 l0 y250 (([] : List Int)) a1 0) = some (r1, r2) := by rw [← hy250]; exact (Option.bind_some _ _).symm.trans H
       obtain ⟨y251, hy251⟩ : ∃ y_ : List Int, y_ = (([] : List Int)) := ⟨_, rfl⟩
       replace H : (impl_ReadStates.l0 kj2 l0 y250 y251 a1 0) = some (r1, r2) := by first | (rw [hy251]; with_reducible exact H) | (have H2_ := (Option.bind_some _ _).symm.trans H; rw [hy251]; with_reducible exact H2_) | (have H2_ := (Option.bind_some _ _).symm.trans H; with_reducible exact H2_) | with_reducible exact H | (rw [hy251]; exact H) | exact H
       have Ny251 := Aside0.mk hy251
       clear hy251
       have H' := Aside0.mk H
       clear H
       have p248 : 0 ≤ (0 : Int) := (by omega)
       have q248 : 0 < (l0.length : Int) := of_decide_eq_true tq_14
       obtain ⟨ad248, e248, hx248_0⟩ := Kd.at_string HR0.out 0 p248 q248
       cases e248
       have qi248 : (0 < l0.length) = True := eq_true (by omega)
       (try rw [show ((0 : Int)).toNat = 0 from rfl] at hx248_0)
       (try rw [Addr.add_zero'] at hx248_0)
       replace hx248_0 := hx_ HB.out hx248_0
       replace p248 := eq_true p248
       replace q248 := eq_true q248
       have p249 : 0 ≤ (1 : Int) := (by omega)
       have q249 : 1 < (l0.length : Int) := of_decide_eq_true tq_14
       obtain ⟨ad249, e249, hx249_0⟩ := Kd.at_string HR0.out 1 p249 q249
       obtain rfl : ad248 = ad249 := (by injection e249)
       (try simp only [show (1 : Int).toNat = 1 from rfl, Nat.reduceMul, Nat.reduceEqDiff, Go.Addr.add, ↓reduceIte] at hx249_0)
       have qi249 : (1 < l0.length) = True := eq_true (by omega)
       (try rw [show ((1 : Int)).toNat = 1 from rfl] at hx249_0)
       replace hx249_0 := hx_ HB.out hx249_0
       replace p249 := eq_true p249
       replace q249 := eq_true q249
       go_wp2_with (first | ((with_reducible refine gate_dst (N := 38) rfl ?_); (try (refine gate_guard (by rfl) ?_; dsimp only)); refine Kd.R_lit (Kd.int .i64) _ 3 ?hg (N := 38) ?hd (xs := ([] : List Int)) (inner := []) (ok := fun _ => True) (okp := fun _ => True) ?hr ?hp (fun _ hk => hk) trivial (Below.refl _ _) (Nat.le_refl _) (by simp) ?_; (case hd => rfl); (case hg => rfl); (case hr => first | (go_simp; done) | (go_simp; rfl)); (case hp => exact (Reps.none _ _)); intro v252 w14 ho15 hb hg_ hnew_; clear hg_ hnew_; (first | rw [← Ny251.out] at ho15 | (simp only [Int.reduceToNat] at ho15; rw [← Ny251.out] at ho15)); have z_ := p_ (Kd.R_lower ho15 (below_size tq_0)) <| a_ (below_step tq_0 hb); clear HB; obtain ⟨HO253, HB⟩ := z_; clear hb ho15))
       repeat (go_quiet (first | ((with_reducible refine gate_dst (N := 38) rfl ?_); (try (refine gate_guard (by rfl) ?_; dsimp only)); refine Kd.R_lit (Kd.int .i64) _ 3 ?hg (N := 38) ?hd (xs := ([] : List Int)) (inner := []) (ok := fun _ => True) (okp := fun _ => True) ?hr ?hp (fun _ hk => hk) trivial (Below.refl _ _) (Nat.le_refl _) (by simp) ?_; (case hd => rfl); (case hg => rfl); (case hr => first | (go_simp; done) | (go_simp; rfl)); (case hp => exact (Reps.none _ _)); intro v252 w14 ho15 hb hg_ hnew_; clear hg_ hnew_; (first | rw [← Ny251.out] at ho15 | (simp only [Int.reduceToNat] at ho15; rw [← Ny251.out] at ho15)); have z_ := p_ (Kd.R_lower ho15 (below_size tq_0)) <| a_ (below_step tq_0 hb); clear HB; obtain ⟨HO253, HB⟩ := z_; clear hb ho15)); try go_wp2_with (first | ((with_reducible refine gate_dst (N := 38) rfl ?_); (try (refine gate_guard (by rfl) ?_; dsimp only)); refine Kd.R_lit (Kd.int .i64) _ 3 ?hg (N := 38) ?hd (xs := ([] : List Int)) (inner := []) (ok := fun _ => True) (okp := fun _ => True) ?hr ?hp (fun _ hk => hk) trivial (Below.refl _ _) (Nat.le_refl _) (by simp) ?_; (case hd => rfl); (case hg => rfl); (case hr => first | (go_simp; done) | (go_simp; rfl)); (case hp => exact (Reps.none _ _)); intro v252 w14 ho15 hb hg_ hnew_; clear hg_ hnew_; (first | rw [← Ny251.out] at ho15 | (simp only [Int.reduceToNat] at ho15; rw [← Ny251.out] at ho15)); have z_ := p_ (Kd.R_lower ho15 (below_size tq_0)) <| a_ (below_step tq_0 hb); clear HB; obtain ⟨HO253, HB⟩ := z_; clear hb ho15)))
       go_loopg [7, 40] kj2 (fun kq v7 v40 w' => ∃ (x7_2 : List Int) (x40_2 : Int), v40 = .int .i64 x40_2 ∧ Aside0 (impl_ReadStates.l0 kq l0 y250 x7_2 a1 x40_2 = some (r1, r2)) ∧ Aside0 (kq ≤ kj2) ∧ Aside0 (Kd.R (Kd.int .i64) 3 w' w.heap.size (fun _ => True) v7 x7_2) ∧ Aside0 (Below w.heap.size w w'))
       case atStart => exact ⟨(y251), (0), tq_16, H', ⟨Nat.le_refl _⟩, ⟨(by (with_reducible repeat (first | apply Kd.R_alloc | apply Kd.R_drewN | apply Kd.R_drew)); exact HO253.out)⟩, ⟨tq_0⟩⟩
       case round =>
        clear H'
        try clear c1
        try clear p2
        try clear q2
        try clear hx2
        try clear qi2
        try clear c4
        try clear c4b0
        try clear c4b1
        try clear c5
        try clear c5b0
        try clear c5b1
        try clear c6
        try clear c6b0
        try clear c6b1
        try clear c7
        try clear c7b0
        try clear c7b1
        try clear c8
        try clear c8b0
        try clear c8b1
        try clear c10
        try clear c11
        try clear c11b0
        try clear c11b1
        try clear c12
        try clear c12b0
        try clear c12b1
        try clear c13
        try clear c13b0
        try clear c13b1
        try clear c13b2
        try clear hx245_0
        try clear hx246_0
        try clear hx248_0
        try clear hx249_0
        try clear p2
        try clear p245
        try clear p246
        try clear p248
        try clear p249
        try clear q2
        try clear q245
        try clear q246
        try clear q248
        try clear q249
        obtain ⟨x7_2, x40_2, rfl, HA, HK2, HO_7, HB⟩ := hrel
        cases gk with
        | zero => exact absurd HA.out (by simp [impl_ReadStates.l0])
        | succ k2 =>
         have H := HA.out
         clear HA
         simp only [impl_ReadStates.l0] at H
         by_cases c16 : x40_2 < a1
         ·rw [if_pos c16] at H
          have c16b0 : decide (x40_2 < a1) = true := decide_eq_true c16
          clear c16
          by_cases c17 : 0 ≤ x40_2
          ·rw [if_pos c17] at H
           have c17b0 : decide (0 ≤ x40_2) = true := decide_eq_true c17
           clear c17
           by_cases c18 : x40_2 < (y250.size : Int)
           ·rw [if_pos c18] at H
            have c18b0 : decide (x40_2 < (y250.size : Int)) = true := decide_eq_true c18
            clear c18
            by_cases c20 : x7_2.length < 17592186044416
            ·rw [if_pos c20] at H
             have LMc20 := Aside0.mk c20
             clear c20
             obtain ⟨y254, hy254⟩ : ∃ y_ : List Int, y_ = (x7_2 ++ [wrap64 (bt y250 x40_2)]) := ⟨_, rfl⟩
             replace H : (impl_ReadStates.l0 k2 l0 y250 y254 a1 (wrap64 (x40_2 + 1))) = some (r1, r2) := by first | (rw [hy254]; with_reducible exact H) | (have H2_ := (Option.bind_some _ _).symm.trans H; rw [hy254]; with_reducible exact H2_) | (have H2_ := (Option.bind_some _ _).symm.trans H; with_reducible exact H2_) | with_reducible exact H | (rw [hy254]; exact H) | exact H
             have Ny254 := Aside0.mk hy254
             clear hy254
             have H' := Aside0.mk H
             clear H
             have p19 : 0 ≤ (x40_2 : Int) := of_decide_eq_true tq_14
             have q19 : x40_2 < (y250.size : Int) := of_decide_eq_true tq_14
             have hx19 := bt_at y250 x40_2
             replace p19 := eq_true p19
             replace q19 := eq_true q19
             go_wp2_with (first | ((with_reducible refine gate_builtin (b := .append) (xs := #[.tmp 43, .tmp 48]) rfl ?_); (try (refine gate_guard (by rfl) ?_; dsimp only)); at_builtin; refine Kd.R_append (Kd.int .i64) (w0 := w) w.heap.size rfl (.tmp 43) (.tmp 48) 66 3 (.int .i64 0) 8 rfl Try.underlying66 info3 rfl (by decide) (by omega) u7 x7_2 (wrap64 (bt y250 x40_2)) [.int .i64 (wrap64 (bt y250 x40_2))] (fun _ => True) (fun _ => False) rfl rfl ?aP (fun _ hk => hk.elim) ?aF ?aO ?aB ?aS ?aL ?_; (case aP => exact rfl); (case aB => exact tq_0); (case aF => exact (fun _ _ => trivial)); (case aO => exact tq_17); (case aS => exact (below_size tq_0)); (case aL => have := LMc20.out; omega); intro v255 w21 ho hb hg hat; rw [← Ny254.out] at ho; have z_ := p_ (hb) <| a_ (ho); clear HB HO_7; obtain ⟨HB, HO256⟩ := z_; clear ho hb hg hat))
             repeat (go_quiet (first | ((with_reducible refine gate_builtin (b := .append) (xs := #[.tmp 43, .tmp 48]) rfl ?_); (try (refine gate_guard (by rfl) ?_; dsimp only)); at_builtin; refine Kd.R_append (Kd.int .i64) (w0 := w) w.heap.size rfl (.tmp 43) (.tmp 48) 66 3 (.int .i64 0) 8 rfl Try.underlying66 info3 rfl (by decide) (by omega) u7 x7_2 (wrap64 (bt y250 x40_2)) [.int .i64 (wrap64 (bt y250 x40_2))] (fun _ => True) (fun _ => False) rfl rfl ?aP (fun _ hk => hk.elim) ?aF ?aO ?aB ?aS ?aL ?_; (case aP => exact rfl); (case aB => exact tq_0); (case aF => exact (fun _ _ => trivial)); (case aO => exact tq_17); (case aS => exact (below_size tq_0)); (case aL => have := LMc20.out; omega); intro v255 w21 ho hb hg hat; rw [← Ny254.out] at ho; have z_ := p_ (hb) <| a_ (ho); clear HB HO_7; obtain ⟨HB, HO256⟩ := z_; clear ho hb hg hat)); try go_wp2_with (first | ((with_reducible refine gate_builtin (b := .append) (xs := #[.tmp 43, .tmp 48]) rfl ?_); (try (refine gate_guard (by rfl) ?_; dsimp only)); at_builtin; refine Kd.R_append (Kd.int .i64) (w0 := w) w.heap.size rfl (.tmp 43) (.tmp 48) 66 3 (.int .i64 0) 8 rfl Try.underlying66 info3 rfl (by decide) (by omega) u7 x7_2 (wrap64 (bt y250 x40_2)) [.int .i64 (wrap64 (bt y250 x40_2))] (fun _ => True) (fun _ => False) rfl rfl ?aP (fun _ hk => hk.elim) ?aF ?aO ?aB ?aS ?aL ?_; (case aP => exact rfl); (case aB => exact tq_0); (case aF => exact (fun _ _ => trivial)); (case aO => exact tq_17); (case aS => exact (below_size tq_0)); (case aL => have := LMc20.out; omega); intro v255 w21 ho hb hg hat; rw [← Ny254.out] at ho; have z_ := p_ (hb) <| a_ (ho); clear HB HO_7; obtain ⟨HB, HO256⟩ := z_; clear ho hb hg hat)))
             go_roundg k2
             case measure => have := HJ2.out; have := HK2.out; omega
             case rel => exact ⟨(y254), (wrap64 (x40_2 + 1)), tq_16, H', ⟨(by have := HJ2.out; have := HK2.out; omega)⟩, ⟨(by (with_reducible repeat (first | apply Kd.R_alloc | apply Kd.R_drewN | apply Kd.R_drew)); exact HO256.out)⟩, ⟨tq_0⟩⟩
            ·rw [if_neg c20] at H
             exact absurd H (by simp)
           ·rw [if_neg c18] at H
            exact absurd H (by simp)
          ·rw [if_neg c17] at H
           exact absurd H (by simp)
         ·rw [if_neg c16] at H
          have c16b0 : decide (x40_2 < a1) = false := decide_eq_false c16
          clear c16
          replace H := Option.bind_eq_some_iff.mp H
          obtain ⟨t257, A220, H⟩ := H
          replace H : ((slices_Equal_string.f k2 t257 l0).bind fun t260 => (if t260 = true then (some (x7_2, true)) else (some (([] : List Int), false)))) = some (r1, r2) := H
          have A22 := Aside0.mk A220
          clear A220
          replace H := Option.bind_eq_some_iff.mp H
          obtain ⟨t260, A230, H⟩ := H
          replace H : (if t260 = true then (some (x7_2, true)) else (some (([] : List Int), false))) = some (r1, r2) := H
          have A23 := Aside0.mk A230
          clear A230
          by_cases c24 : t260 = true
          ·subst c24
           have H1 : (some (x7_2, true)) = some (r1, r2) := by rw [if_pos rfl] at H; exact H
           clear H
           have H := H1
           clear H1
           simp only [Option.some.injEq, Prod.mk.injEq] at H
           obtain ⟨rfl, rfl⟩ := H
           obtain ⟨Ao25, co25, eo25⟩ := Kd.R_slice HO_7.out
           subst eo25
           go_wp2_with (first | (go_at_call 62; (with_reducible refine (impl_StatesWords.calls k2 _ _ x7_2 t257 _ ?side1 ?side2 A22.out).mono ?_); (case side1 => exact tq_27); (case side2 => exact (Kd.R_reads' HO_7.out).2.1); rintro e w26 ⟨v258, rfl, ho0, hb⟩; have z_ := p_ (Kd.R_below tq_17 hb) <| p_ (Kd.R_lower ho0 (below_size tq_0)) <| a_ (below_step tq_0 hb); clear HO_7 HB; obtain ⟨HO_7, HO259, HB⟩ := z_; (try clear hb); (try clear hb2); (try clear hk); (try clear hi); (try clear ho0); obtain ⟨Ao27, co27, eo27⟩ := Kd.R_slice HO259.out; subst eo27) | (go_at_call 144; (with_reducible refine (slices_Equal_string.calls k2 _ _ t257 _ _ l0 true _ ?side1 ?side2 ?side3 ?side4 A23.out).mono ?_); (case side1 => exact tq_26); (case side2 => exact (Kd.R_reads' HO259.out).2.1); (case side3 => exact tq_22); (case side4 => exact HC0.out); rintro e w' ⟨rfl, ⟨nd, rfl⟩⟩; (try first | exact ⟨rfl, _, World.drewN_drewN _ _ _⟩ | exact ⟨rfl, _, Eq.trans (World.drewN_drewN _ _ _) (congrArg (World.drewN _) (Nat.add_assoc _ _ _))⟩)))
           repeat (go_quiet (first | (go_at_call 62; (with_reducible refine (impl_StatesWords.calls k2 _ _ x7_2 t257 _ ?side1 ?side2 A22.out).mono ?_); (case side1 => exact tq_27); (case side2 => exact (Kd.R_reads' HO_7.out).2.1); rintro e w26 ⟨v258, rfl, ho0, hb⟩; have z_ := p_ (Kd.R_below tq_17 hb) <| p_ (Kd.R_lower ho0 (below_size tq_0)) <| a_ (below_step tq_0 hb); clear HO_7 HB; obtain ⟨HO_7, HO259, HB⟩ := z_; (try clear hb); (try clear hb2); (try clear hk); (try clear hi); (try clear ho0); obtain ⟨Ao27, co27, eo27⟩ := Kd.R_slice HO259.out; subst eo27) | (go_at_call 144; (with_reducible refine (slices_Equal_string.calls k2 _ _ t257 _ _ l0 true _ ?side1 ?side2 ?side3 ?side4 A23.out).mono ?_); (case side1 => exact tq_26); (case side2 => exact (Kd.R_reads' HO259.out).2.1); (case side3 => exact tq_22); (case side4 => exact HC0.out); rintro e w' ⟨rfl, ⟨nd, rfl⟩⟩; (try first | exact ⟨rfl, _, World.drewN_drewN _ _ _⟩ | exact ⟨rfl, _, Eq.trans (World.drewN_drewN _ _ _) (congrArg (World.drewN _) (Nat.add_assoc _ _ _))⟩))); try go_wp2_with (first | (go_at_call 62; (with_reducible refine (impl_StatesWords.calls k2 _ _ x7_2 t257 _ ?side1 ?side2 A22.out).mono ?_); (case side1 => exact tq_27); (case side2 => exact (Kd.R_reads' HO_7.out).2.1); rintro e w26 ⟨v258, rfl, ho0, hb⟩; have z_ := p_ (Kd.R_below tq_17 hb) <| p_ (Kd.R_lower ho0 (below_size tq_0)) <| a_ (below_step tq_0 hb); clear HO_7 HB; obtain ⟨HO_7, HO259, HB⟩ := z_; (try clear hb); (try clear hb2); (try clear hk); (try clear hi); (try clear ho0); obtain ⟨Ao27, co27, eo27⟩ := Kd.R_slice HO259.out; subst eo27) | (go_at_call 144; (with_reducible refine (slices_Equal_string.calls k2 _ _ t257 _ _ l0 true _ ?side1 ?side2 ?side3 ?side4 A23.out).mono ?_); (case side1 => exact tq_26); (case side2 => exact (Kd.R_reads' HO259.out).2.1); (case side3 => exact tq_22); (case side4 => exact HC0.out); rintro e w' ⟨rfl, ⟨nd, rfl⟩⟩; (try first | exact ⟨rfl, _, World.drewN_drewN _ _ _⟩ | exact ⟨rfl, _, Eq.trans (World.drewN_drewN _ _ _) (congrArg (World.drewN _) (Nat.add_assoc _ _ _))⟩))))
           go_ret2
           exact ⟨_, tq_13, tq_17, tq_0⟩
          ·replace c24 := Bool.eq_false_iff.mpr c24
           subst c24
           have H1 : (some (([] : List Int), false)) = some (r1, r2) := by rw [if_neg (show ¬ (false = true) by decide)] at H; exact H
           clear H
           have H := H1
           clear H1
           simp only [Option.some.injEq, Prod.mk.injEq] at H
           obtain ⟨rfl, rfl⟩ := H
           obtain ⟨Ao28, co28, eo28⟩ := Kd.R_slice HO_7.out
           subst eo28
           go_wp2_with (first | (go_at_call 62; (with_reducible refine (impl_StatesWords.calls k2 _ _ x7_2 t257 _ ?side1 ?side2 A22.out).mono ?_); (case side1 => exact tq_27); (case side2 => exact (Kd.R_reads' HO_7.out).2.1); rintro e w29 ⟨v258, rfl, ho0, hb⟩; have z_ := p_ (Kd.R_below tq_17 hb) <| p_ (Kd.R_lower ho0 (below_size tq_0)) <| a_ (below_step tq_0 hb); clear HO_7 HB; obtain ⟨HO_7, HO259, HB⟩ := z_; (try clear hb); (try clear hb2); (try clear hk); (try clear hi); (try clear ho0); obtain ⟨Ao30, co30, eo30⟩ := Kd.R_slice HO259.out; subst eo30) | (go_at_call 144; (with_reducible refine (slices_Equal_string.calls k2 _ _ t257 _ _ l0 false _ ?side1 ?side2 ?side3 ?side4 A23.out).mono ?_); (case side1 => exact tq_26); (case side2 => exact (Kd.R_reads' HO259.out).2.1); (case side3 => exact tq_22); (case side4 => exact HC0.out); rintro e w' ⟨rfl, ⟨nd, rfl⟩⟩; (try first | exact ⟨rfl, _, World.drewN_drewN _ _ _⟩ | exact ⟨rfl, _, Eq.trans (World.drewN_drewN _ _ _) (congrArg (World.drewN _) (Nat.add_assoc _ _ _))⟩)))
           repeat (go_quiet (first | (go_at_call 62; (with_reducible refine (impl_StatesWords.calls k2 _ _ x7_2 t257 _ ?side1 ?side2 A22.out).mono ?_); (case side1 => exact tq_27); (case side2 => exact (Kd.R_reads' HO_7.out).2.1); rintro e w29 ⟨v258, rfl, ho0, hb⟩; have z_ := p_ (Kd.R_below tq_17 hb) <| p_ (Kd.R_lower ho0 (below_size tq_0)) <| a_ (below_step tq_0 hb); clear HO_7 HB; obtain ⟨HO_7, HO259, HB⟩ := z_; (try clear hb); (try clear hb2); (try clear hk); (try clear hi); (try clear ho0); obtain ⟨Ao30, co30, eo30⟩ := Kd.R_slice HO259.out; subst eo30) | (go_at_call 144; (with_reducible refine (slices_Equal_string.calls k2 _ _ t257 _ _ l0 false _ ?side1 ?side2 ?side3 ?side4 A23.out).mono ?_); (case side1 => exact tq_26); (case side2 => exact (Kd.R_reads' HO259.out).2.1); (case side3 => exact tq_22); (case side4 => exact HC0.out); rintro e w' ⟨rfl, ⟨nd, rfl⟩⟩; (try first | exact ⟨rfl, _, World.drewN_drewN _ _ _⟩ | exact ⟨rfl, _, Eq.trans (World.drewN_drewN _ _ _) (congrArg (World.drewN _) (Nat.add_assoc _ _ _))⟩))); try go_wp2_with (first | (go_at_call 62; (with_reducible refine (impl_StatesWords.calls k2 _ _ x7_2 t257 _ ?side1 ?side2 A22.out).mono ?_); (case side1 => exact tq_27); (case side2 => exact (Kd.R_reads' HO_7.out).2.1); rintro e w29 ⟨v258, rfl, ho0, hb⟩; have z_ := p_ (Kd.R_below tq_17 hb) <| p_ (Kd.R_lower ho0 (below_size tq_0)) <| a_ (below_step tq_0 hb); clear HO_7 HB; obtain ⟨HO_7, HO259, HB⟩ := z_; (try clear hb); (try clear hb2); (try clear hk); (try clear hi); (try clear ho0); obtain ⟨Ao30, co30, eo30⟩ := Kd.R_slice HO259.out; subst eo30) | (go_at_call 144; (with_reducible refine (slices_Equal_string.calls k2 _ _ t257 _ _ l0 false _ ?side1 ?side2 ?side3 ?side4 A23.out).mono ?_); (case side1 => exact tq_26); (case side2 => exact (Kd.R_reads' HO259.out).2.1); (case side3 => exact tq_22); (case side4 => exact HC0.out); rintro e w' ⟨rfl, ⟨nd, rfl⟩⟩; (try first | exact ⟨rfl, _, World.drewN_drewN _ _ _⟩ | exact ⟨rfl, _, Eq.trans (World.drewN_drewN _ _ _) (congrArg (World.drewN _) (Nat.add_assoc _ _ _))⟩))))
           go_ret2
           exact ⟨_, tq_13, tq_34, tq_0⟩
      ·rw [if_neg c13] at H
       exact absurd H (by simp)
     ·rw [if_neg c12] at H
      exact absurd H (by simp)
    ·rw [if_neg c11] at H
     exact absurd H (by simp)

/-! ### impl_PagesWith: function 64 -/
def impl_PagesWith.l0 : Nat → Int → List Int → List Int → Int → Int → Option (List Int)
 | 0, _, _, _, _, _ => none
 | k + 1, x1, x5, x9, x10, x11 => if x11 < x10 then (if 0 ≤ x11 then (if x11 < (x9.length : Int) then (if (rd x9 x11) = x1 then (if x5.length < 17592186044416 then (impl_PagesWith.l0 k x1 (x5 ++ [x11]) x9 x10 (wrap64 (x11 + 1))) else (none)) else (impl_PagesWith.l0 k x1 x5 x9 x10 (wrap64 (x11 + 1)))) else (none)) else (none)) else (some x5)
def impl_PagesWith.f (k : Nat) (l0 : List Int) (a1 : Int) : Option (List Int) := impl_PagesWith.l0 k a1 (([] : List Int)) l0 (l0.length : Int) 0
theorem impl_PagesWith.mono_l : ∀ k, (∀ y0 y1 y2 y3 y4, LeO (impl_PagesWith.l0 k y0 y1 y2 y3 y4) (impl_PagesWith.l0 (k + 1) y0 y1 y2 y3 y4))
 | 0 => fun _ _ _ _ _ r h => by simp [impl_PagesWith.l0] at h
 | k + 1 => by
  have ih0 := impl_PagesWith.mono_l k
  ·intro y0 y1 y2 y3 y4
   unfold impl_PagesWith.l0
   repeat' first
   | (with_reducible exact ih0 ..)
   | (with_reducible exact LeO.refl _)
   | (with_reducible exact LeO.none _)
   | (with_reducible refine LeO.ite ?_ ?_)
   | (with_reducible refine LeO.bind ?_ (fun _ => ?_))
   | exact ih0 ..
   | exact LeO.none _
   | refine LeO.ite ?_ ?_
   | refine LeO.bind ?_ (fun _ => ?_)
theorem impl_PagesWith.mono : ∀ a0 a1 k, LeO (impl_PagesWith.f k a0 a1) (impl_PagesWith.f (k + 1) a0 a1) := by
 intro a0 a1 k
 have ih0 := impl_PagesWith.mono_l k
 unfold impl_PagesWith.f
 repeat' first
   | (with_reducible exact ih0 ..)
   | (with_reducible exact LeO.refl _)
   | (with_reducible exact LeO.none _)
   | (with_reducible refine LeO.ite ?_ ?_)
   | (with_reducible refine LeO.bind ?_ (fun _ => ?_))
   | exact ih0 ..
   | exact LeO.none _
   | refine LeO.ite ?_ ?_
   | refine LeO.bind ?_ (fun _ => ?_)
set_option maxHeartbeats 8000000 in
set_option maxRecDepth 100000 in
theorem impl_PagesWith.calls (k : Nat) (A0 : Option Addr) (c0 : Nat) (l0 : List Int) (a1 : Int) (r : List Int) (w : World) (hr0 : Kd.C (Kd.int .i64) w A0 l0.length l0) (hc0 : l0.length ≤ c0) (h : impl_PagesWith.f k l0 a1 = some r) :
  Calls Try.prog 64 #[.slice A0 l0.length c0, .int .i64 a1] w fun e w' => ∃ v0_ : Value, e = .returned (v0_) ∧ Kd.R (Kd.int .i64) 3 w' w.heap.size (fun _ => True) v0_ r ∧ Below w.heap.size w w' := by
 have HR0 := Aside0.mk hr0
 have HC0 := Aside0.mk hc0
 clear hr0 hc0
 have HB := Aside0.mk (Below.refl w.heap.size w)
 have H : (impl_PagesWith.l0 k a1 (([] : List Int)) l0 (l0.length : Int) 0) = some r := h
 clear h
 obtain ⟨y261, hy261⟩ : ∃ y_ : List Int, y_ = (([] : List Int)) := ⟨_, rfl⟩
 replace H : (impl_PagesWith.l0 k a1 y261 l0 (l0.length : Int) 0) = some r := by first | (rw [hy261]; with_reducible exact H) | (have H2_ := (Option.bind_some _ _).symm.trans H; rw [hy261]; with_reducible exact H2_) | (have H2_ := (Option.bind_some _ _).symm.trans H; with_reducible exact H2_) | with_reducible exact H | (rw [hy261]; exact H) | exact H
 have Ny261 := Aside0.mk hy261
 clear hy261
 have H' := Aside0.mk H
 clear H
 go_enter Try.func64, Try.ntmps64
 go_wp2_with (first | ((with_reducible refine gate_dst (N := 8) rfl ?_); refine Kd.R_lit (Kd.int .i64) _ 3 ?hg (N := 8) ?hd (xs := ([] : List Int)) (inner := []) (ok := fun _ => True) (okp := fun _ => True) ?hr ?hp (fun _ hk => hk) trivial (Below.refl _ _) (Nat.le_refl _) (by simp) ?_; (case hd => rfl); (case hg => rfl); (case hr => first | (go_simp; done) | (go_simp; rfl)); (case hp => exact (Reps.none _ _)); intro v262 w3 ho4 hb hg_ hnew_; clear hg_ hnew_; (first | rw [← Ny261.out] at ho4 | (simp only [Int.reduceToNat] at ho4; rw [← Ny261.out] at ho4)); have z_ := p_ (Kd.R_lower ho4 (below_size tq_0)) <| a_ (below_step tq_0 hb); clear HB; obtain ⟨HO263, HB⟩ := z_; clear hb ho4))
 go_loopg [5, 11] k (fun kq v5 v11 w' => ∃ (x5_1 : List Int) (x11_1 : Int), v11 = .int .i64 x11_1 ∧ Aside0 (impl_PagesWith.l0 kq a1 x5_1 l0 (l0.length : Int) x11_1 = some r) ∧ Aside0 (kq ≤ k) ∧ Aside0 (Kd.R (Kd.int .i64) 3 w' w.heap.size (fun _ => True) v5 x5_1) ∧ Aside0 (Below w.heap.size w w'))
 case atStart => exact ⟨(y261), (0), tq_16, H', ⟨Nat.le_refl _⟩, ⟨(by (with_reducible repeat (first | apply Kd.R_alloc | apply Kd.R_drewN | apply Kd.R_drew)); exact HO263.out)⟩, ⟨tq_0⟩⟩
 case round =>
  clear H'
  try clear p2
  obtain ⟨x5_1, x11_1, rfl, HA, HK1, HO_5, HB⟩ := hrel
  cases gk with
  | zero => exact absurd HA.out (by simp [impl_PagesWith.l0])
  | succ k1 =>
   have H := HA.out
   clear HA
   simp only [impl_PagesWith.l0] at H
   by_cases c5 : x11_1 < (l0.length : Int)
   ·rw [if_pos c5] at H
    have c5b0 : decide (x11_1 < (l0.length : Int)) = true := decide_eq_true c5
    clear c5
    by_cases c6 : 0 ≤ x11_1
    ·rw [if_pos c6] at H
     have c6b0 : decide (0 ≤ x11_1) = true := decide_eq_true c6
     clear c6
     by_cases c7 : x11_1 < (l0.length : Int)
     ·rw [if_pos c7] at H
      have c7b0 : decide (x11_1 < (l0.length : Int)) = true := decide_eq_true c7
      clear c7
      by_cases c8 : (rd l0 x11_1) = a1
      ·rw [if_pos c8] at H
       have c8b0 : ((rd l0 x11_1) == a1) = true := beq_iff_eq.mpr c8
       have c8b1 : ((rd l0 x11_1) != a1) = false := bne_eq_false_iff_eq.mpr c8
       clear c8
       by_cases c9 : x5_1.length < 17592186044416
       ·rw [if_pos c9] at H
        have LMc9 := Aside0.mk c9
        clear c9
        obtain ⟨y265, hy265⟩ : ∃ y_ : List Int, y_ = (x5_1 ++ [x11_1]) := ⟨_, rfl⟩
        replace H : (impl_PagesWith.l0 k1 a1 y265 l0 (l0.length : Int) (wrap64 (x11_1 + 1))) = some r := by first | (rw [hy265]; with_reducible exact H) | (have H2_ := (Option.bind_some _ _).symm.trans H; rw [hy265]; with_reducible exact H2_) | (have H2_ := (Option.bind_some _ _).symm.trans H; with_reducible exact H2_) | with_reducible exact H | (rw [hy265]; exact H) | exact H
        have Ny265 := Aside0.mk hy265
        clear hy265
        have H' := Aside0.mk H
        clear H
        have p264 : 0 ≤ (x11_1 : Int) := of_decide_eq_true tq_14
        have q264 : x11_1 < (l0.length : Int) := of_decide_eq_true tq_14
        obtain ⟨ad264, e264, hx264_0⟩ := Kd.at_int HR0.out x11_1 p264 q264
        cases e264
        replace hx264_0 := hx_ HB.out hx264_0
        replace p264 := eq_true p264
        replace q264 := eq_true q264
        go_wp2_with (first | ((with_reducible refine gate_builtin (b := .append) (xs := #[.tmp 19, .tmp 21]) rfl ?_); at_builtin; refine Kd.R_append (Kd.int .i64) (w0 := w) w.heap.size rfl (.tmp 19) (.tmp 21) 66 3 (.int .i64 0) 8 rfl Try.underlying66 info3 rfl (by decide) (by omega) u5 x5_1 x11_1 [.int .i64 x11_1] (fun _ => True) (fun _ => False) rfl rfl ?aP (fun _ hk => hk.elim) ?aF ?aO ?aB ?aS ?aL ?_; (case aP => exact rfl); (case aB => exact tq_0); (case aF => exact (fun _ _ => trivial)); (case aO => exact tq_33); (case aS => exact (below_size tq_0)); (case aL => have := LMc9.out; omega); intro v266 w10 ho hb hg hat; rw [← Ny265.out] at ho; have z_ := p_ (hb) <| a_ (ho); clear HB HO_5; obtain ⟨HB, HO267⟩ := z_; clear ho hb hg hat))
        go_roundg k1
        case measure => have := HK1.out; omega
        case rel => exact ⟨(y265), (wrap64 (x11_1 + 1)), tq_16, H', ⟨tq_35⟩, ⟨(by (with_reducible repeat (first | apply Kd.R_alloc | apply Kd.R_drewN | apply Kd.R_drew)); exact HO267.out)⟩, ⟨tq_0⟩⟩
       ·rw [if_neg c9] at H
        exact absurd H (by simp)
      ·rw [if_neg c8] at H
       have c8b0 : ((rd l0 x11_1) == a1) = false := beq_eq_false_iff_ne.mpr c8
       have c8b1 : ((rd l0 x11_1) != a1) = true := bne_iff_ne.mpr c8
       have H' := Aside0.mk H
       clear H
       have p264 : 0 ≤ (x11_1 : Int) := of_decide_eq_true tq_14
       have q264 : x11_1 < (l0.length : Int) := of_decide_eq_true tq_14
       obtain ⟨ad264, e264, hx264_0⟩ := Kd.at_int HR0.out x11_1 p264 q264
       cases e264
       replace hx264_0 := hx_ HB.out hx264_0
       replace p264 := eq_true p264
       replace q264 := eq_true q264
       go_wp2
       go_roundg k1
       case measure => have := HK1.out; omega
       case rel => exact ⟨(x5_1), (wrap64 (x11_1 + 1)), tq_16, H', ⟨tq_35⟩, ⟨tq_33⟩, ⟨tq_0⟩⟩
     ·rw [if_neg c7] at H
      exact absurd H (by simp)
    ·rw [if_neg c6] at H
     exact absurd H (by simp)
   ·rw [if_neg c5] at H
    have c5b0 : decide (x11_1 < (l0.length : Int)) = false := decide_eq_false c5
    clear c5
    obtain rfl := Option.some.inj H
    go_wp2
    go_ret
    exact ⟨_, tq_13, tq_33, tq_0⟩

/-! ### impl_FirstClean: function 65 -/
def impl_FirstClean.f (k : Nat) (l0 : List Int) (a1 : Int) : Option (List Int × Bool) := (impl_PagesWith.f k l0 0).bind fun t268 => ((impl_within.f a1 0 (t268.length : Int)).bind fun t271 => (if t271 = true then (if 0 ≤ a1 then (if a1 ≤ (t268.length : Int) then ((slices_Clone_int.f (t268.take (a1 : Int).toNat)).bind fun t276 => (some (t276, true))) else (none)) else (none)) else (some (([] : List Int), false))))
theorem impl_FirstClean.mono : ∀ a0 a1 k, LeO (impl_FirstClean.f k a0 a1) (impl_FirstClean.f (k + 1) a0 a1) := by
 intro a0 a1 k
 unfold impl_FirstClean.f
 repeat' first
   | (with_reducible exact impl_PagesWith.mono ..)
   | (with_reducible exact LeO.refl _)
   | (with_reducible exact LeO.none _)
   | (with_reducible refine LeO.ite ?_ ?_)
   | (with_reducible refine LeO.bind ?_ (fun _ => ?_))
   | exact impl_PagesWith.mono ..
   | exact LeO.none _
   | refine LeO.ite ?_ ?_
   | refine LeO.bind ?_ (fun _ => ?_)
set_option maxHeartbeats 8000000 in
set_option maxRecDepth 100000 in
theorem impl_FirstClean.calls (k : Nat) (A0 : Option Addr) (c0 : Nat) (l0 : List Int) (a1 : Int) (r1 : List Int) (r2 : Bool) (w : World) (hr0 : Kd.C (Kd.int .i64) w A0 l0.length l0) (hc0 : l0.length ≤ c0) (h : impl_FirstClean.f k l0 a1 = some (r1, r2)) :
  Calls Try.prog 65 #[.slice A0 l0.length c0, .int .i64 a1] w fun e w' => ∃ v0_ : Value, e = .returned (.tuple #[v0_, .bool r2]) ∧ Kd.R (Kd.int .i64) 3 w' w.heap.size (fun _ => True) v0_ r1 ∧ Below w.heap.size w w' := by
 have HR0 := Aside0.mk hr0
 have HC0 := Aside0.mk hc0
 clear hr0 hc0
 have HB := Aside0.mk (Below.refl w.heap.size w)
 have H : ((impl_PagesWith.f k l0 0).bind fun t268 => ((impl_within.f a1 0 (t268.length : Int)).bind fun t271 => (if t271 = true then (if 0 ≤ a1 then (if a1 ≤ (t268.length : Int) then ((slices_Clone_int.f (t268.take (a1 : Int).toNat)).bind fun t276 => (some (t276, true))) else (none)) else (none)) else (some (([] : List Int), false))))) = some (r1, r2) := h
 clear h
 replace H := Option.bind_eq_some_iff.mp H
 obtain ⟨t268, A30, H⟩ := H
 replace H : ((impl_within.f a1 0 (t268.length : Int)).bind fun t271 => (if t271 = true then (if 0 ≤ a1 then (if a1 ≤ (t268.length : Int) then ((slices_Clone_int.f (t268.take (a1 : Int).toNat)).bind fun t276 => (some (t276, true))) else (none)) else (none)) else (some (([] : List Int), false)))) = some (r1, r2) := H
 have A3 := Aside0.mk A30
 clear A30
 replace H := Option.bind_eq_some_iff.mp H
 obtain ⟨t271, A40, H⟩ := H
 replace H : (if t271 = true then (if 0 ≤ a1 then (if a1 ≤ (t268.length : Int) then ((slices_Clone_int.f (t268.take (a1 : Int).toNat)).bind fun t276 => (some (t276, true))) else (none)) else (none)) else (some (([] : List Int), false))) = some (r1, r2) := H
 have A4 := Aside0.mk A40
 clear A40
 by_cases c5 : t271 = true
 ·subst c5
  have H1 : (if 0 ≤ a1 then (if a1 ≤ (t268.length : Int) then ((slices_Clone_int.f (t268.take (a1 : Int).toNat)).bind fun t276 => (some (t276, true))) else (none)) else (none)) = some (r1, r2) := by rw [if_pos rfl] at H; exact H
  clear H
  have H := H1
  clear H1
  by_cases c6 : 0 ≤ a1
  ·rw [if_pos c6] at H
   have c6b0 := eq_true c6
   have c6b1 : decide (0 ≤ a1) = true := decide_eq_true c6
   clear c6
   by_cases c7 : a1 ≤ (t268.length : Int)
   ·rw [if_pos c7] at H
    have c7b0 := eq_true c7
    have c7b1 : decide (a1 ≤ (t268.length : Int)) = true := decide_eq_true c7
    clear c7
    obtain ⟨y272, hy272⟩ : ∃ y_ : List Int, y_ = (t268.take (a1 : Int).toNat) := ⟨_, rfl⟩
    replace H : ((slices_Clone_int.f y272).bind fun t276 => (some (t276, true))) = some (r1, r2) := by first | (rw [hy272]; with_reducible exact H) | (have H2_ := (Option.bind_some _ _).symm.trans H; rw [hy272]; with_reducible exact H2_) | (have H2_ := (Option.bind_some _ _).symm.trans H; with_reducible exact H2_) | with_reducible exact H | (rw [hy272]; exact H) | exact H
    have Ny272 := Aside0.mk hy272
    clear hy272
    replace H := Option.bind_eq_some_iff.mp H
    obtain ⟨t276, A80, H⟩ := H
    replace H : (some (t276, true)) = some (r1, r2) := H
    have A8 := Aside0.mk A80
    clear A80
    simp only [Option.some.injEq, Prod.mk.injEq] at H
    obtain ⟨rfl, rfl⟩ := H
    go_enter Try.func65, Try.ntmps65
    go_wp2_with (first | ((with_reducible refine gate_callee (f := 64) rfl ?_); refine goesL_ (some 8) rfl rfl Try.func64 (by kernel_rfl) rfl #[.slice A0 l0.length c0, .int .i64 0] rfl tq_1 ?_; (with_reducible refine (impl_PagesWith.calls k _ _ l0 0 t268 _ ?side1 ?side2 A3.out).mono ?_); (case side1 => exact tq_24); (case side2 => exact HC0.out); rintro e w9 ⟨v269, rfl, ho0, hb⟩; refine ⟨_, rfl, ?_⟩; have z_ := p_ (Kd.R_lower ho0 (below_size tq_0)) <| a_ (below_step tq_0 hb); clear HB; obtain ⟨HO270, HB⟩ := z_; (try clear hb); (try clear hb2); (try clear hk); (try clear hi); (try clear ho0); obtain ⟨Ao10, co10, eo10⟩ := Kd.R_slice HO270.out; subst eo10) | ((with_reducible refine gate_callee (f := 140) rfl ?_); refine goesL_ (some 12) rfl rfl Try.func140 (by kernel_rfl) rfl #[.int .i64 a1, .int .i64 0, .int .i64 (t268.length : Int)] rfl tq_1 ?_; (with_reducible refine (impl_within.calls a1 0 (t268.length : Int) true _ A4.out).mono ?_); rintro e w' ⟨rfl, ⟨nd, rfl⟩⟩; refine ⟨_, rfl, ?_⟩; have q11 : (a1 : Int) ≤ ((t268.length : Int) : Int) := of_decide_eq_true tq_14; obtain ⟨i011, hi011, _, hsz11, _⟩ := info_parts info3; have hroom11 : t268.length ≤ co10 := (Kd.R_reads' HO270.out).2.1; have hC11 : Kd.C (Kd.int .i64) _ Ao10 t268.length t268 := (Kd.R_reads' HO270.out).2.2; have hcut11 := cut_to (P := Try.prog) 66 3 .i64 Try.underlying66 hi011 Ao10 t268.length co10 a1 (of_decide_eq_true tq_14) q11 hroom11; have hr11 := Kd.C_take (m := (a1 : Int).toNat) hC11 (by omega); have hy11 : y272.length = (a1 : Int).toNat := (by rw [Ny272.out, List.length_take]; omega); rw [← Ny272.out] at hr11; rw [← hy11] at hcut11; have HR275 := Aside0.mk hr11; have HC275 := Aside0.mk (show y272.length ≤ co10 from by omega); clear hr11 hC11 hroom11 hi011 hsz11; have KY11 := Aside0.mk hy11; clear hy11; have KL11 := Aside0.mk (show (a1 : Int).toNat ≤ t268.length from by omega); replace q11 := eq_true q11) | ((with_reducible refine gate_callee (f := 139) rfl ?_); refine goesL_ (some 17) rfl rfl Try.func139 (by kernel_rfl) rfl #[.slice Ao10 y272.length co10] rfl tq_1 ?_; (with_reducible refine (slices_Clone_int.calls _ _ y272 t276 _ ?side1 ?side2 A8.out).mono ?_); (case side1 => repeat (first | exact tq_40 | (with_reducible refine Kd.C_alloc ?_ _) | (with_reducible refine Kd.C_drewN ?_ _) | (with_reducible refine Kd.C_drew ?_))); (case side2 => exact HC275.out); rintro e w12 ⟨v277, rfl, ho0, hb⟩; refine ⟨_, rfl, ?_⟩; have z_ := p_ (Kd.R_elder' (by (with_reducible repeat (first | apply Kd.R_alloc | apply Kd.R_drewN | apply Kd.R_drew)); exact HO270.out) (Kd.R_base ho0) hb) <| p_ (Kd.R_lower (Kd.R_new' ho0 (Kd.R_lt (by (with_reducible repeat (first | apply Kd.R_alloc | apply Kd.R_drewN | apply Kd.R_drew)); exact HO270.out))) (below_size tq_0)) <| p_ (Kd.C_below tq_40 hb) <| a_ (below_step tq_0 hb); clear HO270 HR275 HB; obtain ⟨HO270, HO278, HR275, HB⟩ := z_; (try clear hb); (try clear hb2); (try clear hk); (try clear hi); (try clear ho0)))
    go_ret2
    exact ⟨_, tq_13, (by (with_reducible repeat (first | apply Kd.R_alloc | apply Kd.R_drewN | apply Kd.R_drew)); exact Kd.R_mono HO278.out (fun _ hk => trivial)), tq_0⟩
   ·rw [if_neg c7] at H
    exact absurd H (by simp)
  ·rw [if_neg c6] at H
   exact absurd H (by simp)
 ·replace c5 := Bool.eq_false_iff.mpr c5
  subst c5
  have H1 : (some (([] : List Int), false)) = some (r1, r2) := by rw [if_neg (show ¬ (false = true) by decide)] at H; exact H
  clear H
  have H := H1
  clear H1
  simp only [Option.some.injEq, Prod.mk.injEq] at H
  obtain ⟨rfl, rfl⟩ := H
  go_enter Try.func65, Try.ntmps65
  go_wp2_with (first | ((with_reducible refine gate_callee (f := 64) rfl ?_); refine goesL_ (some 8) rfl rfl Try.func64 (by kernel_rfl) rfl #[.slice A0 l0.length c0, .int .i64 0] rfl tq_1 ?_; (with_reducible refine (impl_PagesWith.calls k _ _ l0 0 t268 _ ?side1 ?side2 A3.out).mono ?_); (case side1 => exact tq_24); (case side2 => exact HC0.out); rintro e w13 ⟨v269, rfl, ho0, hb⟩; refine ⟨_, rfl, ?_⟩; have z_ := p_ (Kd.R_lower ho0 (below_size tq_0)) <| a_ (below_step tq_0 hb); clear HB; obtain ⟨HO270, HB⟩ := z_; (try clear hb); (try clear hb2); (try clear hk); (try clear hi); (try clear ho0); obtain ⟨Ao14, co14, eo14⟩ := Kd.R_slice HO270.out; subst eo14) | ((with_reducible refine gate_callee (f := 140) rfl ?_); refine goesL_ (some 12) rfl rfl Try.func140 (by kernel_rfl) rfl #[.int .i64 a1, .int .i64 0, .int .i64 (t268.length : Int)] rfl tq_1 ?_; (with_reducible refine (impl_within.calls a1 0 (t268.length : Int) false _ A4.out).mono ?_); rintro e w' ⟨rfl, ⟨nd, rfl⟩⟩; refine ⟨_, rfl, ?_⟩))
  go_ret2
  exact ⟨_, tq_13, tq_34, tq_0⟩

/-! ### spec_PagesWith: function 66 -/
def spec_PagesWith.l0 : Nat → List Int → Int → List Int → Int → Option (List Int)
 | 0, _, _, _, _ => none
 | k + 1, x0, x1, x5, x6 => if x6 < (x0.length : Int) then (if 0 ≤ x6 then (if (rd x0 x6) = x1 then (if x5.length < 17592186044416 then (spec_PagesWith.l0 k x0 x1 (x5 ++ [x6]) (wrap64 (x6 + 1))) else (none)) else (spec_PagesWith.l0 k x0 x1 x5 (wrap64 (x6 + 1)))) else (none)) else (some x5)
def spec_PagesWith.f (k : Nat) (l0 : List Int) (a1 : Int) : Option (List Int) := spec_PagesWith.l0 k l0 a1 (([] : List Int)) 0
theorem spec_PagesWith.mono_l : ∀ k, (∀ y0 y1 y2 y3, LeO (spec_PagesWith.l0 k y0 y1 y2 y3) (spec_PagesWith.l0 (k + 1) y0 y1 y2 y3))
 | 0 => fun _ _ _ _ r h => by simp [spec_PagesWith.l0] at h
 | k + 1 => by
  have ih0 := spec_PagesWith.mono_l k
  ·intro y0 y1 y2 y3
   unfold spec_PagesWith.l0
   repeat' first
   | (with_reducible exact ih0 ..)
   | (with_reducible exact LeO.refl _)
   | (with_reducible exact LeO.none _)
   | (with_reducible refine LeO.ite ?_ ?_)
   | (with_reducible refine LeO.bind ?_ (fun _ => ?_))
   | exact ih0 ..
   | exact LeO.none _
   | refine LeO.ite ?_ ?_
   | refine LeO.bind ?_ (fun _ => ?_)
theorem spec_PagesWith.mono : ∀ a0 a1 k, LeO (spec_PagesWith.f k a0 a1) (spec_PagesWith.f (k + 1) a0 a1) := by
 intro a0 a1 k
 have ih0 := spec_PagesWith.mono_l k
 unfold spec_PagesWith.f
 repeat' first
   | (with_reducible exact ih0 ..)
   | (with_reducible exact LeO.refl _)
   | (with_reducible exact LeO.none _)
   | (with_reducible refine LeO.ite ?_ ?_)
   | (with_reducible refine LeO.bind ?_ (fun _ => ?_))
   | exact ih0 ..
   | exact LeO.none _
   | refine LeO.ite ?_ ?_
   | refine LeO.bind ?_ (fun _ => ?_)
set_option maxHeartbeats 8000000 in
set_option maxRecDepth 100000 in
theorem spec_PagesWith.calls (k : Nat) (A0 : Option Addr) (c0 : Nat) (l0 : List Int) (a1 : Int) (r : List Int) (w : World) (hr0 : Kd.C (Kd.int .i64) w A0 l0.length l0) (hc0 : l0.length ≤ c0) (h : spec_PagesWith.f k l0 a1 = some r) :
  Calls Try.prog 66 #[.slice A0 l0.length c0, .int .i64 a1] w fun e w' => ∃ v0_ : Value, e = .returned (v0_) ∧ Kd.R (Kd.int .i64) 3 w' w.heap.size (fun _ => True) v0_ r ∧ Below w.heap.size w w' := by
 have HR0 := Aside0.mk hr0
 have HC0 := Aside0.mk hc0
 clear hr0 hc0
 have HB := Aside0.mk (Below.refl w.heap.size w)
 have H : (spec_PagesWith.l0 k l0 a1 (([] : List Int)) 0) = some r := h
 clear h
 obtain ⟨y279, hy279⟩ : ∃ y_ : List Int, y_ = (([] : List Int)) := ⟨_, rfl⟩
 replace H : (spec_PagesWith.l0 k l0 a1 y279 0) = some r := by first | (rw [hy279]; with_reducible exact H) | (have H2_ := (Option.bind_some _ _).symm.trans H; rw [hy279]; with_reducible exact H2_) | (have H2_ := (Option.bind_some _ _).symm.trans H; with_reducible exact H2_) | with_reducible exact H | (rw [hy279]; exact H) | exact H
 have Ny279 := Aside0.mk hy279
 clear hy279
 have H' := Aside0.mk H
 clear H
 go_enter Try.func66, Try.ntmps66
 go_wp2_with (first | ((with_reducible refine gate_dst (N := 7) rfl ?_); refine Kd.R_lit (Kd.int .i64) _ 3 ?hg (N := 7) ?hd (xs := ([] : List Int)) (inner := []) (ok := fun _ => True) (okp := fun _ => True) ?hr ?hp (fun _ hk => hk) trivial (Below.refl _ _) (Nat.le_refl _) (by simp) ?_; (case hd => rfl); (case hg => rfl); (case hr => first | (go_simp; done) | (go_simp; rfl)); (case hp => exact (Reps.none _ _)); intro v280 w3 ho4 hb hg_ hnew_; clear hg_ hnew_; (first | rw [← Ny279.out] at ho4 | (simp only [Int.reduceToNat] at ho4; rw [← Ny279.out] at ho4)); have z_ := p_ (Kd.R_lower ho4 (below_size tq_0)) <| a_ (below_step tq_0 hb); clear HB; obtain ⟨HO281, HB⟩ := z_; clear hb ho4))
 go_loopg [5, 6] k (fun kq v5 v6 w' => ∃ (x5_1 : List Int) (x6_1 : Int), v6 = .int .i64 x6_1 ∧ Aside0 (spec_PagesWith.l0 kq l0 a1 x5_1 x6_1 = some r) ∧ Aside0 (kq ≤ k) ∧ Aside0 (Kd.R (Kd.int .i64) 3 w' w.heap.size (fun _ => True) v5 x5_1) ∧ Aside0 (Below w.heap.size w w'))
 case atStart => exact ⟨(y279), (0), tq_16, H', ⟨Nat.le_refl _⟩, ⟨(by (with_reducible repeat (first | apply Kd.R_alloc | apply Kd.R_drewN | apply Kd.R_drew)); exact HO281.out)⟩, ⟨tq_0⟩⟩
 case round =>
  clear H'
  try clear p2
  obtain ⟨x5_1, x6_1, rfl, HA, HK1, HO_5, HB⟩ := hrel
  cases gk with
  | zero => exact absurd HA.out (by simp [spec_PagesWith.l0])
  | succ k1 =>
   have H := HA.out
   clear HA
   simp only [spec_PagesWith.l0] at H
   by_cases c5 : x6_1 < (l0.length : Int)
   ·rw [if_pos c5] at H
    have c5b0 : decide (x6_1 < (l0.length : Int)) = true := decide_eq_true c5
    clear c5
    by_cases c6 : 0 ≤ x6_1
    ·rw [if_pos c6] at H
     have c6b0 : decide (0 ≤ x6_1) = true := decide_eq_true c6
     clear c6
     by_cases c7 : (rd l0 x6_1) = a1
     ·rw [if_pos c7] at H
      have c7b0 : ((rd l0 x6_1) == a1) = true := beq_iff_eq.mpr c7
      have c7b1 : ((rd l0 x6_1) != a1) = false := bne_eq_false_iff_eq.mpr c7
      clear c7
      by_cases c8 : x5_1.length < 17592186044416
      ·rw [if_pos c8] at H
       have LMc8 := Aside0.mk c8
       clear c8
       obtain ⟨y283, hy283⟩ : ∃ y_ : List Int, y_ = (x5_1 ++ [x6_1]) := ⟨_, rfl⟩
       replace H : (spec_PagesWith.l0 k1 l0 a1 y283 (wrap64 (x6_1 + 1))) = some r := by first | (rw [hy283]; with_reducible exact H) | (have H2_ := (Option.bind_some _ _).symm.trans H; rw [hy283]; with_reducible exact H2_) | (have H2_ := (Option.bind_some _ _).symm.trans H; with_reducible exact H2_) | with_reducible exact H | (rw [hy283]; exact H) | exact H
       have Ny283 := Aside0.mk hy283
       clear hy283
       have H' := Aside0.mk H
       clear H
       have p282 : 0 ≤ (x6_1 : Int) := of_decide_eq_true tq_14
       have q282 : x6_1 < (l0.length : Int) := of_decide_eq_true tq_14
       obtain ⟨ad282, e282, hx282_0⟩ := Kd.at_int HR0.out x6_1 p282 q282
       cases e282
       replace hx282_0 := hx_ HB.out hx282_0
       replace p282 := eq_true p282
       replace q282 := eq_true q282
       go_wp2_with (first | ((with_reducible refine gate_builtin (b := .append) (xs := #[.tmp 20, .tmp 22]) rfl ?_); at_builtin; refine Kd.R_append (Kd.int .i64) (w0 := w) w.heap.size rfl (.tmp 20) (.tmp 22) 66 3 (.int .i64 0) 8 rfl Try.underlying66 info3 rfl (by decide) (by omega) u5 x5_1 x6_1 [.int .i64 x6_1] (fun _ => True) (fun _ => False) rfl rfl ?aP (fun _ hk => hk.elim) ?aF ?aO ?aB ?aS ?aL ?_; (case aP => exact rfl); (case aB => exact tq_0); (case aF => exact (fun _ _ => trivial)); (case aO => exact tq_33); (case aS => exact (below_size tq_0)); (case aL => have := LMc8.out; omega); intro v284 w9 ho hb hg hat; rw [← Ny283.out] at ho; have z_ := p_ (hb) <| a_ (ho); clear HB HO_5; obtain ⟨HB, HO285⟩ := z_; clear ho hb hg hat))
       go_roundg k1
       case measure => have := HK1.out; omega
       case rel => exact ⟨(y283), (wrap64 (x6_1 + 1)), tq_16, H', ⟨tq_35⟩, ⟨(by (with_reducible repeat (first | apply Kd.R_alloc | apply Kd.R_drewN | apply Kd.R_drew)); exact HO285.out)⟩, ⟨tq_0⟩⟩
      ·rw [if_neg c8] at H
       exact absurd H (by simp)
     ·rw [if_neg c7] at H
      have c7b0 : ((rd l0 x6_1) == a1) = false := beq_eq_false_iff_ne.mpr c7
      have c7b1 : ((rd l0 x6_1) != a1) = true := bne_iff_ne.mpr c7
      have H' := Aside0.mk H
      clear H
      have p282 : 0 ≤ (x6_1 : Int) := of_decide_eq_true tq_14
      have q282 : x6_1 < (l0.length : Int) := of_decide_eq_true tq_14
      obtain ⟨ad282, e282, hx282_0⟩ := Kd.at_int HR0.out x6_1 p282 q282
      cases e282
      replace hx282_0 := hx_ HB.out hx282_0
      replace p282 := eq_true p282
      replace q282 := eq_true q282
      go_wp2
      go_roundg k1
      case measure => have := HK1.out; omega
      case rel => exact ⟨(x5_1), (wrap64 (x6_1 + 1)), tq_16, H', ⟨tq_35⟩, ⟨tq_33⟩, ⟨tq_0⟩⟩
    ·rw [if_neg c6] at H
     exact absurd H (by simp)
   ·rw [if_neg c5] at H
    have c5b0 : decide (x6_1 < (l0.length : Int)) = false := decide_eq_false c5
    clear c5
    obtain rfl := Option.some.inj H
    go_wp2
    go_ret
    exact ⟨_, tq_13, tq_33, tq_0⟩

end Go.Proofs.Ytcdnfkoahajhhaa.PFnStates
