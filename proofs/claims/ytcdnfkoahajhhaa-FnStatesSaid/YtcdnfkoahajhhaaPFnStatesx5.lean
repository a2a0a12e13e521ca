/- Contracts of Go functions, written by a program of ours over the print of the kit: each says that the call returns what the Lean function beside it computes. Conditions: as each theorem states them. -/
import Derived.Test.YtcdnfkoahajhhaaPkFnStates
import Derived.Test.YtcdnfkoahajhhaaPFnStatesx0
import Derived.Test.YtcdnfkoahajhhaaPFnStatesx1
import Derived.Test.YtcdnfkoahajhhaaPFnStatesx2
import Derived.Test.YtcdnfkoahajhhaaPFnStatesx3
import Derived.Test.YtcdnfkoahajhhaaPFnStatesx4
namespace Go.Proofs.Ytcdnfkoahajhhaa.PFnStates
open Go.RowKit Go.Proofs.YtcdnfkoahajhhaaW.PrintWords Go.Proofs.YtcdnfkoahajhhaaW.PrintLast Go.Proofs.YtcdnfkoahajhhaaW.PrintMore
attribute [local go_sem] max2_int min2_int max_two min_two max_three min_three max_four min_four   -- for this text's walks alone
set_option linter.unusedVariables false
set_option linter.unusedSimpArgs false

theorem more_ {P : Program} {ops : Array Oper} {Q : Exit → Act → World → Prop} {md : Region.Mode} {S S' : World → Prop} (h : ∀ w, S' w → S w) : ∀ (n : Nat) (l : Array Bool) (a : Act) (w : World), S' w → wpAnyLast P md ops Q S' [] n l a w → wpAnyLast P md ops Q S [] n l a w
 | 0, _, _, _, _, k => k
 | n + 1, l, a, w, hw, k => ⟨k.1, fun i hi => wpOp_mono (fun a' w' h' => ⟨fun _ _ => h w' (h'.1 (by simp) hw), more_ h n _ a' w' (h'.1 (by simp) hw) h'.2⟩) (k.2 i hi)⟩

/-! ### laws_FnStates: function 11 -/
mutual
def laws_FnStates.j0 : Nat → List Int → Option (Bool)
 | 0, _ => none
 | k + 1, x0 => (spec_DrawWithState.f k x0).bind fun bt287 => ((impl_WithState.f k bt287.1 bt287.2.1 bt287.2.2).bind fun t294 => ((spec_WithState.f k bt287.1 bt287.2.1 bt287.2.2).bind fun t297 => ((laws_sameInts.f k t294 t297).bind fun t300 => (if t300 = true then (laws_FnStates.j1 k bt287.1) else (some false)))))
def laws_FnStates.j1 : Nat → List Int → Option (Bool)
 | 0, _ => none
 | k + 1, x3 => (spec_StatesOk.f k x3 (x3.length : Int)).bind fun t301 => (if t301 = true then (laws_FnStates.j2 k x3) else ((impl_StatesWords.f k x3).bind fun t302 => (if (t302.length : Int) = 0 then ((impl_StatesWords.f k (([0] : List Int))).bind fun t308 => (some ((t308.length : Int) == 2))) else (some false))))
def laws_FnStates.j2 : Nat → List Int → Option (Bool)
 | 0, _ => none
 | k + 1, x3 => (impl_StatesWords.f k x3).bind fun t311 => ((impl_ReadStates.f k t311 (x3.length : Int)).bind fun bt314 => ((impl_PagesWith.f k x3 0).bind fun t318 => ((impl_PagesWith.f k x3 1).bind fun t321 => ((impl_PagesWith.f k x3 2).bind fun t324 => ((impl_FirstClean.f k x3 1).bind fun bt327 => (if bt314.2 = true then ((laws_sameInts.f k bt314.1 x3).bind fun t331 => (if t331 = true then (if (wrap64 ((wrap64 ((t318.length : Int) + (t321.length : Int))) + (t324.length : Int))) = (x3.length : Int) then ((spec_PagesWith.f k x3 0).bind fun t332 => (if (bt327.2 == (decide ((t332.length : Int) > 0))) = true then (if bt327.2 = true then (if (bt327.1.length : Int) = 1 then (if 0 < (bt327.1.length : Int) then ((spec_PagesWith.f k x3 0).bind fun t336 => (if 0 < (t336.length : Int) then (if (rd bt327.1 0) = (rd t336 0) then ((impl_StatesOk.f k x3 (x3.length : Int)).bind fun t340 => (some t340)) else (some false)) else (none))) else (none)) else (some false)) else ((impl_StatesOk.f k x3 (x3.length : Int)).bind fun t341 => (some t341))) else (some false))) else (some false)) else (some false))) else (some false)))))))
end
def laws_FnStates.f (k : Nat) (l0 : List Int) : Option (Bool) := (laws_big.f l0).bind fun t286 => (if t286 = true then (some true) else (laws_FnStates.j0 k l0))
theorem laws_FnStates.mono_l : ∀ k, (∀ y0, LeO (laws_FnStates.j0 k y0) (laws_FnStates.j0 (k + 1) y0)) ∧ (∀ y0, LeO (laws_FnStates.j1 k y0) (laws_FnStates.j1 (k + 1) y0)) ∧ (∀ y0, LeO (laws_FnStates.j2 k y0) (laws_FnStates.j2 (k + 1) y0))
 | 0 => ⟨fun _ r h => by simp [laws_FnStates.j0] at h, fun _ r h => by simp [laws_FnStates.j1] at h, fun _ r h => by simp [laws_FnStates.j2] at h⟩
 | k + 1 => by
  obtain ⟨ih0, ih1, ih2⟩ := laws_FnStates.mono_l k
  refine ⟨?_, ?_, ?_⟩
  ·intro y0
   unfold laws_FnStates.j0
   repeat' first
   | (with_reducible exact ih0 _)
   | (with_reducible exact ih1 _)
   | (with_reducible exact ih2 _)
   | (with_reducible exact impl_FirstClean.mono ..)
   | (with_reducible exact impl_PagesWith.mono ..)
   | (with_reducible exact impl_ReadStates.mono ..)
   | (with_reducible exact impl_StatesOk.mono ..)
   | (with_reducible exact impl_StatesWords.mono ..)
   | (with_reducible exact impl_WithState.mono ..)
   | (with_reducible exact laws_sameInts.mono ..)
   | (with_reducible exact spec_DrawWithState.mono ..)
   | (with_reducible exact spec_PagesWith.mono ..)
   | (with_reducible exact spec_StatesOk.mono ..)
   | (with_reducible exact spec_WithState.mono ..)
   | (with_reducible exact LeO.refl _)
   | (with_reducible exact LeO.none _)
   | (with_reducible refine LeO.ite ?_ ?_)
   | (with_reducible refine LeO.bind ?_ (fun _ => ?_))
   | exact ih0 _
   | exact ih1 _
   | exact ih2 _
   | exact impl_FirstClean.mono ..
   | exact impl_PagesWith.mono ..
   | exact impl_ReadStates.mono ..
   | exact impl_StatesOk.mono ..
   | exact impl_StatesWords.mono ..
   | exact impl_WithState.mono ..
   | exact laws_sameInts.mono ..
   | exact spec_DrawWithState.mono ..
   | exact spec_PagesWith.mono ..
   | exact spec_StatesOk.mono ..
   | exact spec_WithState.mono ..
   | exact LeO.none _
   | refine LeO.ite ?_ ?_
   | refine LeO.bind ?_ (fun _ => ?_)
  ·intro y0
   unfold laws_FnStates.j1
   repeat' first
   | (with_reducible exact ih0 _)
   | (with_reducible exact ih1 _)
   | (with_reducible exact ih2 _)
   | (with_reducible exact impl_FirstClean.mono ..)
   | (with_reducible exact impl_PagesWith.mono ..)
   | (with_reducible exact impl_ReadStates.mono ..)
   | (with_reducible exact impl_StatesOk.mono ..)
   | (with_reducible exact impl_StatesWords.mono ..)
   | (with_reducible exact impl_WithState.mono ..)
   | (with_reducible exact laws_sameInts.mono ..)
   | (with_reducible exact spec_DrawWithState.mono ..)
   | (with_reducible exact spec_PagesWith.mono ..)
   | (with_reducible exact spec_StatesOk.mono ..)
   | (with_reducible exact spec_WithState.mono ..)
   | (with_reducible exact LeO.refl _)
   | (with_reducible exact LeO.none _)
   | (with_reducible refine LeO.ite ?_ ?_)
   | (with_reducible refine LeO.bind ?_ (fun _ => ?_))
   | exact ih0 _
   | exact ih1 _
   | exact ih2 _
   | exact impl_FirstClean.mono ..
   | exact impl_PagesWith.mono ..
   | exact impl_ReadStates.mono ..
   | exact impl_StatesOk.mono ..
   | exact impl_StatesWords.mono ..
   | exact impl_WithState.mono ..
   | exact laws_sameInts.mono ..
   | exact spec_DrawWithState.mono ..
   | exact spec_PagesWith.mono ..
   | exact spec_StatesOk.mono ..
   | exact spec_WithState.mono ..
   | exact LeO.none _
   | refine LeO.ite ?_ ?_
   | refine LeO.bind ?_ (fun _ => ?_)
  ·intro y0
   unfold laws_FnStates.j2
   repeat' first
   | (with_reducible exact ih0 _)
   | (with_reducible exact ih1 _)
   | (with_reducible exact ih2 _)
   | (with_reducible exact impl_FirstClean.mono ..)
   | (with_reducible exact impl_PagesWith.mono ..)
   | (with_reducible exact impl_ReadStates.mono ..)
   | (with_reducible exact impl_StatesOk.mono ..)
   | (with_reducible exact impl_StatesWords.mono ..)
   | (with_reducible exact impl_WithState.mono ..)
   | (with_reducible exact laws_sameInts.mono ..)
   | (with_reducible exact spec_DrawWithState.mono ..)
   | (with_reducible exact spec_PagesWith.mono ..)
   | (with_reducible exact spec_StatesOk.mono ..)
   | (with_reducible exact spec_WithState.mono ..)
   | (with_reducible exact LeO.refl _)
   | (with_reducible exact LeO.none _)
   | (with_reducible refine LeO.ite ?_ ?_)
   | (with_reducible refine LeO.bind ?_ (fun _ => ?_))
   | exact ih0 _
   | exact ih1 _
   | exact ih2 _
   | exact impl_FirstClean.mono ..
   | exact impl_PagesWith.mono ..
   | exact impl_ReadStates.mono ..
   | exact impl_StatesOk.mono ..
   | exact impl_StatesWords.mono ..
   | exact impl_WithState.mono ..
   | exact laws_sameInts.mono ..
   | exact spec_DrawWithState.mono ..
   | exact spec_PagesWith.mono ..
   | exact spec_StatesOk.mono ..
   | exact spec_WithState.mono ..
   | exact LeO.none _
   | refine LeO.ite ?_ ?_
   | refine LeO.bind ?_ (fun _ => ?_)
theorem laws_FnStates.mono : ∀ a0 k, LeO (laws_FnStates.f k a0) (laws_FnStates.f (k + 1) a0) := by
 intro a0 k
 obtain ⟨ih0, ih1, ih2⟩ := laws_FnStates.mono_l k
 unfold laws_FnStates.f
 repeat' first
   | (with_reducible exact ih0 _)
   | (with_reducible exact ih1 _)
   | (with_reducible exact ih2 _)
   | (with_reducible exact impl_FirstClean.mono ..)
   | (with_reducible exact impl_PagesWith.mono ..)
   | (with_reducible exact impl_ReadStates.mono ..)
   | (with_reducible exact impl_StatesOk.mono ..)
   | (with_reducible exact impl_StatesWords.mono ..)
   | (with_reducible exact impl_WithState.mono ..)
   | (with_reducible exact laws_sameInts.mono ..)
   | (with_reducible exact spec_DrawWithState.mono ..)
   | (with_reducible exact spec_PagesWith.mono ..)
   | (with_reducible exact spec_StatesOk.mono ..)
   | (with_reducible exact spec_WithState.mono ..)
   | (with_reducible exact LeO.refl _)
   | (with_reducible exact LeO.none _)
   | (with_reducible refine LeO.ite ?_ ?_)
   | (with_reducible refine LeO.bind ?_ (fun _ => ?_))
   | exact ih0 _
   | exact ih1 _
   | exact ih2 _
   | exact impl_FirstClean.mono ..
   | exact impl_PagesWith.mono ..
   | exact impl_ReadStates.mono ..
   | exact impl_StatesOk.mono ..
   | exact impl_StatesWords.mono ..
   | exact impl_WithState.mono ..
   | exact laws_sameInts.mono ..
   | exact spec_DrawWithState.mono ..
   | exact spec_PagesWith.mono ..
   | exact spec_StatesOk.mono ..
   | exact spec_WithState.mono ..
   | exact LeO.none _
   | refine LeO.ite ?_ ?_
   | refine LeO.bind ?_ (fun _ => ?_)
def laws_FnStates.T12 : Bool × List (List Nat × List Nat) := (true, [([], []), ([0], [0]), ([1], [1]), ([1], [1]), ([2, 3, 1, 1], [1, 2, 3]), ([1, 4], [1, 4]), ([5, 4], [5]), ([6], [6]), ([6], [6]), ([8, 6], [6, 8]), ([7, 9, 6], [6, 7, 9]), ([6, 10], [6, 10]), ([11, 6], [11]), ([12], [12]), ([12], [12]), ([14, 12, 12], [12, 14]), ([15, 12], [12, 15]), ([16, 12], [12, 16]), ([13, 17, 12], [12, 13, 17]), ([12, 18], [12, 18]), ([19, 15], [19]), ([20], [20]), ([21, 20], [20, 21]), ([22, 20, 20], [20, 22]), ([23], [23]), ([24, 23], [23, 24]), ([25, 23], [23, 25]), ([26, 23, 23], [23, 26]), ([27], [27]), ([28, 27], [27, 28]), ([29, 27], [27, 29]), ([27], [27]), ([31, 27, 27], [27, 31]), ([32, 27], [27, 32]), ([33, 27], [27, 33]), ([30, 34, 27], [27, 30, 34]), ([27, 35, 23], [23, 27, 35]), ([23, 36, 20], [20, 23, 36]), ([20, 37], [20, 37]), ([38, 32], [38]), ([39], [39]), ([39], [39]), ([41, 39], [39, 41]), ([40, 42, 39, 39], [39, 40, 42]), ([39, 43], [39, 43]), ([44, 43, 0, 1, 2, 3, 4, 5, 6, 7, 8, 9, 10, 11, 12, 13, 14, 15, 16, 17, 18, 19, 20, 21, 22, 23, 24, 25, 26, 27, 28, 29, 30, 31, 32, 33, 34, 35, 36, 37, 38, 39, 40, 41, 42, 43, 44], [44])])
def laws_FnStates.B12 : List Nat := [0, 1, 3, 3, 15, 31, 63, 127, 127, 383, 1023, 2047, 4095, 8191, 8191, 24575, 57343, 122879, 262143, 524287, 1048575, 2097151, 4194303, 8388607, 16777215, 33554431, 67108863, 134217727, 268435455, 536870911, 1073741823, 268435455, 2415919103, 6710886399, 15300820991, 34359738367, 68719476735, 137438953471, 274877906943, 549755813887, 1099511627775, 1099511627775, 3298534883327, 8796093022207, 17592186044415, 35184372088831]
theorem laws_FnStates.tab12 : rtab .any (opsOf Try.f11 12) = laws_FnStates.T12 := by kernel_rfl
theorem laws_FnStates.bits12 : waitsOk laws_FnStates.T12.2 laws_FnStates.B12 = true := by kernel_rfl
set_option maxHeartbeats 8000000 in
set_option maxRecDepth 100000 in
theorem laws_FnStates.calls (k : Nat) (A0 : Option Addr) (c0 : Nat) (l0 : List Int) (r : Bool) (w : World) (hr0 : Kd.C (Kd.int .u8) w A0 l0.length l0) (hc0 : l0.length ≤ c0) (h : laws_FnStates.f k l0 = some r) :
  Calls Try.prog 11 #[.slice A0 l0.length c0] w fun e w' => e = .returned (.bool r) ∧ Below w.heap.size w w' := by
 have HR0 := Aside0.mk hr0
 have HC0 := Aside0.mk hc0
 clear hr0 hc0
 have HB := Aside0.mk (Below.refl w.heap.size w)
 have H : ((laws_big.f l0).bind fun t286 => (if t286 = true then (some true) else (laws_FnStates.j0 k l0))) = some r := h
 clear h
 replace H := Option.bind_eq_some_iff.mp H
 obtain ⟨t286, A20, H⟩ := H
 replace H : (if t286 = true then (some true) else (laws_FnStates.j0 k l0)) = some r := H
 have A2 := Aside0.mk A20
 clear A20
 have HC3 := Aside0.mk H
 clear H
 go_enter Try.func11, Try.ntmps11
 go_upto_if 13 with (first | ((with_reducible refine gate_callee (f := 37) rfl ?_); refine goesL_ (some 13) rfl rfl Try.func37 (by kernel_rfl) rfl #[.slice A0 l0.length c0] rfl tq_1 ?_; (with_reducible refine (laws_big.calls _ _ l0 t286 _ ?side1 ?side2 A2.out).mono ?_); (case side1 => exact tq_24); (case side2 => exact HC0.out); rintro e w' ⟨rfl, ⟨nd, rfl⟩⟩; refine ⟨_, rfl, ?_⟩))
 (try simp only [Act.put, List.setIfInBounds_toArray, List.set_cons_zero, List.set_cons_succ])
 go_cut [] (fun wc => ∃ (kq : Nat), Aside0 (laws_FnStates.j0 kq l0 = some r) ∧ Aside0 (kq ≤ k) ∧ Aside0 (Below w.heap.size w wc))
 case first =>
  have H := HC3.out
  clear HC3
  by_cases c4 : t286 = true
  ·subst c4
   have H1 : (some true) = some r := by rw [if_pos rfl] at H; exact H
   clear H
   have H := H1
   clear H1
   obtain rfl := Option.some.inj H
   go_wp2
   go_ret
   exact ⟨tq_13, tq_0⟩
  ·replace c4 := Bool.eq_false_iff.mpr c4
   subst c4
   have H1 : (laws_FnStates.j0 k l0) = some r := by rw [if_neg (show ¬ (false = true) by decide)] at H; exact H
   clear H
   have H := H1
   clear H1
   have H' := Aside0.mk H
   clear H
   go_wp2
   go_meet
   case rel => exact ⟨_, H', ⟨tq_43⟩, ⟨tq_0⟩⟩
 case rest =>
  clear HC3
  try clear c1
  try clear p2
  try clear c3
  try clear c4
  obtain ⟨kq, HA, HJ2, HB⟩ := hcut
  cases kq with
  | zero => exact absurd HA.out (by simp [laws_FnStates.j0])
  | succ kj2 =>
   have H := HA.out
   clear HA
   simp only [laws_FnStates.j0] at H
   replace H := Option.bind_eq_some_iff.mp H
   obtain ⟨⟨t287, t288, t289⟩, A50, H⟩ := H
   replace H : ((impl_WithState.f kj2 t287 t288 t289).bind fun t294 => ((spec_WithState.f kj2 t287 t288 t289).bind fun t297 => ((laws_sameInts.f kj2 t294 t297).bind fun t300 => (if t300 = true then (laws_FnStates.j1 kj2 t287) else (some false))))) = some r := H
   have A5 := Aside0.mk A50
   clear A50
   replace H := Option.bind_eq_some_iff.mp H
   obtain ⟨t294, A60, H⟩ := H
   replace H : ((spec_WithState.f kj2 t287 t288 t289).bind fun t297 => ((laws_sameInts.f kj2 t294 t297).bind fun t300 => (if t300 = true then (laws_FnStates.j1 kj2 t287) else (some false)))) = some r := H
   have A6 := Aside0.mk A60
   clear A60
   replace H := Option.bind_eq_some_iff.mp H
   obtain ⟨t297, A70, H⟩ := H
   replace H : ((laws_sameInts.f kj2 t294 t297).bind fun t300 => (if t300 = true then (laws_FnStates.j1 kj2 t287) else (some false))) = some r := H
   have A7 := Aside0.mk A70
   clear A70
   replace H := Option.bind_eq_some_iff.mp H
   obtain ⟨t300, A80, H⟩ := H
   replace H : (if t300 = true then (laws_FnStates.j1 kj2 t287) else (some false)) = some r := H
   have A8 := Aside0.mk A80
   clear A80
   have HC9 := Aside0.mk H
   clear H
   go_upto_if 30 with (first | ((with_reducible refine gate_callee (f := 57) rfl ?_); refine goesL_ (some 16) rfl rfl Try.func57 (by kernel_rfl) rfl #[.slice A0 l0.length c0] rfl tq_1 ?_; (with_reducible refine (spec_DrawWithState.calls kj2 _ _ l0 t287 t288 t289 _ ?side1 ?side2 A5.out).mono ?_); (case side1 => exact tq_22); (case side2 => exact HC0.out); rintro e w10 ⟨v290, v292, rfl, ho0, ho1, hb⟩; refine ⟨_, rfl, ?_⟩; have z_ := p_ (Kd.R_lower ho0 (below_size tq_0)) <| p_ (Kd.R_lower ho1 (below_size tq_0)) <| a_ (below_step tq_0 hb); clear HB; obtain ⟨HO291, HO293, HB⟩ := z_; (try clear hb); (try clear hb2); (try clear hk); (try clear hi); (try clear ho0); (try clear ho1); obtain ⟨Ao11, co11, eo11⟩ := Kd.R_slice HO291.out; subst eo11; obtain ⟨Ao12, co12, eo12⟩ := Kd.R_slice HO293.out; subst eo12) | ((with_reducible refine gate_callee (f := 58) rfl ?_); refine goesL_ (some 23) rfl rfl Try.func58 (by kernel_rfl) rfl #[.slice Ao11 t287.length co11, .slice Ao12 t288.length co12, .int .i64 t289] rfl tq_1 ?_; (with_reducible refine (impl_WithState.calls kj2 _ _ t287 _ _ t288 t289 t294 _ ?side1 ?side2 ?side3 ?side4 A6.out).mono ?_); (case side1 => exact tq_42); (case side2 => exact (Kd.R_reads' HO291.out).2.1); (case side3 => exact tq_41); (case side4 => exact (Kd.R_reads' HO293.out).2.1); rintro e w13 ⟨v295, rfl, ho0, hb⟩; refine ⟨_, rfl, ?_⟩; have z_ := p_ (Kd.R_elder' tq_38 (Kd.R_base ho0) hb) <| p_ (Kd.R_elder' tq_37 (Kd.R_base ho0) hb) <| p_ (Kd.R_lower (Kd.R_new' (Kd.R_new' ho0 (Kd.R_lt tq_38)) (Kd.R_lt tq_37)) (below_size tq_0)) <| a_ (below_step tq_0 hb); clear HO291 HO293 HB; obtain ⟨HO291, HO293, HO296, HB⟩ := z_; (try clear hb); (try clear hb2); (try clear hk); (try clear hi); (try clear ho0)) | ((with_reducible refine gate_callee (f := 60) rfl ?_); refine goesL_ (some 28) rfl rfl Try.func60 (by kernel_rfl) rfl #[.slice Ao11 t287.length co11, .slice Ao12 t288.length co12, .int .i64 t289] rfl tq_1 ?_; (with_reducible refine (spec_WithState.calls kj2 _ _ t287 _ _ t288 t289 t297 _ ?side1 ?side2 ?side3 ?side4 A7.out).mono ?_); (case side1 => exact tq_42); (case side2 => exact (Kd.R_reads' HO291.out).2.1); (case side3 => exact tq_41); (case side4 => exact (Kd.R_reads' HO293.out).2.1); rintro e w14 ⟨v298, rfl, ho0, hb⟩; refine ⟨_, rfl, ?_⟩; have z_ := p_ (Kd.R_elder' tq_38 (Kd.R_base ho0) hb) <| p_ (Kd.R_elder' tq_37 (Kd.R_base ho0) hb) <| p_ (Kd.R_elder' (by (with_reducible repeat (first | apply Kd.R_alloc | apply Kd.R_drewN | apply Kd.R_drew)); exact HO296.out) (Kd.R_base ho0) hb) <| p_ (Kd.R_lower (Kd.R_new' (Kd.R_new' (Kd.R_new' ho0 (Kd.R_lt tq_38)) (Kd.R_lt tq_37)) (Kd.R_lt (by (with_reducible repeat (first | apply Kd.R_alloc | apply Kd.R_drewN | apply Kd.R_drew)); exact HO296.out))) (below_size tq_0)) <| a_ (below_step tq_0 hb); clear HO291 HO293 HO296 HB; obtain ⟨HO291, HO293, HO296, HO299, HB⟩ := z_; (try clear hb); (try clear hb2); (try clear hk); (try clear hi); (try clear ho0); obtain ⟨Ao15, co15, eo15⟩ := Kd.R_slice HO296.out; subst eo15; obtain ⟨Ao16, co16, eo16⟩ := Kd.R_slice HO299.out; subst eo16) | ((with_reducible refine gate_callee (f := 59) rfl ?_); refine goesL_ (some 29) rfl rfl Try.func59 (by kernel_rfl) rfl #[.slice Ao15 t294.length co15, .slice Ao16 t297.length co16] rfl tq_1 ?_; (with_reducible refine (laws_sameInts.calls kj2 _ _ t294 _ _ t297 t300 _ ?side1 ?side2 ?side3 ?side4 A8.out).mono ?_); (case side1 => repeat (first | exact (Kd.R_reads' HO296.out).2.2 | (with_reducible refine Kd.C_alloc ?_ _) | (with_reducible refine Kd.C_drewN ?_ _) | (with_reducible refine Kd.C_drew ?_))); (case side2 => exact (Kd.R_reads' HO296.out).2.1); (case side3 => repeat (first | exact (Kd.R_reads' HO299.out).2.2 | (with_reducible refine Kd.C_alloc ?_ _) | (with_reducible refine Kd.C_drewN ?_ _) | (with_reducible refine Kd.C_drew ?_))); (case side4 => exact (Kd.R_reads' HO299.out).2.1); rintro e w' ⟨rfl, ⟨nd, rfl⟩⟩; refine ⟨_, rfl, ?_⟩))
   (try simp only [Act.put, List.setIfInBounds_toArray, List.set_cons_zero, List.set_cons_succ])
   go_cut [] (fun wc => ∃ (kq : Nat), Aside0 (laws_FnStates.j1 kq t287 = some r) ∧ Aside0 (kq ≤ kj2) ∧ Aside0 (Kd.R (Kd.int .i64) 3 wc w.heap.size (fun _ => True) (.slice Ao11 t287.length co11) t287) ∧ Aside0 (Below w.heap.size w wc))
   case first =>
    have H := HC9.out
    clear HC9
    by_cases c17 : t300 = true
    ·subst c17
     have H1 : (laws_FnStates.j1 kj2 t287) = some r := by rw [if_pos rfl] at H; exact H
     clear H
     have H := H1
     clear H1
     have H' := Aside0.mk H
     clear H
     go_wp2
     go_meet
     case rel => exact ⟨_, H', ⟨(by have := HJ2.out; first | omega | exact Nat.le_refl _)⟩, ⟨(by (with_reducible repeat (first | apply Kd.R_alloc | apply Kd.R_drewN | apply Kd.R_drew)); exact Kd.R_mono HO291.out (fun _ hk => trivial))⟩, ⟨tq_0⟩⟩
    ·replace c17 := Bool.eq_false_iff.mpr c17
     subst c17
     have H1 : (some false) = some r := by rw [if_neg (show ¬ (false = true) by decide)] at H; exact H
     clear H
     have H := H1
     clear H1
     obtain rfl := Option.some.inj H
     go_wp2
     go_ret
     exact ⟨tq_13, tq_0⟩
   case rest =>
    clear HC9
    try clear c1
    try clear p2
    try clear c3
    try clear c4
    try clear c5
    try clear c6
    try clear c11
    try clear c17
    try clear p2
    obtain ⟨kq, HA, HJ8, HO_3, HB⟩ := hcut
    cases kq with
    | zero => exact absurd HA.out (by simp [laws_FnStates.j1])
    | succ kj8 =>
     have H := HA.out
     clear HA
     simp only [laws_FnStates.j1] at H
     replace H := Option.bind_eq_some_iff.mp H
     obtain ⟨t301, A180, H⟩ := H
     replace H : (if t301 = true then (laws_FnStates.j2 kj8 t287) else ((impl_StatesWords.f kj8 t287).bind fun t302 => (if (t302.length : Int) = 0 then ((impl_StatesWords.f kj8 (([0] : List Int))).bind fun t308 => (some ((t308.length : Int) == 2))) else (some false)))) = some r := H
     have A18 := Aside0.mk A180
     clear A180
     have HC19 := Aside0.mk H
     clear H
     go_upto_if 35 with (first | ((with_reducible refine gate_callee (f := 61) rfl ?_); refine goesL_ (some 34) rfl rfl Try.func61 (by kernel_rfl) rfl #[.slice Ao11 t287.length co11, .int .i64 (t287.length : Int)] rfl tq_1 ?_; (with_reducible refine (spec_StatesOk.calls kj8 _ _ t287 (t287.length : Int) t301 _ ?side1 ?side2 A18.out).mono ?_); (case side1 => exact tq_3); (case side2 => exact (Kd.R_reads' HO_3.out).2.1); rintro e w' ⟨rfl, ⟨nd, rfl⟩⟩; refine ⟨_, rfl, ?_⟩))
     (try simp only [Act.put, List.setIfInBounds_toArray, List.set_cons_zero, List.set_cons_succ])
     go_cut [] (fun wc => ∃ (kq : Nat), Aside0 (laws_FnStates.j2 kq t287 = some r) ∧ Aside0 (kq ≤ kj8) ∧ Aside0 (Kd.R (Kd.int .i64) 3 wc w.heap.size (fun _ => True) (.slice Ao11 t287.length co11) t287) ∧ Aside0 (Below w.heap.size w wc))
     case first =>
      have H := HC19.out
      clear HC19
      by_cases c20 : t301 = true
      ·subst c20
       have H1 : (laws_FnStates.j2 kj8 t287) = some r := by rw [if_pos rfl] at H; exact H
       clear H
       have H := H1
       clear H1
       have H' := Aside0.mk H
       clear H
       go_wp2
       go_meet
       case rel => exact ⟨_, H', ⟨(by have := HJ2.out; have := HJ8.out; first | omega | exact Nat.le_refl _)⟩, ⟨tq_2⟩, ⟨tq_0⟩⟩
      ·replace c20 := Bool.eq_false_iff.mpr c20
       subst c20
       have H1 : ((impl_StatesWords.f kj8 t287).bind fun t302 => (if (t302.length : Int) = 0 then ((impl_StatesWords.f kj8 (([0] : List Int))).bind fun t308 => (some ((t308.length : Int) == 2))) else (some false))) = some r := by rw [if_neg (show ¬ (false = true) by decide)] at H; exact H
       clear H
       have H := H1
       clear H1
       replace H := Option.bind_eq_some_iff.mp H
       obtain ⟨t302, A210, H⟩ := H
       replace H : (if (t302.length : Int) = 0 then ((impl_StatesWords.f kj8 (([0] : List Int))).bind fun t308 => (some ((t308.length : Int) == 2))) else (some false)) = some r := H
       have A21 := Aside0.mk A210
       clear A210
       by_cases c22 : (t302.length : Int) = 0
       ·rw [if_pos c22] at H
        have c22b0 : ((t302.length : Int) == 0) = true := beq_iff_eq.mpr c22
        have c22b1 : ((t302.length : Int) != 0) = false := bne_eq_false_iff_eq.mpr c22
        clear c22
        (first | rw [c22b0] | (simp only [i64_w, i32_w]; rw [c22b0]) | skip)
        obtain ⟨y305, hy305⟩ : ∃ y_ : List Int, y_ = (([0] : List Int)) := ⟨_, rfl⟩
        replace H : ((impl_StatesWords.f kj8 y305).bind fun t308 => (some ((t308.length : Int) == 2))) = some r := by first | (rw [hy305]; with_reducible exact H) | (have H2_ := (Option.bind_some _ _).symm.trans H; rw [hy305]; with_reducible exact H2_) | (have H2_ := (Option.bind_some _ _).symm.trans H; with_reducible exact H2_) | with_reducible exact H | (rw [hy305]; exact H) | exact H
        have Ny305 := Aside0.mk hy305
        clear hy305
        replace H := Option.bind_eq_some_iff.mp H
        obtain ⟨t308, A230, H⟩ := H
        replace H : (some ((t308.length : Int) == 2)) = some r := H
        have A23 := Aside0.mk A230
        clear A230
        obtain rfl := Option.some.inj H
        go_wp2_with (first | ((with_reducible refine gate_callee (f := 62) rfl ?_); refine goesL_ (some 37) rfl rfl Try.func62 (by kernel_rfl) rfl #[.slice Ao11 t287.length co11] rfl tq_1 ?_; (with_reducible refine (impl_StatesWords.calls kj8 _ _ t287 t302 _ ?side1 ?side2 A21.out).mono ?_); (case side1 => exact tq_3); (case side2 => exact (Kd.R_reads' HO_3.out).2.1); rintro e w24 ⟨v303, rfl, ho0, hb⟩; refine ⟨_, rfl, ?_⟩; have z_ := p_ (Kd.R_below tq_2 hb) <| p_ (Kd.R_lower ho0 (below_size tq_0)) <| a_ (below_step tq_0 hb); clear HO_3 HB; obtain ⟨HO_3, HO304, HB⟩ := z_; (try clear hb); (try clear hb2); (try clear hk); (try clear hi); (try clear ho0); obtain ⟨Ao25, co25, eo25⟩ := Kd.R_slice HO304.out; subst eo25) | ((with_reducible refine gate_dst (N := 41) rfl ?_); (try (refine gate_guard (by rfl) ?_; dsimp only)); refine Kd.R_lit (Kd.int .i64) _ 3 ?hg (N := 41) ?hd (xs := ([0] : List Int)) (inner := [.int .i64 0]) (ok := fun _ => True) (okp := fun _ => True) ?hr ?hp (fun _ hk => hk) trivial (Below.refl _ _) (Nat.le_refl _) (by simp) ?_; (case hd => rfl); (case hg => rfl); (case hr => first | (go_simp; done) | (go_simp; rfl)); (case hp => exact (Reps.one (show Kd.M (Kd.int .i64) _ _ _ 0 [.int .i64 0] from rfl) (Reps.none _ _))); intro v306 w26 ho27 hb hg_ hnew_; clear hg_ hnew_; (first | rw [← Ny305.out] at ho27 | (simp only [Int.reduceToNat] at ho27; rw [← Ny305.out] at ho27)); have z_ := p_ (Kd.R_elder' tq_2 (Kd.R_base ho27) hb) <| p_ (Kd.R_below tq_39 hb) <| p_ (Kd.R_lower (Kd.R_new' ho27 (Kd.R_lt tq_2)) (below_size tq_0)) <| a_ (below_step tq_0 hb); clear HO_3 HO304 HB; obtain ⟨HO_3, HO304, HO307, HB⟩ := z_; clear hb ho27; obtain ⟨Ao28, co28, eo28⟩ := Kd.R_slice HO307.out; subst eo28) | (go_at_call 62; (with_reducible refine (impl_StatesWords.calls kj8 _ _ y305 t308 _ ?side1 ?side2 A23.out).mono ?_); (case side1 => repeat (first | exact (Kd.R_reads' HO307.out).2.2 | (with_reducible refine Kd.C_alloc ?_ _) | (with_reducible refine Kd.C_drewN ?_ _) | (with_reducible refine Kd.C_drew ?_))); (case side2 => exact (Kd.R_reads' HO307.out).2.1); rintro e w29 ⟨v309, rfl, ho0, hb⟩; have z_ := p_ (Kd.R_below tq_2 hb) <| p_ (Kd.R_elder' tq_39 (Kd.R_base ho0) hb) <| p_ (Kd.R_below (by (with_reducible repeat (first | apply Kd.R_alloc | apply Kd.R_drewN | apply Kd.R_drew)); exact HO307.out) hb) <| p_ (Kd.R_lower (Kd.R_new' ho0 (Kd.R_lt tq_39)) (below_size tq_0)) <| a_ (below_step tq_0 hb); clear HO_3 HO304 HO307 HB; obtain ⟨HO_3, HO304, HO307, HO310, HB⟩ := z_; (try clear hb); (try clear hb2); (try clear hk); (try clear hi); (try clear ho0); obtain ⟨Ao30, co30, eo30⟩ := Kd.R_slice HO310.out; subst eo30))
        go_ret
        exact ⟨tq_13, tq_0⟩
       ·rw [if_neg c22] at H
        have c22b0 : ((t302.length : Int) == 0) = false := beq_eq_false_iff_ne.mpr c22
        have c22b1 : ((t302.length : Int) != 0) = true := bne_iff_ne.mpr c22
        have c22b2 : ¬ (t302 = []) := fun h_ => c22 (by rw [h_]; rfl)
        (first | rw [c22b0] | (simp only [i64_w, i32_w]; rw [c22b0]) | skip)
        obtain rfl := Option.some.inj H
        go_wp2_with (first | ((with_reducible refine gate_callee (f := 62) rfl ?_); refine goesL_ (some 37) rfl rfl Try.func62 (by kernel_rfl) rfl #[.slice Ao11 t287.length co11] rfl tq_1 ?_; (with_reducible refine (impl_StatesWords.calls kj8 _ _ t287 t302 _ ?side1 ?side2 A21.out).mono ?_); (case side1 => exact tq_3); (case side2 => exact (Kd.R_reads' HO_3.out).2.1); rintro e w31 ⟨v303, rfl, ho0, hb⟩; refine ⟨_, rfl, ?_⟩; have z_ := p_ (Kd.R_below tq_2 hb) <| p_ (Kd.R_lower ho0 (below_size tq_0)) <| a_ (below_step tq_0 hb); clear HO_3 HB; obtain ⟨HO_3, HO304, HB⟩ := z_; (try clear hb); (try clear hb2); (try clear hk); (try clear hi); (try clear ho0); obtain ⟨Ao32, co32, eo32⟩ := Kd.R_slice HO304.out; subst eo32))
        go_ret
        exact ⟨tq_13, tq_0⟩
     case rest =>
      clear HC19
      try clear c1
      try clear c2
      try clear p2
      try clear c3
      try clear c4
      try clear c5
      try clear c6
      try clear c11
      try clear c17
      try clear c20
      try clear c22
      try clear c22b0
      try clear c22b1
      try clear c22b2
      try clear p2
      obtain ⟨kq, HA, HJ18, HO_3, HB⟩ := hcut
      cases kq with
      | zero => exact absurd HA.out (by simp [laws_FnStates.j2])
      | succ kj18 =>
       have H := HA.out
       clear HA
       simp only [laws_FnStates.j2] at H
       replace H := Option.bind_eq_some_iff.mp H
       obtain ⟨t311, A330, H⟩ := H
       replace H : ((impl_ReadStates.f kj18 t311 (t287.length : Int)).bind fun bt314 => ((impl_PagesWith.f kj18 t287 0).bind fun t318 => ((impl_PagesWith.f kj18 t287 1).bind fun t321 => ((impl_PagesWith.f kj18 t287 2).bind fun t324 => ((impl_FirstClean.f kj18 t287 1).bind fun bt327 => (if bt314.2 = true then ((laws_sameInts.f kj18 bt314.1 t287).bind fun t331 => (if t331 = true then (if (wrap64 ((wrap64 ((t318.length : Int) + (t321.length : Int))) + (t324.length : Int))) = (t287.length : Int) then ((spec_PagesWith.f kj18 t287 0).bind fun t332 => (if (bt327.2 == (decide ((t332.length : Int) > 0))) = true then (if bt327.2 = true then (if (bt327.1.length : Int) = 1 then (if 0 < (bt327.1.length : Int) then ((spec_PagesWith.f kj18 t287 0).bind fun t336 => (if 0 < (t336.length : Int) then (if (rd bt327.1 0) = (rd t336 0) then ((impl_StatesOk.f kj18 t287 (t287.length : Int)).bind fun t340 => (some t340)) else (some false)) else (none))) else (none)) else (some false)) else ((impl_StatesOk.f kj18 t287 (t287.length : Int)).bind fun t341 => (some t341))) else (some false))) else (some false)) else (some false))) else (some false))))))) = some r := H
       have A33 := Aside0.mk A330
       clear A330
       replace H := Option.bind_eq_some_iff.mp H
       obtain ⟨⟨t314, t315⟩, A340, H⟩ := H
       replace H : ((impl_PagesWith.f kj18 t287 0).bind fun t318 => ((impl_PagesWith.f kj18 t287 1).bind fun t321 => ((impl_PagesWith.f kj18 t287 2).bind fun t324 => ((impl_FirstClean.f kj18 t287 1).bind fun bt327 => (if t315 = true then ((laws_sameInts.f kj18 t314 t287).bind fun t331 => (if t331 = true then (if (wrap64 ((wrap64 ((t318.length : Int) + (t321.length : Int))) + (t324.length : Int))) = (t287.length : Int) then ((spec_PagesWith.f kj18 t287 0).bind fun t332 => (if (bt327.2 == (decide ((t332.length : Int) > 0))) = true then (if bt327.2 = true then (if (bt327.1.length : Int) = 1 then (if 0 < (bt327.1.length : Int) then ((spec_PagesWith.f kj18 t287 0).bind fun t336 => (if 0 < (t336.length : Int) then (if (rd bt327.1 0) = (rd t336 0) then ((impl_StatesOk.f kj18 t287 (t287.length : Int)).bind fun t340 => (some t340)) else (some false)) else (none))) else (none)) else (some false)) else ((impl_StatesOk.f kj18 t287 (t287.length : Int)).bind fun t341 => (some t341))) else (some false))) else (some false)) else (some false))) else (some false)))))) = some r := H
       have A34 := Aside0.mk A340
       clear A340
       replace H := Option.bind_eq_some_iff.mp H
       obtain ⟨t318, A350, H⟩ := H
       replace H : ((impl_PagesWith.f kj18 t287 1).bind fun t321 => ((impl_PagesWith.f kj18 t287 2).bind fun t324 => ((impl_FirstClean.f kj18 t287 1).bind fun bt327 => (if t315 = true then ((laws_sameInts.f kj18 t314 t287).bind fun t331 => (if t331 = true then (if (wrap64 ((wrap64 ((t318.length : Int) + (t321.length : Int))) + (t324.length : Int))) = (t287.length : Int) then ((spec_PagesWith.f kj18 t287 0).bind fun t332 => (if (bt327.2 == (decide ((t332.length : Int) > 0))) = true then (if bt327.2 = true then (if (bt327.1.length : Int) = 1 then (if 0 < (bt327.1.length : Int) then ((spec_PagesWith.f kj18 t287 0).bind fun t336 => (if 0 < (t336.length : Int) then (if (rd bt327.1 0) = (rd t336 0) then ((impl_StatesOk.f kj18 t287 (t287.length : Int)).bind fun t340 => (some t340)) else (some false)) else (none))) else (none)) else (some false)) else ((impl_StatesOk.f kj18 t287 (t287.length : Int)).bind fun t341 => (some t341))) else (some false))) else (some false)) else (some false))) else (some false))))) = some r := H
       have A35 := Aside0.mk A350
       clear A350
       replace H := Option.bind_eq_some_iff.mp H
       obtain ⟨t321, A360, H⟩ := H
       replace H : ((impl_PagesWith.f kj18 t287 2).bind fun t324 => ((impl_FirstClean.f kj18 t287 1).bind fun bt327 => (if t315 = true then ((laws_sameInts.f kj18 t314 t287).bind fun t331 => (if t331 = true then (if (wrap64 ((wrap64 ((t318.length : Int) + (t321.length : Int))) + (t324.length : Int))) = (t287.length : Int) then ((spec_PagesWith.f kj18 t287 0).bind fun t332 => (if (bt327.2 == (decide ((t332.length : Int) > 0))) = true then (if bt327.2 = true then (if (bt327.1.length : Int) = 1 then (if 0 < (bt327.1.length : Int) then ((spec_PagesWith.f kj18 t287 0).bind fun t336 => (if 0 < (t336.length : Int) then (if (rd bt327.1 0) = (rd t336 0) then ((impl_StatesOk.f kj18 t287 (t287.length : Int)).bind fun t340 => (some t340)) else (some false)) else (none))) else (none)) else (some false)) else ((impl_StatesOk.f kj18 t287 (t287.length : Int)).bind fun t341 => (some t341))) else (some false))) else (some false)) else (some false))) else (some false)))) = some r := H
       have A36 := Aside0.mk A360
       clear A360
       replace H := Option.bind_eq_some_iff.mp H
       obtain ⟨t324, A370, H⟩ := H
       replace H : ((impl_FirstClean.f kj18 t287 1).bind fun bt327 => (if t315 = true then ((laws_sameInts.f kj18 t314 t287).bind fun t331 => (if t331 = true then (if (wrap64 ((wrap64 ((t318.length : Int) + (t321.length : Int))) + (t324.length : Int))) = (t287.length : Int) then ((spec_PagesWith.f kj18 t287 0).bind fun t332 => (if (bt327.2 == (decide ((t332.length : Int) > 0))) = true then (if bt327.2 = true then (if (bt327.1.length : Int) = 1 then (if 0 < (bt327.1.length : Int) then ((spec_PagesWith.f kj18 t287 0).bind fun t336 => (if 0 < (t336.length : Int) then (if (rd bt327.1 0) = (rd t336 0) then ((impl_StatesOk.f kj18 t287 (t287.length : Int)).bind fun t340 => (some t340)) else (some false)) else (none))) else (none)) else (some false)) else ((impl_StatesOk.f kj18 t287 (t287.length : Int)).bind fun t341 => (some t341))) else (some false))) else (some false)) else (some false))) else (some false))) = some r := H
       have A37 := Aside0.mk A370
       clear A370
       replace H := Option.bind_eq_some_iff.mp H
       obtain ⟨⟨t327, t328⟩, A380, H⟩ := H
       replace H : (if t315 = true then ((laws_sameInts.f kj18 t314 t287).bind fun t331 => (if t331 = true then (if (wrap64 ((wrap64 ((t318.length : Int) + (t321.length : Int))) + (t324.length : Int))) = (t287.length : Int) then ((spec_PagesWith.f kj18 t287 0).bind fun t332 => (if (t328 == (decide ((t332.length : Int) > 0))) = true then (if t328 = true then (if (t327.length : Int) = 1 then (if 0 < (t327.length : Int) then ((spec_PagesWith.f kj18 t287 0).bind fun t336 => (if 0 < (t336.length : Int) then (if (rd t327 0) = (rd t336 0) then ((impl_StatesOk.f kj18 t287 (t287.length : Int)).bind fun t340 => (some t340)) else (some false)) else (none))) else (none)) else (some false)) else ((impl_StatesOk.f kj18 t287 (t287.length : Int)).bind fun t341 => (some t341))) else (some false))) else (some false)) else (some false))) else (some false)) = some r := H
       have A38 := Aside0.mk A380
       clear A380
       by_cases c39 : t315 = true
       ·subst c39
        have H1 : ((laws_sameInts.f kj18 t314 t287).bind fun t331 => (if t331 = true then (if (wrap64 ((wrap64 ((t318.length : Int) + (t321.length : Int))) + (t324.length : Int))) = (t287.length : Int) then ((spec_PagesWith.f kj18 t287 0).bind fun t332 => (if (t328 == (decide ((t332.length : Int) > 0))) = true then (if t328 = true then (if (t327.length : Int) = 1 then (if 0 < (t327.length : Int) then ((spec_PagesWith.f kj18 t287 0).bind fun t336 => (if 0 < (t336.length : Int) then (if (rd t327 0) = (rd t336 0) then ((impl_StatesOk.f kj18 t287 (t287.length : Int)).bind fun t340 => (some t340)) else (some false)) else (none))) else (none)) else (some false)) else ((impl_StatesOk.f kj18 t287 (t287.length : Int)).bind fun t341 => (some t341))) else (some false))) else (some false)) else (some false))) = some r := by rw [if_pos rfl] at H; exact H
        clear H
        have H := H1
        clear H1
        replace H := Option.bind_eq_some_iff.mp H
        obtain ⟨t331, A400, H⟩ := H
        replace H : (if t331 = true then (if (wrap64 ((wrap64 ((t318.length : Int) + (t321.length : Int))) + (t324.length : Int))) = (t287.length : Int) then ((spec_PagesWith.f kj18 t287 0).bind fun t332 => (if (t328 == (decide ((t332.length : Int) > 0))) = true then (if t328 = true then (if (t327.length : Int) = 1 then (if 0 < (t327.length : Int) then ((spec_PagesWith.f kj18 t287 0).bind fun t336 => (if 0 < (t336.length : Int) then (if (rd t327 0) = (rd t336 0) then ((impl_StatesOk.f kj18 t287 (t287.length : Int)).bind fun t340 => (some t340)) else (some false)) else (none))) else (none)) else (some false)) else ((impl_StatesOk.f kj18 t287 (t287.length : Int)).bind fun t341 => (some t341))) else (some false))) else (some false)) else (some false)) = some r := H
        have A40 := Aside0.mk A400
        clear A400
        by_cases c41 : t331 = true
        ·subst c41
         have H1 : (if (wrap64 ((wrap64 ((t318.length : Int) + (t321.length : Int))) + (t324.length : Int))) = (t287.length : Int) then ((spec_PagesWith.f kj18 t287 0).bind fun t332 => (if (t328 == (decide ((t332.length : Int) > 0))) = true then (if t328 = true then (if (t327.length : Int) = 1 then (if 0 < (t327.length : Int) then ((spec_PagesWith.f kj18 t287 0).bind fun t336 => (if 0 < (t336.length : Int) then (if (rd t327 0) = (rd t336 0) then ((impl_StatesOk.f kj18 t287 (t287.length : Int)).bind fun t340 => (some t340)) else (some false)) else (none))) else (none)) else (some false)) else ((impl_StatesOk.f kj18 t287 (t287.length : Int)).bind fun t341 => (some t341))) else (some false))) else (some false)) = some r := by rw [if_pos rfl] at H; exact H
         clear H
         have H := H1
         clear H1
         by_cases c42 : (wrap64 ((wrap64 ((t318.length : Int) + (t321.length : Int))) + (t324.length : Int))) = (t287.length : Int)
         ·rw [if_pos c42] at H
          have c42b0 : ((wrap64 ((wrap64 ((t318.length : Int) + (t321.length : Int))) + (t324.length : Int))) == (t287.length : Int)) = true := beq_iff_eq.mpr c42
          have c42b1 : ((wrap64 ((wrap64 ((t318.length : Int) + (t321.length : Int))) + (t324.length : Int))) != (t287.length : Int)) = false := bne_eq_false_iff_eq.mpr c42
          clear c42
          replace H := Option.bind_eq_some_iff.mp H
          obtain ⟨t332, A430, H⟩ := H
          replace H : (if (t328 == (decide ((t332.length : Int) > 0))) = true then (if t328 = true then (if (t327.length : Int) = 1 then (if 0 < (t327.length : Int) then ((spec_PagesWith.f kj18 t287 0).bind fun t336 => (if 0 < (t336.length : Int) then (if (rd t327 0) = (rd t336 0) then ((impl_StatesOk.f kj18 t287 (t287.length : Int)).bind fun t340 => (some t340)) else (some false)) else (none))) else (none)) else (some false)) else ((impl_StatesOk.f kj18 t287 (t287.length : Int)).bind fun t341 => (some t341))) else (some false)) = some r := H
          have A43 := Aside0.mk A430
          clear A430
          by_cases c44 : (t328 == (decide ((t332.length : Int) > 0))) = true
          ·rw [if_pos c44] at H
           have c44b0 : (t328 == (decide ((t332.length : Int) > 0))) = true := c44
           have c44b0n : (t328 == decide (0 < t332.length)) = true := (congrArg (fun z_ => (t328 == z_)) (show decide (0 < t332.length) = decide ((t332.length : Int) > 0) by simp)).trans c44b0
           (try (have c44b1 : decide (t328 = (decide ((t332.length : Int) > 0))) = true := by simpa using c44))
           (try (have c44b2 : (t328 == (decide ((t332.length : Int) > 0))) = true := by simpa using c44))
           clear c44
           by_cases c45 : t328 = true
           ·subst c45
            have c44b0t : decide (0 < t332.length) = true := by simpa using c44b0
            have H1 : (if (t327.length : Int) = 1 then (if 0 < (t327.length : Int) then ((spec_PagesWith.f kj18 t287 0).bind fun t336 => (if 0 < (t336.length : Int) then (if (rd t327 0) = (rd t336 0) then ((impl_StatesOk.f kj18 t287 (t287.length : Int)).bind fun t340 => (some t340)) else (some false)) else (none))) else (none)) else (some false)) = some r := by rw [if_pos rfl] at H; exact H
            clear H
            have H := H1
            clear H1
            by_cases c46 : (t327.length : Int) = 1
            ·rw [if_pos c46] at H
             have c46b0 : ((t327.length : Int) == 1) = true := beq_iff_eq.mpr c46
             have c46b1 : ((t327.length : Int) != 1) = false := bne_eq_false_iff_eq.mpr c46
             clear c46
             by_cases c47 : 0 < (t327.length : Int)
             ·rw [if_pos c47] at H
              have c47b0 : decide (0 < (t327.length : Int)) = true := decide_eq_true c47
              have c47b1 : decide (0 < t327.length) = true := decide_eq_true (by omega)
              clear c47
              replace H := Option.bind_eq_some_iff.mp H
              obtain ⟨t336, A480, H⟩ := H
              replace H : (if 0 < (t336.length : Int) then (if (rd t327 0) = (rd t336 0) then ((impl_StatesOk.f kj18 t287 (t287.length : Int)).bind fun t340 => (some t340)) else (some false)) else (none)) = some r := H
              have A48 := Aside0.mk A480
              clear A480
              by_cases c49 : 0 < (t336.length : Int)
              ·rw [if_pos c49] at H
               have c49b0 : decide (0 < (t336.length : Int)) = true := decide_eq_true c49
               have c49b1 : decide (0 < t336.length) = true := decide_eq_true (by omega)
               clear c49
               by_cases c50 : (rd t327 0) = (rd t336 0)
               ·rw [if_pos c50] at H
                have c50b0 : ((rd t327 0) == (rd t336 0)) = true := beq_iff_eq.mpr c50
                have c50b1 : ((rd t327 0) != (rd t336 0)) = false := bne_eq_false_iff_eq.mpr c50
                clear c50
                replace H := Option.bind_eq_some_iff.mp H
                obtain ⟨t340, A510, H⟩ := H
                replace H : (some t340) = some r := H
                have A51 := Aside0.mk A510
                clear A510
                obtain rfl := Option.some.inj H
                try go_wp2_with (first | ((with_reducible refine gate_callee (f := 62) rfl ?_); refine goesL_ (some 48) rfl rfl Try.func62 (by kernel_rfl) rfl #[.slice Ao11 t287.length co11] rfl tq_1 ?_; (with_reducible refine (impl_StatesWords.calls kj18 _ _ t287 t311 _ ?side1 ?side2 A33.out).mono ?_); (case side1 => exact tq_3); (case side2 => exact (Kd.R_reads' HO_3.out).2.1); rintro e w52 ⟨v312, rfl, ho0, hb⟩; refine ⟨_, rfl, ?_⟩; have z_ := p_ (Kd.R_below tq_2 hb) <| p_ (Kd.R_lower ho0 (below_size tq_0)) <| a_ (below_step tq_0 hb); clear HO_3 HB; obtain ⟨HO_3, HO313, HB⟩ := z_; (try clear hb); (try clear hb2); (try clear hk); (try clear hi); (try clear ho0); obtain ⟨Ao53, co53, eo53⟩ := Kd.R_slice HO313.out; subst eo53) | ((with_reducible refine gate_callee (f := 63) rfl ?_); refine goesL_ (some 51) rfl rfl Try.func63 (by kernel_rfl) rfl #[.slice Ao53 t311.length co53, .int .i64 (t287.length : Int)] rfl tq_1 ?_; (with_reducible refine (impl_ReadStates.calls kj18 _ _ t311 (t287.length : Int) t314 true _ ?side1 ?side2 A34.out).mono ?_); (case side1 => exact tq_21); (case side2 => exact (Kd.R_reads' HO313.out).2.1); rintro e w54 ⟨v316, rfl, ho0, hb⟩; refine ⟨_, rfl, ?_⟩; have z_ := p_ (Kd.R_elder' tq_2 (Kd.R_base ho0) hb) <| p_ (Kd.R_below tq_7 hb) <| p_ (Kd.R_lower (Kd.R_new' ho0 (Kd.R_lt tq_2)) (below_size tq_0)) <| a_ (below_step tq_0 hb); clear HO_3 HO313 HB; obtain ⟨HO_3, HO313, HO317, HB⟩ := z_; (try clear hb); (try clear hb2); (try clear hk); (try clear hi); (try clear ho0)) | ((with_reducible refine gate_callee (f := 64) rfl ?_); refine goesL_ (some 55) rfl rfl Try.func64 (by kernel_rfl) rfl #[.slice Ao11 t287.length co11, .int .i64 0] rfl tq_1 ?_; (with_reducible refine (impl_PagesWith.calls kj18 _ _ t287 0 t318 _ ?side1 ?side2 A35.out).mono ?_); (case side1 => exact tq_3); (case side2 => exact (Kd.R_reads' HO_3.out).2.1); rintro e w55 ⟨v319, rfl, ho0, hb⟩; refine ⟨_, rfl, ?_⟩; have z_ := p_ (Kd.R_elder' tq_2 (Kd.R_base ho0) hb) <| p_ (Kd.R_below tq_7 hb) <| p_ (Kd.R_elder' tq_5 (Kd.R_base ho0) hb) <| p_ (Kd.R_lower (Kd.R_new' (Kd.R_new' ho0 (Kd.R_lt tq_2)) (Kd.R_lt tq_5)) (below_size tq_0)) <| a_ (below_step tq_0 hb); clear HO_3 HO313 HO317 HB; obtain ⟨HO_3, HO313, HO317, HO320, HB⟩ := z_; (try clear hb); (try clear hb2); (try clear hk); (try clear hi); (try clear ho0); obtain ⟨Ao56, co56, eo56⟩ := Kd.R_slice HO320.out; subst eo56) | ((with_reducible refine gate_callee (f := 64) rfl ?_); refine goesL_ (some 58) rfl rfl Try.func64 (by kernel_rfl) rfl #[.slice Ao11 t287.length co11, .int .i64 1] rfl tq_1 ?_; (with_reducible refine (impl_PagesWith.calls kj18 _ _ t287 1 t321 _ ?side1 ?side2 A36.out).mono ?_); (case side1 => exact tq_3); (case side2 => exact (Kd.R_reads' HO_3.out).2.1); rintro e w57 ⟨v322, rfl, ho0, hb⟩; refine ⟨_, rfl, ?_⟩; have z_ := p_ (Kd.R_elder' tq_2 (Kd.R_base ho0) hb) <| p_ (Kd.R_below tq_7 hb) <| p_ (Kd.R_elder' tq_5 (Kd.R_base ho0) hb) <| p_ (Kd.R_elder' tq_6 (Kd.R_base ho0) hb) <| p_ (Kd.R_lower (Kd.R_new' (Kd.R_new' (Kd.R_new' ho0 (Kd.R_lt tq_2)) (Kd.R_lt tq_5)) (Kd.R_lt tq_6)) (below_size tq_0)) <| a_ (below_step tq_0 hb); clear HO_3 HO313 HO317 HO320 HB; obtain ⟨HO_3, HO313, HO317, HO320, HO323, HB⟩ := z_; (try clear hb); (try clear hb2); (try clear hk); (try clear hi); (try clear ho0); obtain ⟨Ao58, co58, eo58⟩ := Kd.R_slice HO323.out; subst eo58) | ((with_reducible refine gate_callee (f := 64) rfl ?_); refine goesL_ (some 62) rfl rfl Try.func64 (by kernel_rfl) rfl #[.slice Ao11 t287.length co11, .int .i64 2] rfl tq_1 ?_; (with_reducible refine (impl_PagesWith.calls kj18 _ _ t287 2 t324 _ ?side1 ?side2 A37.out).mono ?_); (case side1 => exact tq_3); (case side2 => exact (Kd.R_reads' HO_3.out).2.1); rintro e w59 ⟨v325, rfl, ho0, hb⟩; refine ⟨_, rfl, ?_⟩; have z_ := p_ (Kd.R_elder' tq_2 (Kd.R_base ho0) hb) <| p_ (Kd.R_below tq_7 hb) <| p_ (Kd.R_elder' tq_5 (Kd.R_base ho0) hb) <| p_ (Kd.R_elder' tq_6 (Kd.R_base ho0) hb) <| p_ (Kd.R_elder' tq_8 (Kd.R_base ho0) hb) <| p_ (Kd.R_lower (Kd.R_new' (Kd.R_new' (Kd.R_new' (Kd.R_new' ho0 (Kd.R_lt tq_2)) (Kd.R_lt tq_5)) (Kd.R_lt tq_6)) (Kd.R_lt tq_8)) (below_size tq_0)) <| a_ (below_step tq_0 hb); clear HO_3 HO313 HO317 HO320 HO323 HB; obtain ⟨HO_3, HO313, HO317, HO320, HO323, HO326, HB⟩ := z_; (try clear hb); (try clear hb2); (try clear hk); (try clear hi); (try clear ho0); obtain ⟨Ao60, co60, eo60⟩ := Kd.R_slice HO326.out; subst eo60) | ((with_reducible refine gate_callee (f := 65) rfl ?_); refine goesL_ (some 67) rfl rfl Try.func65 (by kernel_rfl) rfl #[.slice Ao11 t287.length co11, .int .i64 1] rfl tq_1 ?_; (with_reducible refine (impl_FirstClean.calls kj18 _ _ t287 1 t327 true _ ?side1 ?side2 A38.out).mono ?_); (case side1 => exact tq_3); (case side2 => exact (Kd.R_reads' HO_3.out).2.1); rintro e w61 ⟨v329, rfl, ho0, hb⟩; refine ⟨_, rfl, ?_⟩; have z_ := p_ (Kd.R_elder' tq_2 (Kd.R_base ho0) hb) <| p_ (Kd.R_below tq_7 hb) <| p_ (Kd.R_elder' tq_5 (Kd.R_base ho0) hb) <| p_ (Kd.R_elder' tq_6 (Kd.R_base ho0) hb) <| p_ (Kd.R_elder' tq_8 (Kd.R_base ho0) hb) <| p_ (Kd.R_elder' tq_15 (Kd.R_base ho0) hb) <| p_ (Kd.R_lower (Kd.R_new' (Kd.R_new' (Kd.R_new' (Kd.R_new' (Kd.R_new' ho0 (Kd.R_lt tq_2)) (Kd.R_lt tq_5)) (Kd.R_lt tq_6)) (Kd.R_lt tq_8)) (Kd.R_lt tq_15)) (below_size tq_0)) <| a_ (below_step tq_0 hb); clear HO_3 HO313 HO317 HO320 HO323 HO326 HB; obtain ⟨HO_3, HO313, HO317, HO320, HO323, HO326, HO330, HB⟩ := z_; (try clear hb); (try clear hb2); (try clear hk); (try clear hi); (try clear ho0)))
                have z_ := p_ (Kd.R_drew HO_3.out) <| p_ (Kd.R_drew HO313.out) <| p_ (Kd.R_drew HO317.out) <| p_ (Kd.R_drew HO320.out) <| p_ (Kd.R_drew HO323.out) <| p_ (Kd.R_drew HO326.out) <| p_ (Kd.R_drew HO330.out) <| a_ (below_drew1 HB.out)
                clear HO_3 HO313 HO317 HO320 HO323 HO326 HO330 HB
                obtain ⟨HO_3, HO313, HO317, HO320, HO323, HO326, HO330, HB⟩ := z_
                obtain ⟨Ao63, co63, eo63⟩ := Kd.R_slice HO317.out
                (first | subst eo63 | (injection eo63 with f1_ f2_ f3_; have f4_ := f1_.symm; have f5_ := f3_.symm; clear f1_ f2_ f3_; subst f4_; subst f5_))
                have p335 : 0 ≤ (0 : Int) := (by omega)
                have q335 : 0 < (t327.length : Int) := of_decide_eq_true tq_14
                (try (obtain ⟨Aq335, cq335, eq335⟩ := Kd.R_slice HO330.out; (first | subst eq335 | clear eq335)))
                obtain ⟨ad335, e335, hx335_0⟩ := Kd.at_int (Kd.R_reads' HO330.out).2.2 0 p335 q335
                cases e335
                have qi335 : (0 < t327.length) = True := eq_true (by omega)
                (try rw [show ((0 : Int)).toNat = 0 from rfl] at hx335_0)
                (try rw [Addr.add_zero'] at hx335_0)
                replace p335 := eq_true p335
                replace q335 := eq_true q335
                refine start_ (n := 46) (S := fun w' => w'.cell? ad335 = some (.int .i64 (rd t327 0))) (ds := []) bq_0 (by kernel_rfl) rfl rfl hx335_0 (fun hHeld => ?_); refine with_tabW laws_FnStates.tab12 laws_FnStates.bits12 (fun HT_ HW_ => ?_)
                generalize w61.drew = w62 at HO_3 HO313 HO317 HO320 HO323 HO326 HO330 HB hx335_0 hHeld ⊢
                refine yq_ (i := 0) (N := some 70) bq_1 (any_of HT_.out (by kernel_rfl)) ?_
                refine yq_ (i := 1) (N := some 71) bq_2 (any_of HT_.out (by kernel_rfl)) ?_
                refine yq_ (i := 2) (N := some 72) bq_3 (any_of HT_.out (by kernel_rfl)) ?_
                refine yq_ (i := 3) (N := some 73) bq_4 (any_of HT_.out (by kernel_rfl)) ?_
                refine one_ (i := 4) (N := some 74) bq_5 rfl rfl (one_of HT_.out (by kernel_rfl)) (by decide) (fun K hK => ?_)
                refine goes_ Try.func59 (by kernel_rfl) rfl #[.slice Ao63 t314.length co63, .slice Ao11 t287.length co11] (by rfl) rfl rfl tq_1 ?_
                with_reducible refine (laws_sameInts.calls kj18 _ _ t314 _ _ t287 true _ ?side1 ?side2 ?side3 ?side4 A40.out).mono ?_
                (case side1 => exact tq_25)
                (case side2 => exact (Kd.R_reads' HO317.out).2.1)
                (case side3 => exact tq_3)
                (case side4 => exact (Kd.R_reads' HO_3.out).2.1)
                rintro e w' ⟨rfl, ⟨nd, rfl⟩⟩
                refine ⟨_, rfl, ?_⟩
                refine hK.out _ _ hHeld (fun hHeld => ?_)
                clear hK K
                refine nm_ (some 74) ?_
                refine yq_ (i := 5) (N := some 75) bq_6 (any_of HT_.out (by kernel_rfl)) ?_
                refine yq_ (i := 6) (N := some 76) bq_7 (any_of HT_.out (by kernel_rfl)) ?_
                refine yq_ (i := 7) (N := some 77) bq_8 (any_of HT_.out (by kernel_rfl)) ?_
                refine yq_ (i := 8) (N := some 78) bq_9 (any_of HT_.out (by kernel_rfl)) ?_
                refine yq_ (i := 9) (N := some 79) bq_10 (any_of HT_.out (by kernel_rfl)) ?_
                refine yq_ (i := 10) (N := some 80) bq_11 (any_of HT_.out (by kernel_rfl)) ?_
                refine yq_ (i := 11) (N := some 81) bq_12 (any_of HT_.out (by kernel_rfl)) ?_
                refine yq_ (i := 12) (N := some 82) bq_13 (any_of HT_.out (by kernel_rfl)) ?_
                refine yq_ (i := 13) (N := some 83) bq_14 (any_of HT_.out (by kernel_rfl)) ?_
                refine yq_ (i := 14) (N := some 84) bq_15 (any_of HT_.out (by kernel_rfl)) ?_
                refine one_ (i := 15) (N := some 85) bq_16 rfl rfl (one_of HT_.out (by kernel_rfl)) (by decide) (fun K hK => ?_)
                refine goes_ Try.func66 (by kernel_rfl) rfl #[.slice Ao11 t287.length co11, .int .i64 0] (by rfl) rfl rfl tq_1 ?_
                with_reducible refine (spec_PagesWith.calls kj18 _ _ t287 0 t332 _ ?side1 ?side2 A43.out).mono ?_
                (case side1 => exact tq_3)
                (case side2 => exact (Kd.R_reads' HO_3.out).2.1)
                rintro e w64 ⟨v333, rfl, ho0, hb⟩
                have HS0_ := (hb.cell (World.block_lt_of_cell? _ _ hHeld)).trans hHeld
                refine ⟨_, rfl, ?_⟩
                have z_ := p_ (Kd.R_elder' tq_2 (Kd.R_base ho0) hb) <| p_ (Kd.R_below tq_7 hb) <| p_ (Kd.R_elder' tq_5 (Kd.R_base ho0) hb) <| p_ (Kd.R_elder' tq_6 (Kd.R_base ho0) hb) <| p_ (Kd.R_elder' tq_8 (Kd.R_base ho0) hb) <| p_ (Kd.R_elder' tq_15 (Kd.R_base ho0) hb) <| p_ (Kd.R_elder' tq_19 (Kd.R_base ho0) hb) <| p_ (Kd.R_lower (Kd.R_new' (Kd.R_new' (Kd.R_new' (Kd.R_new' (Kd.R_new' (Kd.R_new' ho0 (Kd.R_lt tq_2)) (Kd.R_lt tq_5)) (Kd.R_lt tq_6)) (Kd.R_lt tq_8)) (Kd.R_lt tq_15)) (Kd.R_lt tq_19)) (below_size tq_0)) <| a_ (below_step tq_0 hb)
                clear HO_3 HO313 HO317 HO320 HO323 HO326 HO330 HB
                obtain ⟨HO_3, HO313, HO317, HO320, HO323, HO326, HO330, HO334, HB⟩ := z_
                (try clear hb)
                (try clear hb2)
                (try clear hk)
                (try clear hi)
                (try clear ho0)
                obtain ⟨Ao65, co65, eo65⟩ := Kd.R_slice HO334.out
                (first | subst eo65 | (injection eo65 with f1_ f2_ f3_; have f4_ := f1_.symm; have f5_ := f3_.symm; clear f1_ f2_ f3_; subst f4_; subst f5_))
                obtain ⟨Ao66, co66, eo66⟩ := Kd.R_slice HO330.out
                (first | subst eo66 | (injection eo66 with f1_ f2_ f3_; have f4_ := f1_.symm; have f5_ := f3_.symm; clear f1_ f2_ f3_; subst f4_; subst f5_))
                refine hK.out _ _ HS0_ (fun hHeld => ?_)
                clear hK K
                refine nm_ (some 85) ?_
                refine yq_ (i := 16) (N := some 86) bq_17 (any_of HT_.out (by kernel_rfl)) ?_
                refine yq_ (i := 17) (N := some 87) bq_18 (any_of HT_.out (by kernel_rfl)) ?_
                refine yq_ (i := 18) (N := some 88) bq_19 (any_of HT_.out (by kernel_rfl)) ?_
                refine yq_ (i := 19) (N := some 89) bq_20 (any_of HT_.out (by kernel_rfl)) ?_
                refine yq_ (i := 20) (N := some 90) bq_21 (any_of HT_.out (by kernel_rfl)) ?_
                refine yq_ (i := 21) (N := some 91) bq_22 (any_of HT_.out (by kernel_rfl)) ?_
                refine yq_ (i := 22) (N := some 92) bq_23 (any_of HT_.out (by kernel_rfl)) ?_
                refine yq_ (i := 23) (N := some 93) bq_24 (any_of HT_.out (by kernel_rfl)) ?_
                refine yq_ (i := 24) (N := some 94) bq_25 (any_of HT_.out (by kernel_rfl)) ?_
                refine yq_ (i := 25) (N := some 95) bq_26 (any_of HT_.out (by kernel_rfl)) ?_
                refine yq_ (i := 26) (N := some 96) bq_27 (any_of HT_.out (by kernel_rfl)) ?_
                refine yq_ (i := 27) (N := some 97) bq_28 (any_of HT_.out (by kernel_rfl)) ?_
                refine yq_ (i := 28) (N := some 98) bq_29 (any_of HT_.out (by kernel_rfl)) ?_
                refine yq_ (i := 29) (N := some 99) bq_30 (any_of HT_.out (by kernel_rfl)) ?_
                refine yq_ (i := 31) (N := some 101) bq_47 (any_of HT_.out (by kernel_rfl)) ?_
                refine tk_ (i := 30) (N := some 100) bq_31 (take_ofW HT_.out HW_.out (by kernel_rfl)) hHeld ?_
                refine one_ (i := 32) (N := some 102) bq_32 rfl rfl (one_of HT_.out (by kernel_rfl)) (by decide) (fun K hK => ?_)
                refine goes_ Try.func66 (by kernel_rfl) rfl #[.slice Ao11 t287.length co11, .int .i64 0] (by rfl) rfl rfl tq_1 ?_
                with_reducible refine (spec_PagesWith.calls kj18 _ _ t287 0 t336 _ ?side1 ?side2 A48.out).mono ?_
                (case side1 => exact tq_3)
                (case side2 => exact (Kd.R_reads' HO_3.out).2.1)
                rintro e w67 ⟨v337, rfl, ho0, hb⟩
                have HS0_ := (hb.cell (World.block_lt_of_cell? _ _ hHeld)).trans hHeld
                refine ⟨_, rfl, ?_⟩
                have z_ := p_ (Kd.R_elder' tq_2 (Kd.R_base ho0) hb) <| p_ (Kd.R_below tq_7 hb) <| p_ (Kd.R_elder' tq_5 (Kd.R_base ho0) hb) <| p_ (Kd.R_elder' tq_6 (Kd.R_base ho0) hb) <| p_ (Kd.R_elder' tq_8 (Kd.R_base ho0) hb) <| p_ (Kd.R_elder' tq_15 (Kd.R_base ho0) hb) <| p_ (Kd.R_elder' tq_19 (Kd.R_base ho0) hb) <| p_ (Kd.R_elder' tq_36 (Kd.R_base ho0) hb) <| p_ (Kd.R_lower (Kd.R_new' (Kd.R_new' (Kd.R_new' (Kd.R_new' (Kd.R_new' (Kd.R_new' (Kd.R_new' ho0 (Kd.R_lt tq_2)) (Kd.R_lt tq_5)) (Kd.R_lt tq_6)) (Kd.R_lt tq_8)) (Kd.R_lt tq_15)) (Kd.R_lt tq_19)) (Kd.R_lt tq_36)) (below_size tq_0)) <| a_ (below_step tq_0 hb)
                clear HO_3 HO313 HO317 HO320 HO323 HO326 HO330 HO334 HB
                obtain ⟨HO_3, HO313, HO317, HO320, HO323, HO326, HO330, HO334, HO338, HB⟩ := z_
                (try clear hb)
                (try clear hb2)
                (try clear hk)
                (try clear hi)
                (try clear ho0)
                obtain ⟨Ao68, co68, eo68⟩ := Kd.R_slice HO338.out
                (first | subst eo68 | (injection eo68 with f1_ f2_ f3_; have f4_ := f1_.symm; have f5_ := f3_.symm; clear f1_ f2_ f3_; subst f4_; subst f5_))
                have p339 : 0 ≤ (0 : Int) := (by omega)
                have q339 : 0 < (t336.length : Int) := of_decide_eq_true tq_14
                (try (obtain ⟨Aq339, cq339, eq339⟩ := Kd.R_slice HO338.out; (first | subst eq339 | clear eq339)))
                obtain ⟨ad339, e339, hx339_0⟩ := Kd.at_int (Kd.R_reads' HO338.out).2.2 0 p339 q339
                cases e339
                have qi339 : (0 < t336.length) = True := eq_true (by omega)
                (try rw [show ((0 : Int)).toNat = 0 from rfl] at hx339_0)
                (try rw [Addr.add_zero'] at hx339_0)
                replace p339 := eq_true p339
                replace q339 := eq_true q339
                refine hK.out _ _ HS0_ (fun hHeld => ?_)
                clear hK K
                refine nm_ (some 102) ?_
                refine more_ (S' := fun w' => w'.cell? ad335 = some (.int .i64 (rd t327 0)) ∧ w'.cell? ad339 = some (.int .i64 (rd t336 0))) (fun _ h => h.1) _ _ _ _ ⟨hHeld, hx339_0⟩ ?_
                have hHeld := And.intro hHeld hx339_0
                refine yq_ (i := 33) (N := some 103) bq_33 (any_of HT_.out (by kernel_rfl)) ?_
                refine tk_ (i := 34) (N := some 104) bq_34 (take_ofW HT_.out HW_.out (by kernel_rfl)) hHeld ?_
                refine yq_ (i := 35) (N := some 105) bq_35 (any_of HT_.out (by kernel_rfl)) ?_
                refine yq_ (i := 36) (N := some 106) bq_36 (any_of HT_.out (by kernel_rfl)) ?_
                refine yq_ (i := 37) (N := some 107) bq_37 (any_of HT_.out (by kernel_rfl)) ?_
                refine yq_ (i := 38) (N := some 108) bq_38 (any_of HT_.out (by kernel_rfl)) ?_
                refine yq_ (i := 39) (N := some 109) bq_39 (any_of HT_.out (by kernel_rfl)) ?_
                refine yq_ (i := 40) (N := some 110) bq_40 (any_of HT_.out (by kernel_rfl)) ?_
                refine yq_ (i := 41) (N := some 111) bq_41 (any_of HT_.out (by kernel_rfl)) ?_
                refine yq_ (i := 42) (N := some 112) bq_42 (any_of HT_.out (by kernel_rfl)) ?_
                refine one_ (i := 43) (N := some 113) bq_43 rfl rfl (one_of HT_.out (by kernel_rfl)) (by decide) (fun K hK => ?_)
                refine goes_ Try.func67 (by kernel_rfl) rfl #[.slice Ao11 t287.length co11, .int .i64 (t287.length : Int)] (by rfl) rfl rfl tq_1 ?_
                with_reducible refine (impl_StatesOk.calls kj18 _ _ t287 (t287.length : Int) t340 _ ?side1 ?side2 A51.out).mono ?_
                (case side1 => exact tq_3)
                (case side2 => exact (Kd.R_reads' HO_3.out).2.1)
                rintro e w' ⟨rfl, ⟨nd, rfl⟩⟩
                refine ⟨_, rfl, ?_⟩
                refine hK.out _ _ ⟨hHeld.1, hHeld.2⟩ (fun hHeld => ?_)
                clear hK K
                refine nm_ (some 113) ?_
                refine yq_ (i := 44) (N := some 114) bq_44 (any_of HT_.out (by kernel_rfl)) ?_
                refine yq_ (i := 45) (N := some 2) bq_45 (any_of HT_.out (by kernel_rfl)) ?_
                refine done_ (done_of HT_.out (by kernel_rfl)) ?_
                try go_wp2
                go_ret
                exact ⟨tq_13, tq_0⟩
               ·rw [if_neg c50] at H
                have c50b0 : ((rd t327 0) == (rd t336 0)) = false := beq_eq_false_iff_ne.mpr c50
                have c50b1 : ((rd t327 0) != (rd t336 0)) = true := bne_iff_ne.mpr c50
                obtain rfl := Option.some.inj H
                try go_wp2_with (first | ((with_reducible refine gate_callee (f := 62) rfl ?_); refine goesL_ (some 48) rfl rfl Try.func62 (by kernel_rfl) rfl #[.slice Ao11 t287.length co11] rfl tq_1 ?_; (with_reducible refine (impl_StatesWords.calls kj18 _ _ t287 t311 _ ?side1 ?side2 A33.out).mono ?_); (case side1 => exact tq_3); (case side2 => exact (Kd.R_reads' HO_3.out).2.1); rintro e w69 ⟨v312, rfl, ho0, hb⟩; refine ⟨_, rfl, ?_⟩; have z_ := p_ (Kd.R_below tq_2 hb) <| p_ (Kd.R_lower ho0 (below_size tq_0)) <| a_ (below_step tq_0 hb); clear HO_3 HB; obtain ⟨HO_3, HO313, HB⟩ := z_; (try clear hb); (try clear hb2); (try clear hk); (try clear hi); (try clear ho0); obtain ⟨Ao70, co70, eo70⟩ := Kd.R_slice HO313.out; subst eo70) | ((with_reducible refine gate_callee (f := 63) rfl ?_); refine goesL_ (some 51) rfl rfl Try.func63 (by kernel_rfl) rfl #[.slice Ao70 t311.length co70, .int .i64 (t287.length : Int)] rfl tq_1 ?_; (with_reducible refine (impl_ReadStates.calls kj18 _ _ t311 (t287.length : Int) t314 true _ ?side1 ?side2 A34.out).mono ?_); (case side1 => exact tq_21); (case side2 => exact (Kd.R_reads' HO313.out).2.1); rintro e w71 ⟨v316, rfl, ho0, hb⟩; refine ⟨_, rfl, ?_⟩; have z_ := p_ (Kd.R_elder' tq_2 (Kd.R_base ho0) hb) <| p_ (Kd.R_below tq_7 hb) <| p_ (Kd.R_lower (Kd.R_new' ho0 (Kd.R_lt tq_2)) (below_size tq_0)) <| a_ (below_step tq_0 hb); clear HO_3 HO313 HB; obtain ⟨HO_3, HO313, HO317, HB⟩ := z_; (try clear hb); (try clear hb2); (try clear hk); (try clear hi); (try clear ho0)) | ((with_reducible refine gate_callee (f := 64) rfl ?_); refine goesL_ (some 55) rfl rfl Try.func64 (by kernel_rfl) rfl #[.slice Ao11 t287.length co11, .int .i64 0] rfl tq_1 ?_; (with_reducible refine (impl_PagesWith.calls kj18 _ _ t287 0 t318 _ ?side1 ?side2 A35.out).mono ?_); (case side1 => exact tq_3); (case side2 => exact (Kd.R_reads' HO_3.out).2.1); rintro e w72 ⟨v319, rfl, ho0, hb⟩; refine ⟨_, rfl, ?_⟩; have z_ := p_ (Kd.R_elder' tq_2 (Kd.R_base ho0) hb) <| p_ (Kd.R_below tq_7 hb) <| p_ (Kd.R_elder' tq_5 (Kd.R_base ho0) hb) <| p_ (Kd.R_lower (Kd.R_new' (Kd.R_new' ho0 (Kd.R_lt tq_2)) (Kd.R_lt tq_5)) (below_size tq_0)) <| a_ (below_step tq_0 hb); clear HO_3 HO313 HO317 HB; obtain ⟨HO_3, HO313, HO317, HO320, HB⟩ := z_; (try clear hb); (try clear hb2); (try clear hk); (try clear hi); (try clear ho0); obtain ⟨Ao73, co73, eo73⟩ := Kd.R_slice HO320.out; subst eo73) | ((with_reducible refine gate_callee (f := 64) rfl ?_); refine goesL_ (some 58) rfl rfl Try.func64 (by kernel_rfl) rfl #[.slice Ao11 t287.length co11, .int .i64 1] rfl tq_1 ?_; (with_reducible refine (impl_PagesWith.calls kj18 _ _ t287 1 t321 _ ?side1 ?side2 A36.out).mono ?_); (case side1 => exact tq_3); (case side2 => exact (Kd.R_reads' HO_3.out).2.1); rintro e w74 ⟨v322, rfl, ho0, hb⟩; refine ⟨_, rfl, ?_⟩; have z_ := p_ (Kd.R_elder' tq_2 (Kd.R_base ho0) hb) <| p_ (Kd.R_below tq_7 hb) <| p_ (Kd.R_elder' tq_5 (Kd.R_base ho0) hb) <| p_ (Kd.R_elder' tq_6 (Kd.R_base ho0) hb) <| p_ (Kd.R_lower (Kd.R_new' (Kd.R_new' (Kd.R_new' ho0 (Kd.R_lt tq_2)) (Kd.R_lt tq_5)) (Kd.R_lt tq_6)) (below_size tq_0)) <| a_ (below_step tq_0 hb); clear HO_3 HO313 HO317 HO320 HB; obtain ⟨HO_3, HO313, HO317, HO320, HO323, HB⟩ := z_; (try clear hb); (try clear hb2); (try clear hk); (try clear hi); (try clear ho0); obtain ⟨Ao75, co75, eo75⟩ := Kd.R_slice HO323.out; subst eo75) | ((with_reducible refine gate_callee (f := 64) rfl ?_); refine goesL_ (some 62) rfl rfl Try.func64 (by kernel_rfl) rfl #[.slice Ao11 t287.length co11, .int .i64 2] rfl tq_1 ?_; (with_reducible refine (impl_PagesWith.calls kj18 _ _ t287 2 t324 _ ?side1 ?side2 A37.out).mono ?_); (case side1 => exact tq_3); (case side2 => exact (Kd.R_reads' HO_3.out).2.1); rintro e w76 ⟨v325, rfl, ho0, hb⟩; refine ⟨_, rfl, ?_⟩; have z_ := p_ (Kd.R_elder' tq_2 (Kd.R_base ho0) hb) <| p_ (Kd.R_below tq_7 hb) <| p_ (Kd.R_elder' tq_5 (Kd.R_base ho0) hb) <| p_ (Kd.R_elder' tq_6 (Kd.R_base ho0) hb) <| p_ (Kd.R_elder' tq_8 (Kd.R_base ho0) hb) <| p_ (Kd.R_lower (Kd.R_new' (Kd.R_new' (Kd.R_new' (Kd.R_new' ho0 (Kd.R_lt tq_2)) (Kd.R_lt tq_5)) (Kd.R_lt tq_6)) (Kd.R_lt tq_8)) (below_size tq_0)) <| a_ (below_step tq_0 hb); clear HO_3 HO313 HO317 HO320 HO323 HB; obtain ⟨HO_3, HO313, HO317, HO320, HO323, HO326, HB⟩ := z_; (try clear hb); (try clear hb2); (try clear hk); (try clear hi); (try clear ho0); obtain ⟨Ao77, co77, eo77⟩ := Kd.R_slice HO326.out; subst eo77) | ((with_reducible refine gate_callee (f := 65) rfl ?_); refine goesL_ (some 67) rfl rfl Try.func65 (by kernel_rfl) rfl #[.slice Ao11 t287.length co11, .int .i64 1] rfl tq_1 ?_; (with_reducible refine (impl_FirstClean.calls kj18 _ _ t287 1 t327 true _ ?side1 ?side2 A38.out).mono ?_); (case side1 => exact tq_3); (case side2 => exact (Kd.R_reads' HO_3.out).2.1); rintro e w78 ⟨v329, rfl, ho0, hb⟩; refine ⟨_, rfl, ?_⟩; have z_ := p_ (Kd.R_elder' tq_2 (Kd.R_base ho0) hb) <| p_ (Kd.R_below tq_7 hb) <| p_ (Kd.R_elder' tq_5 (Kd.R_base ho0) hb) <| p_ (Kd.R_elder' tq_6 (Kd.R_base ho0) hb) <| p_ (Kd.R_elder' tq_8 (Kd.R_base ho0) hb) <| p_ (Kd.R_elder' tq_15 (Kd.R_base ho0) hb) <| p_ (Kd.R_lower (Kd.R_new' (Kd.R_new' (Kd.R_new' (Kd.R_new' (Kd.R_new' ho0 (Kd.R_lt tq_2)) (Kd.R_lt tq_5)) (Kd.R_lt tq_6)) (Kd.R_lt tq_8)) (Kd.R_lt tq_15)) (below_size tq_0)) <| a_ (below_step tq_0 hb); clear HO_3 HO313 HO317 HO320 HO323 HO326 HB; obtain ⟨HO_3, HO313, HO317, HO320, HO323, HO326, HO330, HB⟩ := z_; (try clear hb); (try clear hb2); (try clear hk); (try clear hi); (try clear ho0)))
                have z_ := p_ (Kd.R_drew HO_3.out) <| p_ (Kd.R_drew HO313.out) <| p_ (Kd.R_drew HO317.out) <| p_ (Kd.R_drew HO320.out) <| p_ (Kd.R_drew HO323.out) <| p_ (Kd.R_drew HO326.out) <| p_ (Kd.R_drew HO330.out) <| a_ (below_drew1 HB.out)
                clear HO_3 HO313 HO317 HO320 HO323 HO326 HO330 HB
                obtain ⟨HO_3, HO313, HO317, HO320, HO323, HO326, HO330, HB⟩ := z_
                obtain ⟨Ao80, co80, eo80⟩ := Kd.R_slice HO317.out
                (first | subst eo80 | (injection eo80 with f1_ f2_ f3_; have f4_ := f1_.symm; have f5_ := f3_.symm; clear f1_ f2_ f3_; subst f4_; subst f5_))
                have p335 : 0 ≤ (0 : Int) := (by omega)
                have q335 : 0 < (t327.length : Int) := of_decide_eq_true tq_14
                (try (obtain ⟨Aq335, cq335, eq335⟩ := Kd.R_slice HO330.out; (first | subst eq335 | clear eq335)))
                obtain ⟨ad335, e335, hx335_0⟩ := Kd.at_int (Kd.R_reads' HO330.out).2.2 0 p335 q335
                cases e335
                have qi335 : (0 < t327.length) = True := eq_true (by omega)
                (try rw [show ((0 : Int)).toNat = 0 from rfl] at hx335_0)
                (try rw [Addr.add_zero'] at hx335_0)
                replace p335 := eq_true p335
                replace q335 := eq_true q335
                refine start_ (n := 46) (S := fun w' => w'.cell? ad335 = some (.int .i64 (rd t327 0))) (ds := []) bq_0 (by kernel_rfl) rfl rfl hx335_0 (fun hHeld => ?_); refine with_tabW laws_FnStates.tab12 laws_FnStates.bits12 (fun HT_ HW_ => ?_)
                generalize w78.drew = w79 at HO_3 HO313 HO317 HO320 HO323 HO326 HO330 HB hx335_0 hHeld ⊢
                refine yq_ (i := 0) (N := some 70) bq_1 (any_of HT_.out (by kernel_rfl)) ?_
                refine yq_ (i := 1) (N := some 71) bq_2 (any_of HT_.out (by kernel_rfl)) ?_
                refine yq_ (i := 2) (N := some 72) bq_3 (any_of HT_.out (by kernel_rfl)) ?_
                refine yq_ (i := 3) (N := some 73) bq_4 (any_of HT_.out (by kernel_rfl)) ?_
                refine one_ (i := 4) (N := some 74) bq_5 rfl rfl (one_of HT_.out (by kernel_rfl)) (by decide) (fun K hK => ?_)
                refine goes_ Try.func59 (by kernel_rfl) rfl #[.slice Ao80 t314.length co80, .slice Ao11 t287.length co11] (by rfl) rfl rfl tq_1 ?_
                with_reducible refine (laws_sameInts.calls kj18 _ _ t314 _ _ t287 true _ ?side1 ?side2 ?side3 ?side4 A40.out).mono ?_
                (case side1 => exact tq_25)
                (case side2 => exact (Kd.R_reads' HO317.out).2.1)
                (case side3 => exact tq_3)
                (case side4 => exact (Kd.R_reads' HO_3.out).2.1)
                rintro e w' ⟨rfl, ⟨nd, rfl⟩⟩
                refine ⟨_, rfl, ?_⟩
                refine hK.out _ _ hHeld (fun hHeld => ?_)
                clear hK K
                refine nm_ (some 74) ?_
                refine yq_ (i := 5) (N := some 75) bq_6 (any_of HT_.out (by kernel_rfl)) ?_
                refine yq_ (i := 6) (N := some 76) bq_7 (any_of HT_.out (by kernel_rfl)) ?_
                refine yq_ (i := 7) (N := some 77) bq_8 (any_of HT_.out (by kernel_rfl)) ?_
                refine yq_ (i := 8) (N := some 78) bq_9 (any_of HT_.out (by kernel_rfl)) ?_
                refine yq_ (i := 9) (N := some 79) bq_10 (any_of HT_.out (by kernel_rfl)) ?_
                refine yq_ (i := 10) (N := some 80) bq_11 (any_of HT_.out (by kernel_rfl)) ?_
                refine yq_ (i := 11) (N := some 81) bq_12 (any_of HT_.out (by kernel_rfl)) ?_
                refine yq_ (i := 12) (N := some 82) bq_13 (any_of HT_.out (by kernel_rfl)) ?_
                refine yq_ (i := 13) (N := some 83) bq_14 (any_of HT_.out (by kernel_rfl)) ?_
                refine yq_ (i := 14) (N := some 84) bq_15 (any_of HT_.out (by kernel_rfl)) ?_
                refine one_ (i := 15) (N := some 85) bq_16 rfl rfl (one_of HT_.out (by kernel_rfl)) (by decide) (fun K hK => ?_)
                refine goes_ Try.func66 (by kernel_rfl) rfl #[.slice Ao11 t287.length co11, .int .i64 0] (by rfl) rfl rfl tq_1 ?_
                with_reducible refine (spec_PagesWith.calls kj18 _ _ t287 0 t332 _ ?side1 ?side2 A43.out).mono ?_
                (case side1 => exact tq_3)
                (case side2 => exact (Kd.R_reads' HO_3.out).2.1)
                rintro e w81 ⟨v333, rfl, ho0, hb⟩
                have HS0_ := (hb.cell (World.block_lt_of_cell? _ _ hHeld)).trans hHeld
                refine ⟨_, rfl, ?_⟩
                have z_ := p_ (Kd.R_elder' tq_2 (Kd.R_base ho0) hb) <| p_ (Kd.R_below tq_7 hb) <| p_ (Kd.R_elder' tq_5 (Kd.R_base ho0) hb) <| p_ (Kd.R_elder' tq_6 (Kd.R_base ho0) hb) <| p_ (Kd.R_elder' tq_8 (Kd.R_base ho0) hb) <| p_ (Kd.R_elder' tq_15 (Kd.R_base ho0) hb) <| p_ (Kd.R_elder' tq_19 (Kd.R_base ho0) hb) <| p_ (Kd.R_lower (Kd.R_new' (Kd.R_new' (Kd.R_new' (Kd.R_new' (Kd.R_new' (Kd.R_new' ho0 (Kd.R_lt tq_2)) (Kd.R_lt tq_5)) (Kd.R_lt tq_6)) (Kd.R_lt tq_8)) (Kd.R_lt tq_15)) (Kd.R_lt tq_19)) (below_size tq_0)) <| a_ (below_step tq_0 hb)
                clear HO_3 HO313 HO317 HO320 HO323 HO326 HO330 HB
                obtain ⟨HO_3, HO313, HO317, HO320, HO323, HO326, HO330, HO334, HB⟩ := z_
                (try clear hb)
                (try clear hb2)
                (try clear hk)
                (try clear hi)
                (try clear ho0)
                obtain ⟨Ao82, co82, eo82⟩ := Kd.R_slice HO334.out
                (first | subst eo82 | (injection eo82 with f1_ f2_ f3_; have f4_ := f1_.symm; have f5_ := f3_.symm; clear f1_ f2_ f3_; subst f4_; subst f5_))
                obtain ⟨Ao83, co83, eo83⟩ := Kd.R_slice HO330.out
                (first | subst eo83 | (injection eo83 with f1_ f2_ f3_; have f4_ := f1_.symm; have f5_ := f3_.symm; clear f1_ f2_ f3_; subst f4_; subst f5_))
                refine hK.out _ _ HS0_ (fun hHeld => ?_)
                clear hK K
                refine nm_ (some 85) ?_
                refine yq_ (i := 16) (N := some 86) bq_17 (any_of HT_.out (by kernel_rfl)) ?_
                refine yq_ (i := 17) (N := some 87) bq_18 (any_of HT_.out (by kernel_rfl)) ?_
                refine yq_ (i := 18) (N := some 88) bq_19 (any_of HT_.out (by kernel_rfl)) ?_
                refine yq_ (i := 19) (N := some 89) bq_20 (any_of HT_.out (by kernel_rfl)) ?_
                refine yq_ (i := 20) (N := some 90) bq_21 (any_of HT_.out (by kernel_rfl)) ?_
                refine yq_ (i := 21) (N := some 91) bq_22 (any_of HT_.out (by kernel_rfl)) ?_
                refine yq_ (i := 22) (N := some 92) bq_23 (any_of HT_.out (by kernel_rfl)) ?_
                refine yq_ (i := 23) (N := some 93) bq_24 (any_of HT_.out (by kernel_rfl)) ?_
                refine yq_ (i := 24) (N := some 94) bq_25 (any_of HT_.out (by kernel_rfl)) ?_
                refine yq_ (i := 25) (N := some 95) bq_26 (any_of HT_.out (by kernel_rfl)) ?_
                refine yq_ (i := 26) (N := some 96) bq_27 (any_of HT_.out (by kernel_rfl)) ?_
                refine yq_ (i := 27) (N := some 97) bq_28 (any_of HT_.out (by kernel_rfl)) ?_
                refine yq_ (i := 28) (N := some 98) bq_29 (any_of HT_.out (by kernel_rfl)) ?_
                refine yq_ (i := 29) (N := some 99) bq_30 (any_of HT_.out (by kernel_rfl)) ?_
                refine yq_ (i := 31) (N := some 101) bq_47 (any_of HT_.out (by kernel_rfl)) ?_
                refine tk_ (i := 30) (N := some 100) bq_31 (take_ofW HT_.out HW_.out (by kernel_rfl)) hHeld ?_
                refine one_ (i := 32) (N := some 102) bq_32 rfl rfl (one_of HT_.out (by kernel_rfl)) (by decide) (fun K hK => ?_)
                refine goes_ Try.func66 (by kernel_rfl) rfl #[.slice Ao11 t287.length co11, .int .i64 0] (by rfl) rfl rfl tq_1 ?_
                with_reducible refine (spec_PagesWith.calls kj18 _ _ t287 0 t336 _ ?side1 ?side2 A48.out).mono ?_
                (case side1 => exact tq_3)
                (case side2 => exact (Kd.R_reads' HO_3.out).2.1)
                rintro e w84 ⟨v337, rfl, ho0, hb⟩
                have HS0_ := (hb.cell (World.block_lt_of_cell? _ _ hHeld)).trans hHeld
                refine ⟨_, rfl, ?_⟩
                have z_ := p_ (Kd.R_elder' tq_2 (Kd.R_base ho0) hb) <| p_ (Kd.R_below tq_7 hb) <| p_ (Kd.R_elder' tq_5 (Kd.R_base ho0) hb) <| p_ (Kd.R_elder' tq_6 (Kd.R_base ho0) hb) <| p_ (Kd.R_elder' tq_8 (Kd.R_base ho0) hb) <| p_ (Kd.R_elder' tq_15 (Kd.R_base ho0) hb) <| p_ (Kd.R_elder' tq_19 (Kd.R_base ho0) hb) <| p_ (Kd.R_elder' tq_36 (Kd.R_base ho0) hb) <| p_ (Kd.R_lower (Kd.R_new' (Kd.R_new' (Kd.R_new' (Kd.R_new' (Kd.R_new' (Kd.R_new' (Kd.R_new' ho0 (Kd.R_lt tq_2)) (Kd.R_lt tq_5)) (Kd.R_lt tq_6)) (Kd.R_lt tq_8)) (Kd.R_lt tq_15)) (Kd.R_lt tq_19)) (Kd.R_lt tq_36)) (below_size tq_0)) <| a_ (below_step tq_0 hb)
                clear HO_3 HO313 HO317 HO320 HO323 HO326 HO330 HO334 HB
                obtain ⟨HO_3, HO313, HO317, HO320, HO323, HO326, HO330, HO334, HO338, HB⟩ := z_
                (try clear hb)
                (try clear hb2)
                (try clear hk)
                (try clear hi)
                (try clear ho0)
                obtain ⟨Ao85, co85, eo85⟩ := Kd.R_slice HO338.out
                (first | subst eo85 | (injection eo85 with f1_ f2_ f3_; have f4_ := f1_.symm; have f5_ := f3_.symm; clear f1_ f2_ f3_; subst f4_; subst f5_))
                have p339 : 0 ≤ (0 : Int) := (by omega)
                have q339 : 0 < (t336.length : Int) := of_decide_eq_true tq_14
                (try (obtain ⟨Aq339, cq339, eq339⟩ := Kd.R_slice HO338.out; (first | subst eq339 | clear eq339)))
                obtain ⟨ad339, e339, hx339_0⟩ := Kd.at_int (Kd.R_reads' HO338.out).2.2 0 p339 q339
                cases e339
                have qi339 : (0 < t336.length) = True := eq_true (by omega)
                (try rw [show ((0 : Int)).toNat = 0 from rfl] at hx339_0)
                (try rw [Addr.add_zero'] at hx339_0)
                replace p339 := eq_true p339
                replace q339 := eq_true q339
                refine hK.out _ _ HS0_ (fun hHeld => ?_)
                clear hK K
                refine nm_ (some 102) ?_
                refine more_ (S' := fun w' => w'.cell? ad335 = some (.int .i64 (rd t327 0)) ∧ w'.cell? ad339 = some (.int .i64 (rd t336 0))) (fun _ h => h.1) _ _ _ _ ⟨hHeld, hx339_0⟩ ?_
                have hHeld := And.intro hHeld hx339_0
                refine yq_ (i := 33) (N := some 103) bq_33 (any_of HT_.out (by kernel_rfl)) ?_
                refine tk_ (i := 34) (N := some 104) bq_34 (take_ofW HT_.out HW_.out (by kernel_rfl)) hHeld ?_
                refine yq_ (i := 35) (N := some 105) bq_35 (any_of HT_.out (by kernel_rfl)) ?_
                refine yq_ (i := 36) (N := some 106) bq_36 (any_of HT_.out (by kernel_rfl)) ?_
                refine yq_ (i := 37) (N := some 107) bq_37 (any_of HT_.out (by kernel_rfl)) ?_
                refine yq_ (i := 38) (N := some 108) bq_38 (any_of HT_.out (by kernel_rfl)) ?_
                refine yq_ (i := 39) (N := some 109) bq_39 (any_of HT_.out (by kernel_rfl)) ?_
                refine uq_ (i := 40) (N := some 110) bq_40 (any_of HT_.out (by kernel_rfl)) ?_
                refine uq_ (i := 41) (N := some 111) bq_41 (any_of HT_.out (by kernel_rfl)) ?_
                refine uq_ (i := 42) (N := some 112) bq_42 (any_of HT_.out (by kernel_rfl)) ?_
                refine uq_ (i := 43) (N := some 113) bq_43 (any_of HT_.out (by kernel_rfl)) ?_
                refine yq_ (i := 44) (N := some 114) bq_44 (any_of HT_.out (by kernel_rfl)) ?_
                refine yq_ (i := 45) (N := some 2) bq_45 (any_of HT_.out (by kernel_rfl)) ?_
                refine done_ (done_of HT_.out (by kernel_rfl)) ?_
                try go_wp2
                go_ret
                exact ⟨tq_13, tq_0⟩
              ·rw [if_neg c49] at H
               exact absurd H (by simp)
             ·rw [if_neg c47] at H
              exact absurd H (by simp)
            ·rw [if_neg c46] at H
             have c46b0 : ((t327.length : Int) == 1) = false := beq_eq_false_iff_ne.mpr c46
             have c46b1 : ((t327.length : Int) != 1) = true := bne_iff_ne.mpr c46
             obtain rfl := Option.some.inj H
             try go_wp2_with (first | ((with_reducible refine gate_callee (f := 62) rfl ?_); refine goesL_ (some 48) rfl rfl Try.func62 (by kernel_rfl) rfl #[.slice Ao11 t287.length co11] rfl tq_1 ?_; (with_reducible refine (impl_StatesWords.calls kj18 _ _ t287 t311 _ ?side1 ?side2 A33.out).mono ?_); (case side1 => exact tq_3); (case side2 => exact (Kd.R_reads' HO_3.out).2.1); rintro e w86 ⟨v312, rfl, ho0, hb⟩; refine ⟨_, rfl, ?_⟩; have z_ := p_ (Kd.R_below tq_2 hb) <| p_ (Kd.R_lower ho0 (below_size tq_0)) <| a_ (below_step tq_0 hb); clear HO_3 HB; obtain ⟨HO_3, HO313, HB⟩ := z_; (try clear hb); (try clear hb2); (try clear hk); (try clear hi); (try clear ho0); obtain ⟨Ao87, co87, eo87⟩ := Kd.R_slice HO313.out; subst eo87) | ((with_reducible refine gate_callee (f := 63) rfl ?_); refine goesL_ (some 51) rfl rfl Try.func63 (by kernel_rfl) rfl #[.slice Ao87 t311.length co87, .int .i64 (t287.length : Int)] rfl tq_1 ?_; (with_reducible refine (impl_ReadStates.calls kj18 _ _ t311 (t287.length : Int) t314 true _ ?side1 ?side2 A34.out).mono ?_); (case side1 => exact tq_21); (case side2 => exact (Kd.R_reads' HO313.out).2.1); rintro e w88 ⟨v316, rfl, ho0, hb⟩; refine ⟨_, rfl, ?_⟩; have z_ := p_ (Kd.R_elder' tq_2 (Kd.R_base ho0) hb) <| p_ (Kd.R_below tq_7 hb) <| p_ (Kd.R_lower (Kd.R_new' ho0 (Kd.R_lt tq_2)) (below_size tq_0)) <| a_ (below_step tq_0 hb); clear HO_3 HO313 HB; obtain ⟨HO_3, HO313, HO317, HB⟩ := z_; (try clear hb); (try clear hb2); (try clear hk); (try clear hi); (try clear ho0)) | ((with_reducible refine gate_callee (f := 64) rfl ?_); refine goesL_ (some 55) rfl rfl Try.func64 (by kernel_rfl) rfl #[.slice Ao11 t287.length co11, .int .i64 0] rfl tq_1 ?_; (with_reducible refine (impl_PagesWith.calls kj18 _ _ t287 0 t318 _ ?side1 ?side2 A35.out).mono ?_); (case side1 => exact tq_3); (case side2 => exact (Kd.R_reads' HO_3.out).2.1); rintro e w89 ⟨v319, rfl, ho0, hb⟩; refine ⟨_, rfl, ?_⟩; have z_ := p_ (Kd.R_elder' tq_2 (Kd.R_base ho0) hb) <| p_ (Kd.R_below tq_7 hb) <| p_ (Kd.R_elder' tq_5 (Kd.R_base ho0) hb) <| p_ (Kd.R_lower (Kd.R_new' (Kd.R_new' ho0 (Kd.R_lt tq_2)) (Kd.R_lt tq_5)) (below_size tq_0)) <| a_ (below_step tq_0 hb); clear HO_3 HO313 HO317 HB; obtain ⟨HO_3, HO313, HO317, HO320, HB⟩ := z_; (try clear hb); (try clear hb2); (try clear hk); (try clear hi); (try clear ho0); obtain ⟨Ao90, co90, eo90⟩ := Kd.R_slice HO320.out; subst eo90) | ((with_reducible refine gate_callee (f := 64) rfl ?_); refine goesL_ (some 58) rfl rfl Try.func64 (by kernel_rfl) rfl #[.slice Ao11 t287.length co11, .int .i64 1] rfl tq_1 ?_; (with_reducible refine (impl_PagesWith.calls kj18 _ _ t287 1 t321 _ ?side1 ?side2 A36.out).mono ?_); (case side1 => exact tq_3); (case side2 => exact (Kd.R_reads' HO_3.out).2.1); rintro e w91 ⟨v322, rfl, ho0, hb⟩; refine ⟨_, rfl, ?_⟩; have z_ := p_ (Kd.R_elder' tq_2 (Kd.R_base ho0) hb) <| p_ (Kd.R_below tq_7 hb) <| p_ (Kd.R_elder' tq_5 (Kd.R_base ho0) hb) <| p_ (Kd.R_elder' tq_6 (Kd.R_base ho0) hb) <| p_ (Kd.R_lower (Kd.R_new' (Kd.R_new' (Kd.R_new' ho0 (Kd.R_lt tq_2)) (Kd.R_lt tq_5)) (Kd.R_lt tq_6)) (below_size tq_0)) <| a_ (below_step tq_0 hb); clear HO_3 HO313 HO317 HO320 HB; obtain ⟨HO_3, HO313, HO317, HO320, HO323, HB⟩ := z_; (try clear hb); (try clear hb2); (try clear hk); (try clear hi); (try clear ho0); obtain ⟨Ao92, co92, eo92⟩ := Kd.R_slice HO323.out; subst eo92) | ((with_reducible refine gate_callee (f := 64) rfl ?_); refine goesL_ (some 62) rfl rfl Try.func64 (by kernel_rfl) rfl #[.slice Ao11 t287.length co11, .int .i64 2] rfl tq_1 ?_; (with_reducible refine (impl_PagesWith.calls kj18 _ _ t287 2 t324 _ ?side1 ?side2 A37.out).mono ?_); (case side1 => exact tq_3); (case side2 => exact (Kd.R_reads' HO_3.out).2.1); rintro e w93 ⟨v325, rfl, ho0, hb⟩; refine ⟨_, rfl, ?_⟩; have z_ := p_ (Kd.R_elder' tq_2 (Kd.R_base ho0) hb) <| p_ (Kd.R_below tq_7 hb) <| p_ (Kd.R_elder' tq_5 (Kd.R_base ho0) hb) <| p_ (Kd.R_elder' tq_6 (Kd.R_base ho0) hb) <| p_ (Kd.R_elder' tq_8 (Kd.R_base ho0) hb) <| p_ (Kd.R_lower (Kd.R_new' (Kd.R_new' (Kd.R_new' (Kd.R_new' ho0 (Kd.R_lt tq_2)) (Kd.R_lt tq_5)) (Kd.R_lt tq_6)) (Kd.R_lt tq_8)) (below_size tq_0)) <| a_ (below_step tq_0 hb); clear HO_3 HO313 HO317 HO320 HO323 HB; obtain ⟨HO_3, HO313, HO317, HO320, HO323, HO326, HB⟩ := z_; (try clear hb); (try clear hb2); (try clear hk); (try clear hi); (try clear ho0); obtain ⟨Ao94, co94, eo94⟩ := Kd.R_slice HO326.out; subst eo94) | ((with_reducible refine gate_callee (f := 65) rfl ?_); refine goesL_ (some 67) rfl rfl Try.func65 (by kernel_rfl) rfl #[.slice Ao11 t287.length co11, .int .i64 1] rfl tq_1 ?_; (with_reducible refine (impl_FirstClean.calls kj18 _ _ t287 1 t327 true _ ?side1 ?side2 A38.out).mono ?_); (case side1 => exact tq_3); (case side2 => exact (Kd.R_reads' HO_3.out).2.1); rintro e w95 ⟨v329, rfl, ho0, hb⟩; refine ⟨_, rfl, ?_⟩; have z_ := p_ (Kd.R_elder' tq_2 (Kd.R_base ho0) hb) <| p_ (Kd.R_below tq_7 hb) <| p_ (Kd.R_elder' tq_5 (Kd.R_base ho0) hb) <| p_ (Kd.R_elder' tq_6 (Kd.R_base ho0) hb) <| p_ (Kd.R_elder' tq_8 (Kd.R_base ho0) hb) <| p_ (Kd.R_elder' tq_15 (Kd.R_base ho0) hb) <| p_ (Kd.R_lower (Kd.R_new' (Kd.R_new' (Kd.R_new' (Kd.R_new' (Kd.R_new' ho0 (Kd.R_lt tq_2)) (Kd.R_lt tq_5)) (Kd.R_lt tq_6)) (Kd.R_lt tq_8)) (Kd.R_lt tq_15)) (below_size tq_0)) <| a_ (below_step tq_0 hb); clear HO_3 HO313 HO317 HO320 HO323 HO326 HB; obtain ⟨HO_3, HO313, HO317, HO320, HO323, HO326, HO330, HB⟩ := z_; (try clear hb); (try clear hb2); (try clear hk); (try clear hi); (try clear ho0)))
             have z_ := p_ (Kd.R_drew HO_3.out) <| p_ (Kd.R_drew HO313.out) <| p_ (Kd.R_drew HO317.out) <| p_ (Kd.R_drew HO320.out) <| p_ (Kd.R_drew HO323.out) <| p_ (Kd.R_drew HO326.out) <| p_ (Kd.R_drew HO330.out) <| a_ (below_drew1 HB.out)
             clear HO_3 HO313 HO317 HO320 HO323 HO326 HO330 HB
             obtain ⟨HO_3, HO313, HO317, HO320, HO323, HO326, HO330, HB⟩ := z_
             obtain ⟨Ao97, co97, eo97⟩ := Kd.R_slice HO317.out
             (first | subst eo97 | (injection eo97 with f1_ f2_ f3_; have f4_ := f1_.symm; have f5_ := f3_.symm; clear f1_ f2_ f3_; subst f4_; subst f5_))
             refine start_ (n := 46) (S := fun w' => True) (ds := []) bq_0 (by kernel_rfl) rfl rfl trivial (fun hHeld => ?_); refine with_tabW laws_FnStates.tab12 laws_FnStates.bits12 (fun HT_ HW_ => ?_)
             generalize w95.drew = w96 at HO_3 HO313 HO317 HO320 HO323 HO326 HO330 HB hHeld ⊢
             refine yq_ (i := 0) (N := some 70) bq_1 (any_of HT_.out (by kernel_rfl)) ?_
             refine yq_ (i := 1) (N := some 71) bq_2 (any_of HT_.out (by kernel_rfl)) ?_
             refine yq_ (i := 2) (N := some 72) bq_3 (any_of HT_.out (by kernel_rfl)) ?_
             refine yq_ (i := 3) (N := some 73) bq_4 (any_of HT_.out (by kernel_rfl)) ?_
             refine one_ (i := 4) (N := some 74) bq_5 rfl rfl (one_of HT_.out (by kernel_rfl)) (by decide) (fun K hK => ?_)
             refine goes_ Try.func59 (by kernel_rfl) rfl #[.slice Ao97 t314.length co97, .slice Ao11 t287.length co11] (by rfl) rfl rfl tq_1 ?_
             with_reducible refine (laws_sameInts.calls kj18 _ _ t314 _ _ t287 true _ ?side1 ?side2 ?side3 ?side4 A40.out).mono ?_
             (case side1 => exact tq_25)
             (case side2 => exact (Kd.R_reads' HO317.out).2.1)
             (case side3 => exact tq_3)
             (case side4 => exact (Kd.R_reads' HO_3.out).2.1)
             rintro e w' ⟨rfl, ⟨nd, rfl⟩⟩
             refine ⟨_, rfl, ?_⟩
             refine hK.out _ _ trivial (fun hHeld => ?_)
             clear hK K
             refine nm_ (some 74) ?_
             refine yq_ (i := 5) (N := some 75) bq_6 (any_of HT_.out (by kernel_rfl)) ?_
             refine yq_ (i := 6) (N := some 76) bq_7 (any_of HT_.out (by kernel_rfl)) ?_
             refine yq_ (i := 7) (N := some 77) bq_8 (any_of HT_.out (by kernel_rfl)) ?_
             refine yq_ (i := 8) (N := some 78) bq_9 (any_of HT_.out (by kernel_rfl)) ?_
             refine yq_ (i := 9) (N := some 79) bq_10 (any_of HT_.out (by kernel_rfl)) ?_
             refine yq_ (i := 10) (N := some 80) bq_11 (any_of HT_.out (by kernel_rfl)) ?_
             refine yq_ (i := 11) (N := some 81) bq_12 (any_of HT_.out (by kernel_rfl)) ?_
             refine yq_ (i := 12) (N := some 82) bq_13 (any_of HT_.out (by kernel_rfl)) ?_
             refine yq_ (i := 13) (N := some 83) bq_14 (any_of HT_.out (by kernel_rfl)) ?_
             refine yq_ (i := 14) (N := some 84) bq_15 (any_of HT_.out (by kernel_rfl)) ?_
             refine one_ (i := 15) (N := some 85) bq_16 rfl rfl (one_of HT_.out (by kernel_rfl)) (by decide) (fun K hK => ?_)
             refine goes_ Try.func66 (by kernel_rfl) rfl #[.slice Ao11 t287.length co11, .int .i64 0] (by rfl) rfl rfl tq_1 ?_
             with_reducible refine (spec_PagesWith.calls kj18 _ _ t287 0 t332 _ ?side1 ?side2 A43.out).mono ?_
             (case side1 => exact tq_3)
             (case side2 => exact (Kd.R_reads' HO_3.out).2.1)
             rintro e w98 ⟨v333, rfl, ho0, hb⟩
             refine ⟨_, rfl, ?_⟩
             have z_ := p_ (Kd.R_elder' tq_2 (Kd.R_base ho0) hb) <| p_ (Kd.R_below tq_7 hb) <| p_ (Kd.R_elder' tq_5 (Kd.R_base ho0) hb) <| p_ (Kd.R_elder' tq_6 (Kd.R_base ho0) hb) <| p_ (Kd.R_elder' tq_8 (Kd.R_base ho0) hb) <| p_ (Kd.R_elder' tq_15 (Kd.R_base ho0) hb) <| p_ (Kd.R_elder' tq_19 (Kd.R_base ho0) hb) <| p_ (Kd.R_lower (Kd.R_new' (Kd.R_new' (Kd.R_new' (Kd.R_new' (Kd.R_new' (Kd.R_new' ho0 (Kd.R_lt tq_2)) (Kd.R_lt tq_5)) (Kd.R_lt tq_6)) (Kd.R_lt tq_8)) (Kd.R_lt tq_15)) (Kd.R_lt tq_19)) (below_size tq_0)) <| a_ (below_step tq_0 hb)
             clear HO_3 HO313 HO317 HO320 HO323 HO326 HO330 HB
             obtain ⟨HO_3, HO313, HO317, HO320, HO323, HO326, HO330, HO334, HB⟩ := z_
             (try clear hb)
             (try clear hb2)
             (try clear hk)
             (try clear hi)
             (try clear ho0)
             obtain ⟨Ao99, co99, eo99⟩ := Kd.R_slice HO334.out
             (first | subst eo99 | (injection eo99 with f1_ f2_ f3_; have f4_ := f1_.symm; have f5_ := f3_.symm; clear f1_ f2_ f3_; subst f4_; subst f5_))
             obtain ⟨Ao100, co100, eo100⟩ := Kd.R_slice HO330.out
             (first | subst eo100 | (injection eo100 with f1_ f2_ f3_; have f4_ := f1_.symm; have f5_ := f3_.symm; clear f1_ f2_ f3_; subst f4_; subst f5_))
             refine hK.out _ _ trivial (fun hHeld => ?_)
             clear hK K
             refine nm_ (some 85) ?_
             refine yq_ (i := 16) (N := some 86) bq_17 (any_of HT_.out (by kernel_rfl)) ?_
             refine yq_ (i := 17) (N := some 87) bq_18 (any_of HT_.out (by kernel_rfl)) ?_
             refine yq_ (i := 18) (N := some 88) bq_19 (any_of HT_.out (by kernel_rfl)) ?_
             refine yq_ (i := 19) (N := some 89) bq_20 (any_of HT_.out (by kernel_rfl)) ?_
             refine yq_ (i := 20) (N := some 90) bq_21 (any_of HT_.out (by kernel_rfl)) ?_
             refine yq_ (i := 21) (N := some 91) bq_22 (any_of HT_.out (by kernel_rfl)) ?_
             refine yq_ (i := 22) (N := some 92) bq_23 (any_of HT_.out (by kernel_rfl)) ?_
             refine yq_ (i := 23) (N := some 93) bq_24 (any_of HT_.out (by kernel_rfl)) ?_
             refine yq_ (i := 24) (N := some 94) bq_25 (any_of HT_.out (by kernel_rfl)) ?_
             refine yq_ (i := 25) (N := some 95) bq_26 (any_of HT_.out (by kernel_rfl)) ?_
             refine yq_ (i := 26) (N := some 96) bq_27 (any_of HT_.out (by kernel_rfl)) ?_
             refine yq_ (i := 27) (N := some 97) bq_28 (any_of HT_.out (by kernel_rfl)) ?_
             refine uq_ (i := 28) (N := some 98) bq_29 (any_of HT_.out (by kernel_rfl)) ?_
             refine uq_ (i := 29) (N := some 99) bq_30 (any_of HT_.out (by kernel_rfl)) ?_
             refine uq_ (i := 30) (N := some 100) bq_46 (any_of HT_.out (by kernel_rfl)) ?_
             refine uq_ (i := 31) (N := some 101) bq_31 (any_of HT_.out (by kernel_rfl)) ?_
             refine uq_ (i := 32) (N := some 102) bq_32 (any_of HT_.out (by kernel_rfl)) ?_
             refine uq_ (i := 33) (N := some 103) bq_33 (any_of HT_.out (by kernel_rfl)) ?_
             refine uq_ (i := 34) (N := some 104) bq_34 (any_of HT_.out (by kernel_rfl)) ?_
             refine uq_ (i := 35) (N := some 105) bq_35 (any_of HT_.out (by kernel_rfl)) ?_
             refine yq_ (i := 36) (N := some 106) bq_36 (any_of HT_.out (by kernel_rfl)) ?_
             refine yq_ (i := 37) (N := some 107) bq_37 (any_of HT_.out (by kernel_rfl)) ?_
             refine yq_ (i := 38) (N := some 108) bq_38 (any_of HT_.out (by kernel_rfl)) ?_
             refine yq_ (i := 39) (N := some 109) bq_39 (any_of HT_.out (by kernel_rfl)) ?_
             refine uq_ (i := 40) (N := some 110) bq_40 (any_of HT_.out (by kernel_rfl)) ?_
             refine uq_ (i := 41) (N := some 111) bq_41 (any_of HT_.out (by kernel_rfl)) ?_
             refine uq_ (i := 42) (N := some 112) bq_42 (any_of HT_.out (by kernel_rfl)) ?_
             refine uq_ (i := 43) (N := some 113) bq_43 (any_of HT_.out (by kernel_rfl)) ?_
             refine yq_ (i := 44) (N := some 114) bq_44 (any_of HT_.out (by kernel_rfl)) ?_
             refine yq_ (i := 45) (N := some 2) bq_45 (any_of HT_.out (by kernel_rfl)) ?_
             refine done_ (done_of HT_.out (by kernel_rfl)) ?_
             try go_wp2
             go_ret
             exact ⟨tq_13, tq_0⟩
           ·replace c45 := Bool.eq_false_iff.mpr c45
            subst c45
            have c44b0t : decide (0 < t332.length) = false := by simpa using c44b0
            have H1 : ((impl_StatesOk.f kj18 t287 (t287.length : Int)).bind fun t341 => (some t341)) = some r := by rw [if_neg (show ¬ (false = true) by decide)] at H; exact H
            clear H
            have H := H1
            clear H1
            replace H := Option.bind_eq_some_iff.mp H
            obtain ⟨t341, A1010, H⟩ := H
            replace H : (some t341) = some r := H
            have A101 := Aside0.mk A1010
            clear A1010
            obtain rfl := Option.some.inj H
            try go_wp2_with (first | ((with_reducible refine gate_callee (f := 62) rfl ?_); refine goesL_ (some 48) rfl rfl Try.func62 (by kernel_rfl) rfl #[.slice Ao11 t287.length co11] rfl tq_1 ?_; (with_reducible refine (impl_StatesWords.calls kj18 _ _ t287 t311 _ ?side1 ?side2 A33.out).mono ?_); (case side1 => exact tq_3); (case side2 => exact (Kd.R_reads' HO_3.out).2.1); rintro e w102 ⟨v312, rfl, ho0, hb⟩; refine ⟨_, rfl, ?_⟩; have z_ := p_ (Kd.R_below tq_2 hb) <| p_ (Kd.R_lower ho0 (below_size tq_0)) <| a_ (below_step tq_0 hb); clear HO_3 HB; obtain ⟨HO_3, HO313, HB⟩ := z_; (try clear hb); (try clear hb2); (try clear hk); (try clear hi); (try clear ho0); obtain ⟨Ao103, co103, eo103⟩ := Kd.R_slice HO313.out; subst eo103) | ((with_reducible refine gate_callee (f := 63) rfl ?_); refine goesL_ (some 51) rfl rfl Try.func63 (by kernel_rfl) rfl #[.slice Ao103 t311.length co103, .int .i64 (t287.length : Int)] rfl tq_1 ?_; (with_reducible refine (impl_ReadStates.calls kj18 _ _ t311 (t287.length : Int) t314 true _ ?side1 ?side2 A34.out).mono ?_); (case side1 => exact tq_21); (case side2 => exact (Kd.R_reads' HO313.out).2.1); rintro e w104 ⟨v316, rfl, ho0, hb⟩; refine ⟨_, rfl, ?_⟩; have z_ := p_ (Kd.R_elder' tq_2 (Kd.R_base ho0) hb) <| p_ (Kd.R_below tq_7 hb) <| p_ (Kd.R_lower (Kd.R_new' ho0 (Kd.R_lt tq_2)) (below_size tq_0)) <| a_ (below_step tq_0 hb); clear HO_3 HO313 HB; obtain ⟨HO_3, HO313, HO317, HB⟩ := z_; (try clear hb); (try clear hb2); (try clear hk); (try clear hi); (try clear ho0)) | ((with_reducible refine gate_callee (f := 64) rfl ?_); refine goesL_ (some 55) rfl rfl Try.func64 (by kernel_rfl) rfl #[.slice Ao11 t287.length co11, .int .i64 0] rfl tq_1 ?_; (with_reducible refine (impl_PagesWith.calls kj18 _ _ t287 0 t318 _ ?side1 ?side2 A35.out).mono ?_); (case side1 => exact tq_3); (case side2 => exact (Kd.R_reads' HO_3.out).2.1); rintro e w105 ⟨v319, rfl, ho0, hb⟩; refine ⟨_, rfl, ?_⟩; have z_ := p_ (Kd.R_elder' tq_2 (Kd.R_base ho0) hb) <| p_ (Kd.R_below tq_7 hb) <| p_ (Kd.R_elder' tq_5 (Kd.R_base ho0) hb) <| p_ (Kd.R_lower (Kd.R_new' (Kd.R_new' ho0 (Kd.R_lt tq_2)) (Kd.R_lt tq_5)) (below_size tq_0)) <| a_ (below_step tq_0 hb); clear HO_3 HO313 HO317 HB; obtain ⟨HO_3, HO313, HO317, HO320, HB⟩ := z_; (try clear hb); (try clear hb2); (try clear hk); (try clear hi); (try clear ho0); obtain ⟨Ao106, co106, eo106⟩ := Kd.R_slice HO320.out; subst eo106) | ((with_reducible refine gate_callee (f := 64) rfl ?_); refine goesL_ (some 58) rfl rfl Try.func64 (by kernel_rfl) rfl #[.slice Ao11 t287.length co11, .int .i64 1] rfl tq_1 ?_; (with_reducible refine (impl_PagesWith.calls kj18 _ _ t287 1 t321 _ ?side1 ?side2 A36.out).mono ?_); (case side1 => exact tq_3); (case side2 => exact (Kd.R_reads' HO_3.out).2.1); rintro e w107 ⟨v322, rfl, ho0, hb⟩; refine ⟨_, rfl, ?_⟩; have z_ := p_ (Kd.R_elder' tq_2 (Kd.R_base ho0) hb) <| p_ (Kd.R_below tq_7 hb) <| p_ (Kd.R_elder' tq_5 (Kd.R_base ho0) hb) <| p_ (Kd.R_elder' tq_6 (Kd.R_base ho0) hb) <| p_ (Kd.R_lower (Kd.R_new' (Kd.R_new' (Kd.R_new' ho0 (Kd.R_lt tq_2)) (Kd.R_lt tq_5)) (Kd.R_lt tq_6)) (below_size tq_0)) <| a_ (below_step tq_0 hb); clear HO_3 HO313 HO317 HO320 HB; obtain ⟨HO_3, HO313, HO317, HO320, HO323, HB⟩ := z_; (try clear hb); (try clear hb2); (try clear hk); (try clear hi); (try clear ho0); obtain ⟨Ao108, co108, eo108⟩ := Kd.R_slice HO323.out; subst eo108) | ((with_reducible refine gate_callee (f := 64) rfl ?_); refine goesL_ (some 62) rfl rfl Try.func64 (by kernel_rfl) rfl #[.slice Ao11 t287.length co11, .int .i64 2] rfl tq_1 ?_; (with_reducible refine (impl_PagesWith.calls kj18 _ _ t287 2 t324 _ ?side1 ?side2 A37.out).mono ?_); (case side1 => exact tq_3); (case side2 => exact (Kd.R_reads' HO_3.out).2.1); rintro e w109 ⟨v325, rfl, ho0, hb⟩; refine ⟨_, rfl, ?_⟩; have z_ := p_ (Kd.R_elder' tq_2 (Kd.R_base ho0) hb) <| p_ (Kd.R_below tq_7 hb) <| p_ (Kd.R_elder' tq_5 (Kd.R_base ho0) hb) <| p_ (Kd.R_elder' tq_6 (Kd.R_base ho0) hb) <| p_ (Kd.R_elder' tq_8 (Kd.R_base ho0) hb) <| p_ (Kd.R_lower (Kd.R_new' (Kd.R_new' (Kd.R_new' (Kd.R_new' ho0 (Kd.R_lt tq_2)) (Kd.R_lt tq_5)) (Kd.R_lt tq_6)) (Kd.R_lt tq_8)) (below_size tq_0)) <| a_ (below_step tq_0 hb); clear HO_3 HO313 HO317 HO320 HO323 HB; obtain ⟨HO_3, HO313, HO317, HO320, HO323, HO326, HB⟩ := z_; (try clear hb); (try clear hb2); (try clear hk); (try clear hi); (try clear ho0); obtain ⟨Ao110, co110, eo110⟩ := Kd.R_slice HO326.out; subst eo110) | ((with_reducible refine gate_callee (f := 65) rfl ?_); refine goesL_ (some 67) rfl rfl Try.func65 (by kernel_rfl) rfl #[.slice Ao11 t287.length co11, .int .i64 1] rfl tq_1 ?_; (with_reducible refine (impl_FirstClean.calls kj18 _ _ t287 1 t327 false _ ?side1 ?side2 A38.out).mono ?_); (case side1 => exact tq_3); (case side2 => exact (Kd.R_reads' HO_3.out).2.1); rintro e w111 ⟨v329, rfl, ho0, hb⟩; refine ⟨_, rfl, ?_⟩; have z_ := p_ (Kd.R_elder' tq_2 (Kd.R_base ho0) hb) <| p_ (Kd.R_below tq_7 hb) <| p_ (Kd.R_elder' tq_5 (Kd.R_base ho0) hb) <| p_ (Kd.R_elder' tq_6 (Kd.R_base ho0) hb) <| p_ (Kd.R_elder' tq_8 (Kd.R_base ho0) hb) <| p_ (Kd.R_elder' tq_15 (Kd.R_base ho0) hb) <| p_ (Kd.R_lower (Kd.R_new' (Kd.R_new' (Kd.R_new' (Kd.R_new' (Kd.R_new' ho0 (Kd.R_lt tq_2)) (Kd.R_lt tq_5)) (Kd.R_lt tq_6)) (Kd.R_lt tq_8)) (Kd.R_lt tq_15)) (below_size tq_0)) <| a_ (below_step tq_0 hb); clear HO_3 HO313 HO317 HO320 HO323 HO326 HB; obtain ⟨HO_3, HO313, HO317, HO320, HO323, HO326, HO330, HB⟩ := z_; (try clear hb); (try clear hb2); (try clear hk); (try clear hi); (try clear ho0)))
            have z_ := p_ (Kd.R_drew HO_3.out) <| p_ (Kd.R_drew HO313.out) <| p_ (Kd.R_drew HO317.out) <| p_ (Kd.R_drew HO320.out) <| p_ (Kd.R_drew HO323.out) <| p_ (Kd.R_drew HO326.out) <| p_ (Kd.R_drew HO330.out) <| a_ (below_drew1 HB.out)
            clear HO_3 HO313 HO317 HO320 HO323 HO326 HO330 HB
            obtain ⟨HO_3, HO313, HO317, HO320, HO323, HO326, HO330, HB⟩ := z_
            obtain ⟨Ao113, co113, eo113⟩ := Kd.R_slice HO317.out
            (first | subst eo113 | (injection eo113 with f1_ f2_ f3_; have f4_ := f1_.symm; have f5_ := f3_.symm; clear f1_ f2_ f3_; subst f4_; subst f5_))
            refine start_ (n := 46) (S := fun w' => True) (ds := []) bq_0 (by kernel_rfl) rfl rfl trivial (fun hHeld => ?_); refine with_tabW laws_FnStates.tab12 laws_FnStates.bits12 (fun HT_ HW_ => ?_)
            generalize w111.drew = w112 at HO_3 HO313 HO317 HO320 HO323 HO326 HO330 HB hHeld ⊢
            refine yq_ (i := 0) (N := some 70) bq_1 (any_of HT_.out (by kernel_rfl)) ?_
            refine yq_ (i := 1) (N := some 71) bq_2 (any_of HT_.out (by kernel_rfl)) ?_
            refine yq_ (i := 2) (N := some 72) bq_3 (any_of HT_.out (by kernel_rfl)) ?_
            refine yq_ (i := 3) (N := some 73) bq_4 (any_of HT_.out (by kernel_rfl)) ?_
            refine one_ (i := 4) (N := some 74) bq_5 rfl rfl (one_of HT_.out (by kernel_rfl)) (by decide) (fun K hK => ?_)
            refine goes_ Try.func59 (by kernel_rfl) rfl #[.slice Ao113 t314.length co113, .slice Ao11 t287.length co11] (by rfl) rfl rfl tq_1 ?_
            with_reducible refine (laws_sameInts.calls kj18 _ _ t314 _ _ t287 true _ ?side1 ?side2 ?side3 ?side4 A40.out).mono ?_
            (case side1 => exact tq_25)
            (case side2 => exact (Kd.R_reads' HO317.out).2.1)
            (case side3 => exact tq_3)
            (case side4 => exact (Kd.R_reads' HO_3.out).2.1)
            rintro e w' ⟨rfl, ⟨nd, rfl⟩⟩
            refine ⟨_, rfl, ?_⟩
            refine hK.out _ _ trivial (fun hHeld => ?_)
            clear hK K
            refine nm_ (some 74) ?_
            refine yq_ (i := 5) (N := some 75) bq_6 (any_of HT_.out (by kernel_rfl)) ?_
            refine yq_ (i := 6) (N := some 76) bq_7 (any_of HT_.out (by kernel_rfl)) ?_
            refine yq_ (i := 7) (N := some 77) bq_8 (any_of HT_.out (by kernel_rfl)) ?_
            refine yq_ (i := 8) (N := some 78) bq_9 (any_of HT_.out (by kernel_rfl)) ?_
            refine yq_ (i := 9) (N := some 79) bq_10 (any_of HT_.out (by kernel_rfl)) ?_
            refine yq_ (i := 10) (N := some 80) bq_11 (any_of HT_.out (by kernel_rfl)) ?_
            refine yq_ (i := 11) (N := some 81) bq_12 (any_of HT_.out (by kernel_rfl)) ?_
            refine yq_ (i := 12) (N := some 82) bq_13 (any_of HT_.out (by kernel_rfl)) ?_
            refine yq_ (i := 13) (N := some 83) bq_14 (any_of HT_.out (by kernel_rfl)) ?_
            refine yq_ (i := 14) (N := some 84) bq_15 (any_of HT_.out (by kernel_rfl)) ?_
            refine one_ (i := 15) (N := some 85) bq_16 rfl rfl (one_of HT_.out (by kernel_rfl)) (by decide) (fun K hK => ?_)
            refine goes_ Try.func66 (by kernel_rfl) rfl #[.slice Ao11 t287.length co11, .int .i64 0] (by rfl) rfl rfl tq_1 ?_
            with_reducible refine (spec_PagesWith.calls kj18 _ _ t287 0 t332 _ ?side1 ?side2 A43.out).mono ?_
            (case side1 => exact tq_3)
            (case side2 => exact (Kd.R_reads' HO_3.out).2.1)
            rintro e w114 ⟨v333, rfl, ho0, hb⟩
            refine ⟨_, rfl, ?_⟩
            have z_ := p_ (Kd.R_elder' tq_2 (Kd.R_base ho0) hb) <| p_ (Kd.R_below tq_7 hb) <| p_ (Kd.R_elder' tq_5 (Kd.R_base ho0) hb) <| p_ (Kd.R_elder' tq_6 (Kd.R_base ho0) hb) <| p_ (Kd.R_elder' tq_8 (Kd.R_base ho0) hb) <| p_ (Kd.R_elder' tq_15 (Kd.R_base ho0) hb) <| p_ (Kd.R_elder' tq_19 (Kd.R_base ho0) hb) <| p_ (Kd.R_lower (Kd.R_new' (Kd.R_new' (Kd.R_new' (Kd.R_new' (Kd.R_new' (Kd.R_new' ho0 (Kd.R_lt tq_2)) (Kd.R_lt tq_5)) (Kd.R_lt tq_6)) (Kd.R_lt tq_8)) (Kd.R_lt tq_15)) (Kd.R_lt tq_19)) (below_size tq_0)) <| a_ (below_step tq_0 hb)
            clear HO_3 HO313 HO317 HO320 HO323 HO326 HO330 HB
            obtain ⟨HO_3, HO313, HO317, HO320, HO323, HO326, HO330, HO334, HB⟩ := z_
            (try clear hb)
            (try clear hb2)
            (try clear hk)
            (try clear hi)
            (try clear ho0)
            obtain ⟨Ao115, co115, eo115⟩ := Kd.R_slice HO334.out
            (first | subst eo115 | (injection eo115 with f1_ f2_ f3_; have f4_ := f1_.symm; have f5_ := f3_.symm; clear f1_ f2_ f3_; subst f4_; subst f5_))
            refine hK.out _ _ trivial (fun hHeld => ?_)
            clear hK K
            refine nm_ (some 85) ?_
            refine yq_ (i := 16) (N := some 86) bq_17 (any_of HT_.out (by kernel_rfl)) ?_
            refine yq_ (i := 17) (N := some 87) bq_18 (any_of HT_.out (by kernel_rfl)) ?_
            refine yq_ (i := 18) (N := some 88) bq_19 (any_of HT_.out (by kernel_rfl)) ?_
            refine yq_ (i := 19) (N := some 89) bq_20 (any_of HT_.out (by kernel_rfl)) ?_
            refine yq_ (i := 20) (N := some 90) bq_21 (any_of HT_.out (by kernel_rfl)) ?_
            refine yq_ (i := 21) (N := some 91) bq_22 (any_of HT_.out (by kernel_rfl)) ?_
            refine yq_ (i := 22) (N := some 92) bq_23 (any_of HT_.out (by kernel_rfl)) ?_
            refine yq_ (i := 23) (N := some 93) bq_24 (any_of HT_.out (by kernel_rfl)) ?_
            refine uq_ (i := 24) (N := some 94) bq_25 (any_of HT_.out (by kernel_rfl)) ?_
            refine uq_ (i := 25) (N := some 95) bq_26 (any_of HT_.out (by kernel_rfl)) ?_
            refine uq_ (i := 26) (N := some 96) bq_27 (any_of HT_.out (by kernel_rfl)) ?_
            refine uq_ (i := 27) (N := some 97) bq_28 (any_of HT_.out (by kernel_rfl)) ?_
            refine uq_ (i := 28) (N := some 98) bq_29 (any_of HT_.out (by kernel_rfl)) ?_
            refine uq_ (i := 29) (N := some 99) bq_30 (any_of HT_.out (by kernel_rfl)) ?_
            refine uq_ (i := 30) (N := some 100) bq_46 (any_of HT_.out (by kernel_rfl)) ?_
            refine uq_ (i := 31) (N := some 101) bq_31 (any_of HT_.out (by kernel_rfl)) ?_
            refine uq_ (i := 32) (N := some 102) bq_32 (any_of HT_.out (by kernel_rfl)) ?_
            refine uq_ (i := 33) (N := some 103) bq_33 (any_of HT_.out (by kernel_rfl)) ?_
            refine uq_ (i := 34) (N := some 104) bq_34 (any_of HT_.out (by kernel_rfl)) ?_
            refine uq_ (i := 35) (N := some 105) bq_35 (any_of HT_.out (by kernel_rfl)) ?_
            refine uq_ (i := 36) (N := some 106) bq_36 (any_of HT_.out (by kernel_rfl)) ?_
            refine yq_ (i := 37) (N := some 107) bq_37 (any_of HT_.out (by kernel_rfl)) ?_
            refine yq_ (i := 38) (N := some 108) bq_38 (any_of HT_.out (by kernel_rfl)) ?_
            refine yq_ (i := 39) (N := some 109) bq_39 (any_of HT_.out (by kernel_rfl)) ?_
            refine yq_ (i := 40) (N := some 110) bq_40 (any_of HT_.out (by kernel_rfl)) ?_
            refine yq_ (i := 41) (N := some 111) bq_41 (any_of HT_.out (by kernel_rfl)) ?_
            refine yq_ (i := 42) (N := some 112) bq_42 (any_of HT_.out (by kernel_rfl)) ?_
            refine one_ (i := 43) (N := some 113) bq_43 rfl rfl (one_of HT_.out (by kernel_rfl)) (by decide) (fun K hK => ?_)
            refine goes_ Try.func67 (by kernel_rfl) rfl #[.slice Ao11 t287.length co11, .int .i64 (t287.length : Int)] (by rfl) rfl rfl tq_1 ?_
            with_reducible refine (impl_StatesOk.calls kj18 _ _ t287 (t287.length : Int) t341 _ ?side1 ?side2 A101.out).mono ?_
            (case side1 => exact tq_3)
            (case side2 => exact (Kd.R_reads' HO_3.out).2.1)
            rintro e w' ⟨rfl, ⟨nd, rfl⟩⟩
            refine ⟨_, rfl, ?_⟩
            refine hK.out _ _ trivial (fun hHeld => ?_)
            clear hK K
            refine nm_ (some 113) ?_
            refine yq_ (i := 44) (N := some 114) bq_44 (any_of HT_.out (by kernel_rfl)) ?_
            refine yq_ (i := 45) (N := some 2) bq_45 (any_of HT_.out (by kernel_rfl)) ?_
            refine done_ (done_of HT_.out (by kernel_rfl)) ?_
            try go_wp2
            go_ret
            exact ⟨tq_13, tq_0⟩
          ·rw [if_neg c44] at H
           have c44b0 : (t328 == (decide ((t332.length : Int) > 0))) = false := by simpa using c44
           have c44b0n : (t328 == decide (0 < t332.length)) = false := (congrArg (fun z_ => (t328 == z_)) (show decide (0 < t332.length) = decide ((t332.length : Int) > 0) by simp)).trans c44b0
           (try (have c44b1 : decide (t328 = (decide ((t332.length : Int) > 0))) = false := by simpa using c44))
           (try (have c44b2 : (t328 == (decide ((t332.length : Int) > 0))) = false := by simpa using c44))
           (try (have c44b3 : ¬ (t328 = (decide ((t332.length : Int) > 0))) := by simpa using c44))
           clear c44
           obtain rfl := Option.some.inj H
           try go_wp2_with (first | ((with_reducible refine gate_callee (f := 62) rfl ?_); refine goesL_ (some 48) rfl rfl Try.func62 (by kernel_rfl) rfl #[.slice Ao11 t287.length co11] rfl tq_1 ?_; (with_reducible refine (impl_StatesWords.calls kj18 _ _ t287 t311 _ ?side1 ?side2 A33.out).mono ?_); (case side1 => exact tq_3); (case side2 => exact (Kd.R_reads' HO_3.out).2.1); rintro e w116 ⟨v312, rfl, ho0, hb⟩; refine ⟨_, rfl, ?_⟩; have z_ := p_ (Kd.R_below tq_2 hb) <| p_ (Kd.R_lower ho0 (below_size tq_0)) <| a_ (below_step tq_0 hb); clear HO_3 HB; obtain ⟨HO_3, HO313, HB⟩ := z_; (try clear hb); (try clear hb2); (try clear hk); (try clear hi); (try clear ho0); obtain ⟨Ao117, co117, eo117⟩ := Kd.R_slice HO313.out; subst eo117) | ((with_reducible refine gate_callee (f := 63) rfl ?_); refine goesL_ (some 51) rfl rfl Try.func63 (by kernel_rfl) rfl #[.slice Ao117 t311.length co117, .int .i64 (t287.length : Int)] rfl tq_1 ?_; (with_reducible refine (impl_ReadStates.calls kj18 _ _ t311 (t287.length : Int) t314 true _ ?side1 ?side2 A34.out).mono ?_); (case side1 => exact tq_21); (case side2 => exact (Kd.R_reads' HO313.out).2.1); rintro e w118 ⟨v316, rfl, ho0, hb⟩; refine ⟨_, rfl, ?_⟩; have z_ := p_ (Kd.R_elder' tq_2 (Kd.R_base ho0) hb) <| p_ (Kd.R_below tq_7 hb) <| p_ (Kd.R_lower (Kd.R_new' ho0 (Kd.R_lt tq_2)) (below_size tq_0)) <| a_ (below_step tq_0 hb); clear HO_3 HO313 HB; obtain ⟨HO_3, HO313, HO317, HB⟩ := z_; (try clear hb); (try clear hb2); (try clear hk); (try clear hi); (try clear ho0)) | ((with_reducible refine gate_callee (f := 64) rfl ?_); refine goesL_ (some 55) rfl rfl Try.func64 (by kernel_rfl) rfl #[.slice Ao11 t287.length co11, .int .i64 0] rfl tq_1 ?_; (with_reducible refine (impl_PagesWith.calls kj18 _ _ t287 0 t318 _ ?side1 ?side2 A35.out).mono ?_); (case side1 => exact tq_3); (case side2 => exact (Kd.R_reads' HO_3.out).2.1); rintro e w119 ⟨v319, rfl, ho0, hb⟩; refine ⟨_, rfl, ?_⟩; have z_ := p_ (Kd.R_elder' tq_2 (Kd.R_base ho0) hb) <| p_ (Kd.R_below tq_7 hb) <| p_ (Kd.R_elder' tq_5 (Kd.R_base ho0) hb) <| p_ (Kd.R_lower (Kd.R_new' (Kd.R_new' ho0 (Kd.R_lt tq_2)) (Kd.R_lt tq_5)) (below_size tq_0)) <| a_ (below_step tq_0 hb); clear HO_3 HO313 HO317 HB; obtain ⟨HO_3, HO313, HO317, HO320, HB⟩ := z_; (try clear hb); (try clear hb2); (try clear hk); (try clear hi); (try clear ho0); obtain ⟨Ao120, co120, eo120⟩ := Kd.R_slice HO320.out; subst eo120) | ((with_reducible refine gate_callee (f := 64) rfl ?_); refine goesL_ (some 58) rfl rfl Try.func64 (by kernel_rfl) rfl #[.slice Ao11 t287.length co11, .int .i64 1] rfl tq_1 ?_; (with_reducible refine (impl_PagesWith.calls kj18 _ _ t287 1 t321 _ ?side1 ?side2 A36.out).mono ?_); (case side1 => exact tq_3); (case side2 => exact (Kd.R_reads' HO_3.out).2.1); rintro e w121 ⟨v322, rfl, ho0, hb⟩; refine ⟨_, rfl, ?_⟩; have z_ := p_ (Kd.R_elder' tq_2 (Kd.R_base ho0) hb) <| p_ (Kd.R_below tq_7 hb) <| p_ (Kd.R_elder' tq_5 (Kd.R_base ho0) hb) <| p_ (Kd.R_elder' tq_6 (Kd.R_base ho0) hb) <| p_ (Kd.R_lower (Kd.R_new' (Kd.R_new' (Kd.R_new' ho0 (Kd.R_lt tq_2)) (Kd.R_lt tq_5)) (Kd.R_lt tq_6)) (below_size tq_0)) <| a_ (below_step tq_0 hb); clear HO_3 HO313 HO317 HO320 HB; obtain ⟨HO_3, HO313, HO317, HO320, HO323, HB⟩ := z_; (try clear hb); (try clear hb2); (try clear hk); (try clear hi); (try clear ho0); obtain ⟨Ao122, co122, eo122⟩ := Kd.R_slice HO323.out; subst eo122) | ((with_reducible refine gate_callee (f := 64) rfl ?_); refine goesL_ (some 62) rfl rfl Try.func64 (by kernel_rfl) rfl #[.slice Ao11 t287.length co11, .int .i64 2] rfl tq_1 ?_; (with_reducible refine (impl_PagesWith.calls kj18 _ _ t287 2 t324 _ ?side1 ?side2 A37.out).mono ?_); (case side1 => exact tq_3); (case side2 => exact (Kd.R_reads' HO_3.out).2.1); rintro e w123 ⟨v325, rfl, ho0, hb⟩; refine ⟨_, rfl, ?_⟩; have z_ := p_ (Kd.R_elder' tq_2 (Kd.R_base ho0) hb) <| p_ (Kd.R_below tq_7 hb) <| p_ (Kd.R_elder' tq_5 (Kd.R_base ho0) hb) <| p_ (Kd.R_elder' tq_6 (Kd.R_base ho0) hb) <| p_ (Kd.R_elder' tq_8 (Kd.R_base ho0) hb) <| p_ (Kd.R_lower (Kd.R_new' (Kd.R_new' (Kd.R_new' (Kd.R_new' ho0 (Kd.R_lt tq_2)) (Kd.R_lt tq_5)) (Kd.R_lt tq_6)) (Kd.R_lt tq_8)) (below_size tq_0)) <| a_ (below_step tq_0 hb); clear HO_3 HO313 HO317 HO320 HO323 HB; obtain ⟨HO_3, HO313, HO317, HO320, HO323, HO326, HB⟩ := z_; (try clear hb); (try clear hb2); (try clear hk); (try clear hi); (try clear ho0); obtain ⟨Ao124, co124, eo124⟩ := Kd.R_slice HO326.out; subst eo124) | ((with_reducible refine gate_callee (f := 65) rfl ?_); refine goesL_ (some 67) rfl rfl Try.func65 (by kernel_rfl) rfl #[.slice Ao11 t287.length co11, .int .i64 1] rfl tq_1 ?_; (with_reducible refine (impl_FirstClean.calls kj18 _ _ t287 1 t327 t328 _ ?side1 ?side2 A38.out).mono ?_); (case side1 => exact tq_3); (case side2 => exact (Kd.R_reads' HO_3.out).2.1); rintro e w125 ⟨v329, rfl, ho0, hb⟩; refine ⟨_, rfl, ?_⟩; have z_ := p_ (Kd.R_elder' tq_2 (Kd.R_base ho0) hb) <| p_ (Kd.R_below tq_7 hb) <| p_ (Kd.R_elder' tq_5 (Kd.R_base ho0) hb) <| p_ (Kd.R_elder' tq_6 (Kd.R_base ho0) hb) <| p_ (Kd.R_elder' tq_8 (Kd.R_base ho0) hb) <| p_ (Kd.R_elder' tq_15 (Kd.R_base ho0) hb) <| p_ (Kd.R_lower (Kd.R_new' (Kd.R_new' (Kd.R_new' (Kd.R_new' (Kd.R_new' ho0 (Kd.R_lt tq_2)) (Kd.R_lt tq_5)) (Kd.R_lt tq_6)) (Kd.R_lt tq_8)) (Kd.R_lt tq_15)) (below_size tq_0)) <| a_ (below_step tq_0 hb); clear HO_3 HO313 HO317 HO320 HO323 HO326 HB; obtain ⟨HO_3, HO313, HO317, HO320, HO323, HO326, HO330, HB⟩ := z_; (try clear hb); (try clear hb2); (try clear hk); (try clear hi); (try clear ho0)))
           have z_ := p_ (Kd.R_drew HO_3.out) <| p_ (Kd.R_drew HO313.out) <| p_ (Kd.R_drew HO317.out) <| p_ (Kd.R_drew HO320.out) <| p_ (Kd.R_drew HO323.out) <| p_ (Kd.R_drew HO326.out) <| p_ (Kd.R_drew HO330.out) <| a_ (below_drew1 HB.out)
           clear HO_3 HO313 HO317 HO320 HO323 HO326 HO330 HB
           obtain ⟨HO_3, HO313, HO317, HO320, HO323, HO326, HO330, HB⟩ := z_
           obtain ⟨Ao127, co127, eo127⟩ := Kd.R_slice HO317.out
           (first | subst eo127 | (injection eo127 with f1_ f2_ f3_; have f4_ := f1_.symm; have f5_ := f3_.symm; clear f1_ f2_ f3_; subst f4_; subst f5_))
           refine start_ (n := 46) (S := fun w' => True) (ds := []) bq_0 (by kernel_rfl) rfl rfl trivial (fun hHeld => ?_); refine with_tabW laws_FnStates.tab12 laws_FnStates.bits12 (fun HT_ HW_ => ?_)
           generalize w125.drew = w126 at HO_3 HO313 HO317 HO320 HO323 HO326 HO330 HB hHeld ⊢
           refine yq_ (i := 0) (N := some 70) bq_1 (any_of HT_.out (by kernel_rfl)) ?_
           refine yq_ (i := 1) (N := some 71) bq_2 (any_of HT_.out (by kernel_rfl)) ?_
           refine yq_ (i := 2) (N := some 72) bq_3 (any_of HT_.out (by kernel_rfl)) ?_
           refine yq_ (i := 3) (N := some 73) bq_4 (any_of HT_.out (by kernel_rfl)) ?_
           refine one_ (i := 4) (N := some 74) bq_5 rfl rfl (one_of HT_.out (by kernel_rfl)) (by decide) (fun K hK => ?_)
           refine goes_ Try.func59 (by kernel_rfl) rfl #[.slice Ao127 t314.length co127, .slice Ao11 t287.length co11] (by rfl) rfl rfl tq_1 ?_
           with_reducible refine (laws_sameInts.calls kj18 _ _ t314 _ _ t287 true _ ?side1 ?side2 ?side3 ?side4 A40.out).mono ?_
           (case side1 => exact tq_25)
           (case side2 => exact (Kd.R_reads' HO317.out).2.1)
           (case side3 => exact tq_3)
           (case side4 => exact (Kd.R_reads' HO_3.out).2.1)
           rintro e w' ⟨rfl, ⟨nd, rfl⟩⟩
           refine ⟨_, rfl, ?_⟩
           refine hK.out _ _ trivial (fun hHeld => ?_)
           clear hK K
           refine nm_ (some 74) ?_
           refine yq_ (i := 5) (N := some 75) bq_6 (any_of HT_.out (by kernel_rfl)) ?_
           refine yq_ (i := 6) (N := some 76) bq_7 (any_of HT_.out (by kernel_rfl)) ?_
           refine yq_ (i := 7) (N := some 77) bq_8 (any_of HT_.out (by kernel_rfl)) ?_
           refine yq_ (i := 8) (N := some 78) bq_9 (any_of HT_.out (by kernel_rfl)) ?_
           refine yq_ (i := 9) (N := some 79) bq_10 (any_of HT_.out (by kernel_rfl)) ?_
           refine yq_ (i := 10) (N := some 80) bq_11 (any_of HT_.out (by kernel_rfl)) ?_
           refine yq_ (i := 11) (N := some 81) bq_12 (any_of HT_.out (by kernel_rfl)) ?_
           refine yq_ (i := 12) (N := some 82) bq_13 (any_of HT_.out (by kernel_rfl)) ?_
           refine yq_ (i := 13) (N := some 83) bq_14 (any_of HT_.out (by kernel_rfl)) ?_
           refine yq_ (i := 14) (N := some 84) bq_15 (any_of HT_.out (by kernel_rfl)) ?_
           refine one_ (i := 15) (N := some 85) bq_16 rfl rfl (one_of HT_.out (by kernel_rfl)) (by decide) (fun K hK => ?_)
           refine goes_ Try.func66 (by kernel_rfl) rfl #[.slice Ao11 t287.length co11, .int .i64 0] (by rfl) rfl rfl tq_1 ?_
           with_reducible refine (spec_PagesWith.calls kj18 _ _ t287 0 t332 _ ?side1 ?side2 A43.out).mono ?_
           (case side1 => exact tq_3)
           (case side2 => exact (Kd.R_reads' HO_3.out).2.1)
           rintro e w128 ⟨v333, rfl, ho0, hb⟩
           refine ⟨_, rfl, ?_⟩
           have z_ := p_ (Kd.R_elder' tq_2 (Kd.R_base ho0) hb) <| p_ (Kd.R_below tq_7 hb) <| p_ (Kd.R_elder' tq_5 (Kd.R_base ho0) hb) <| p_ (Kd.R_elder' tq_6 (Kd.R_base ho0) hb) <| p_ (Kd.R_elder' tq_8 (Kd.R_base ho0) hb) <| p_ (Kd.R_elder' tq_15 (Kd.R_base ho0) hb) <| p_ (Kd.R_elder' tq_19 (Kd.R_base ho0) hb) <| p_ (Kd.R_lower (Kd.R_new' (Kd.R_new' (Kd.R_new' (Kd.R_new' (Kd.R_new' (Kd.R_new' ho0 (Kd.R_lt tq_2)) (Kd.R_lt tq_5)) (Kd.R_lt tq_6)) (Kd.R_lt tq_8)) (Kd.R_lt tq_15)) (Kd.R_lt tq_19)) (below_size tq_0)) <| a_ (below_step tq_0 hb)
           clear HO_3 HO313 HO317 HO320 HO323 HO326 HO330 HB
           obtain ⟨HO_3, HO313, HO317, HO320, HO323, HO326, HO330, HO334, HB⟩ := z_
           (try clear hb)
           (try clear hb2)
           (try clear hk)
           (try clear hi)
           (try clear ho0)
           obtain ⟨Ao129, co129, eo129⟩ := Kd.R_slice HO334.out
           (first | subst eo129 | (injection eo129 with f1_ f2_ f3_; have f4_ := f1_.symm; have f5_ := f3_.symm; clear f1_ f2_ f3_; subst f4_; subst f5_))
           refine hK.out _ _ trivial (fun hHeld => ?_)
           clear hK K
           refine nm_ (some 85) ?_
           refine yq_ (i := 16) (N := some 86) bq_17 (any_of HT_.out (by kernel_rfl)) ?_
           refine yq_ (i := 17) (N := some 87) bq_18 (any_of HT_.out (by kernel_rfl)) ?_
           refine yq_ (i := 18) (N := some 88) bq_19 (any_of HT_.out (by kernel_rfl)) ?_
           refine yq_ (i := 19) (N := some 89) bq_20 (any_of HT_.out (by kernel_rfl)) ?_
           refine yq_ (i := 20) (N := some 90) bq_21 (any_of HT_.out (by kernel_rfl)) ?_
           refine uq_ (i := 21) (N := some 91) bq_22 (any_of HT_.out (by kernel_rfl)) ?_
           refine uq_ (i := 22) (N := some 92) bq_23 (any_of HT_.out (by kernel_rfl)) ?_
           refine uq_ (i := 23) (N := some 93) bq_24 (any_of HT_.out (by kernel_rfl)) ?_
           refine uq_ (i := 24) (N := some 94) bq_25 (any_of HT_.out (by kernel_rfl)) ?_
           refine uq_ (i := 25) (N := some 95) bq_26 (any_of HT_.out (by kernel_rfl)) ?_
           refine uq_ (i := 26) (N := some 96) bq_27 (any_of HT_.out (by kernel_rfl)) ?_
           refine uq_ (i := 27) (N := some 97) bq_28 (any_of HT_.out (by kernel_rfl)) ?_
           refine uq_ (i := 28) (N := some 98) bq_29 (any_of HT_.out (by kernel_rfl)) ?_
           refine uq_ (i := 29) (N := some 99) bq_30 (any_of HT_.out (by kernel_rfl)) ?_
           refine uq_ (i := 30) (N := some 100) bq_46 (any_of HT_.out (by kernel_rfl)) ?_
           refine uq_ (i := 31) (N := some 101) bq_31 (any_of HT_.out (by kernel_rfl)) ?_
           refine uq_ (i := 32) (N := some 102) bq_32 (any_of HT_.out (by kernel_rfl)) ?_
           refine uq_ (i := 33) (N := some 103) bq_33 (any_of HT_.out (by kernel_rfl)) ?_
           refine uq_ (i := 34) (N := some 104) bq_34 (any_of HT_.out (by kernel_rfl)) ?_
           refine uq_ (i := 35) (N := some 105) bq_35 (any_of HT_.out (by kernel_rfl)) ?_
           refine uq_ (i := 36) (N := some 106) bq_36 (any_of HT_.out (by kernel_rfl)) ?_
           refine uq_ (i := 37) (N := some 107) bq_37 (any_of HT_.out (by kernel_rfl)) ?_
           refine yq_ (i := 38) (N := some 108) bq_38 (any_of HT_.out (by kernel_rfl)) ?_
           refine yq_ (i := 39) (N := some 109) bq_39 (any_of HT_.out (by kernel_rfl)) ?_
           refine uq_ (i := 40) (N := some 110) bq_40 (any_of HT_.out (by kernel_rfl)) ?_
           refine uq_ (i := 41) (N := some 111) bq_41 (any_of HT_.out (by kernel_rfl)) ?_
           refine uq_ (i := 42) (N := some 112) bq_42 (any_of HT_.out (by kernel_rfl)) ?_
           refine uq_ (i := 43) (N := some 113) bq_43 (any_of HT_.out (by kernel_rfl)) ?_
           refine yq_ (i := 44) (N := some 114) bq_44 (any_of HT_.out (by kernel_rfl)) ?_
           refine yq_ (i := 45) (N := some 2) bq_45 (any_of HT_.out (by kernel_rfl)) ?_
           refine done_ (done_of HT_.out (by kernel_rfl)) ?_
           try go_wp2
           go_ret
           exact ⟨tq_13, tq_0⟩
         ·rw [if_neg c42] at H
          have c42b0 : ((wrap64 ((wrap64 ((t318.length : Int) + (t321.length : Int))) + (t324.length : Int))) == (t287.length : Int)) = false := beq_eq_false_iff_ne.mpr c42
          have c42b1 : ((wrap64 ((wrap64 ((t318.length : Int) + (t321.length : Int))) + (t324.length : Int))) != (t287.length : Int)) = true := bne_iff_ne.mpr c42
          obtain rfl := Option.some.inj H
          try go_wp2_with (first | ((with_reducible refine gate_callee (f := 62) rfl ?_); refine goesL_ (some 48) rfl rfl Try.func62 (by kernel_rfl) rfl #[.slice Ao11 t287.length co11] rfl tq_1 ?_; (with_reducible refine (impl_StatesWords.calls kj18 _ _ t287 t311 _ ?side1 ?side2 A33.out).mono ?_); (case side1 => exact tq_3); (case side2 => exact (Kd.R_reads' HO_3.out).2.1); rintro e w130 ⟨v312, rfl, ho0, hb⟩; refine ⟨_, rfl, ?_⟩; have z_ := p_ (Kd.R_below tq_2 hb) <| p_ (Kd.R_lower ho0 (below_size tq_0)) <| a_ (below_step tq_0 hb); clear HO_3 HB; obtain ⟨HO_3, HO313, HB⟩ := z_; (try clear hb); (try clear hb2); (try clear hk); (try clear hi); (try clear ho0); obtain ⟨Ao131, co131, eo131⟩ := Kd.R_slice HO313.out; subst eo131) | ((with_reducible refine gate_callee (f := 63) rfl ?_); refine goesL_ (some 51) rfl rfl Try.func63 (by kernel_rfl) rfl #[.slice Ao131 t311.length co131, .int .i64 (t287.length : Int)] rfl tq_1 ?_; (with_reducible refine (impl_ReadStates.calls kj18 _ _ t311 (t287.length : Int) t314 true _ ?side1 ?side2 A34.out).mono ?_); (case side1 => exact tq_21); (case side2 => exact (Kd.R_reads' HO313.out).2.1); rintro e w132 ⟨v316, rfl, ho0, hb⟩; refine ⟨_, rfl, ?_⟩; have z_ := p_ (Kd.R_elder' tq_2 (Kd.R_base ho0) hb) <| p_ (Kd.R_below tq_7 hb) <| p_ (Kd.R_lower (Kd.R_new' ho0 (Kd.R_lt tq_2)) (below_size tq_0)) <| a_ (below_step tq_0 hb); clear HO_3 HO313 HB; obtain ⟨HO_3, HO313, HO317, HB⟩ := z_; (try clear hb); (try clear hb2); (try clear hk); (try clear hi); (try clear ho0)) | ((with_reducible refine gate_callee (f := 64) rfl ?_); refine goesL_ (some 55) rfl rfl Try.func64 (by kernel_rfl) rfl #[.slice Ao11 t287.length co11, .int .i64 0] rfl tq_1 ?_; (with_reducible refine (impl_PagesWith.calls kj18 _ _ t287 0 t318 _ ?side1 ?side2 A35.out).mono ?_); (case side1 => exact tq_3); (case side2 => exact (Kd.R_reads' HO_3.out).2.1); rintro e w133 ⟨v319, rfl, ho0, hb⟩; refine ⟨_, rfl, ?_⟩; have z_ := p_ (Kd.R_elder' tq_2 (Kd.R_base ho0) hb) <| p_ (Kd.R_below tq_7 hb) <| p_ (Kd.R_elder' tq_5 (Kd.R_base ho0) hb) <| p_ (Kd.R_lower (Kd.R_new' (Kd.R_new' ho0 (Kd.R_lt tq_2)) (Kd.R_lt tq_5)) (below_size tq_0)) <| a_ (below_step tq_0 hb); clear HO_3 HO313 HO317 HB; obtain ⟨HO_3, HO313, HO317, HO320, HB⟩ := z_; (try clear hb); (try clear hb2); (try clear hk); (try clear hi); (try clear ho0); obtain ⟨Ao134, co134, eo134⟩ := Kd.R_slice HO320.out; subst eo134) | ((with_reducible refine gate_callee (f := 64) rfl ?_); refine goesL_ (some 58) rfl rfl Try.func64 (by kernel_rfl) rfl #[.slice Ao11 t287.length co11, .int .i64 1] rfl tq_1 ?_; (with_reducible refine (impl_PagesWith.calls kj18 _ _ t287 1 t321 _ ?side1 ?side2 A36.out).mono ?_); (case side1 => exact tq_3); (case side2 => exact (Kd.R_reads' HO_3.out).2.1); rintro e w135 ⟨v322, rfl, ho0, hb⟩; refine ⟨_, rfl, ?_⟩; have z_ := p_ (Kd.R_elder' tq_2 (Kd.R_base ho0) hb) <| p_ (Kd.R_below tq_7 hb) <| p_ (Kd.R_elder' tq_5 (Kd.R_base ho0) hb) <| p_ (Kd.R_elder' tq_6 (Kd.R_base ho0) hb) <| p_ (Kd.R_lower (Kd.R_new' (Kd.R_new' (Kd.R_new' ho0 (Kd.R_lt tq_2)) (Kd.R_lt tq_5)) (Kd.R_lt tq_6)) (below_size tq_0)) <| a_ (below_step tq_0 hb); clear HO_3 HO313 HO317 HO320 HB; obtain ⟨HO_3, HO313, HO317, HO320, HO323, HB⟩ := z_; (try clear hb); (try clear hb2); (try clear hk); (try clear hi); (try clear ho0); obtain ⟨Ao136, co136, eo136⟩ := Kd.R_slice HO323.out; subst eo136) | ((with_reducible refine gate_callee (f := 64) rfl ?_); refine goesL_ (some 62) rfl rfl Try.func64 (by kernel_rfl) rfl #[.slice Ao11 t287.length co11, .int .i64 2] rfl tq_1 ?_; (with_reducible refine (impl_PagesWith.calls kj18 _ _ t287 2 t324 _ ?side1 ?side2 A37.out).mono ?_); (case side1 => exact tq_3); (case side2 => exact (Kd.R_reads' HO_3.out).2.1); rintro e w137 ⟨v325, rfl, ho0, hb⟩; refine ⟨_, rfl, ?_⟩; have z_ := p_ (Kd.R_elder' tq_2 (Kd.R_base ho0) hb) <| p_ (Kd.R_below tq_7 hb) <| p_ (Kd.R_elder' tq_5 (Kd.R_base ho0) hb) <| p_ (Kd.R_elder' tq_6 (Kd.R_base ho0) hb) <| p_ (Kd.R_elder' tq_8 (Kd.R_base ho0) hb) <| p_ (Kd.R_lower (Kd.R_new' (Kd.R_new' (Kd.R_new' (Kd.R_new' ho0 (Kd.R_lt tq_2)) (Kd.R_lt tq_5)) (Kd.R_lt tq_6)) (Kd.R_lt tq_8)) (below_size tq_0)) <| a_ (below_step tq_0 hb); clear HO_3 HO313 HO317 HO320 HO323 HB; obtain ⟨HO_3, HO313, HO317, HO320, HO323, HO326, HB⟩ := z_; (try clear hb); (try clear hb2); (try clear hk); (try clear hi); (try clear ho0); obtain ⟨Ao138, co138, eo138⟩ := Kd.R_slice HO326.out; subst eo138) | ((with_reducible refine gate_callee (f := 65) rfl ?_); refine goesL_ (some 67) rfl rfl Try.func65 (by kernel_rfl) rfl #[.slice Ao11 t287.length co11, .int .i64 1] rfl tq_1 ?_; (with_reducible refine (impl_FirstClean.calls kj18 _ _ t287 1 t327 t328 _ ?side1 ?side2 A38.out).mono ?_); (case side1 => exact tq_3); (case side2 => exact (Kd.R_reads' HO_3.out).2.1); rintro e w139 ⟨v329, rfl, ho0, hb⟩; refine ⟨_, rfl, ?_⟩; have z_ := p_ (Kd.R_elder' tq_2 (Kd.R_base ho0) hb) <| p_ (Kd.R_below tq_7 hb) <| p_ (Kd.R_elder' tq_5 (Kd.R_base ho0) hb) <| p_ (Kd.R_elder' tq_6 (Kd.R_base ho0) hb) <| p_ (Kd.R_elder' tq_8 (Kd.R_base ho0) hb) <| p_ (Kd.R_elder' tq_15 (Kd.R_base ho0) hb) <| p_ (Kd.R_lower (Kd.R_new' (Kd.R_new' (Kd.R_new' (Kd.R_new' (Kd.R_new' ho0 (Kd.R_lt tq_2)) (Kd.R_lt tq_5)) (Kd.R_lt tq_6)) (Kd.R_lt tq_8)) (Kd.R_lt tq_15)) (below_size tq_0)) <| a_ (below_step tq_0 hb); clear HO_3 HO313 HO317 HO320 HO323 HO326 HB; obtain ⟨HO_3, HO313, HO317, HO320, HO323, HO326, HO330, HB⟩ := z_; (try clear hb); (try clear hb2); (try clear hk); (try clear hi); (try clear ho0)))
          have z_ := p_ (Kd.R_drew HO_3.out) <| p_ (Kd.R_drew HO313.out) <| p_ (Kd.R_drew HO317.out) <| p_ (Kd.R_drew HO320.out) <| p_ (Kd.R_drew HO323.out) <| p_ (Kd.R_drew HO326.out) <| p_ (Kd.R_drew HO330.out) <| a_ (below_drew1 HB.out)
          clear HO_3 HO313 HO317 HO320 HO323 HO326 HO330 HB
          obtain ⟨HO_3, HO313, HO317, HO320, HO323, HO326, HO330, HB⟩ := z_
          obtain ⟨Ao141, co141, eo141⟩ := Kd.R_slice HO317.out
          (first | subst eo141 | (injection eo141 with f1_ f2_ f3_; have f4_ := f1_.symm; have f5_ := f3_.symm; clear f1_ f2_ f3_; subst f4_; subst f5_))
          refine start_ (n := 46) (S := fun w' => True) (ds := []) bq_0 (by kernel_rfl) rfl rfl trivial (fun hHeld => ?_); refine with_tabW laws_FnStates.tab12 laws_FnStates.bits12 (fun HT_ HW_ => ?_)
          generalize w139.drew = w140 at HO_3 HO313 HO317 HO320 HO323 HO326 HO330 HB hHeld ⊢
          refine yq_ (i := 0) (N := some 70) bq_1 (any_of HT_.out (by kernel_rfl)) ?_
          refine yq_ (i := 1) (N := some 71) bq_2 (any_of HT_.out (by kernel_rfl)) ?_
          refine yq_ (i := 2) (N := some 72) bq_3 (any_of HT_.out (by kernel_rfl)) ?_
          refine yq_ (i := 3) (N := some 73) bq_4 (any_of HT_.out (by kernel_rfl)) ?_
          refine one_ (i := 4) (N := some 74) bq_5 rfl rfl (one_of HT_.out (by kernel_rfl)) (by decide) (fun K hK => ?_)
          refine goes_ Try.func59 (by kernel_rfl) rfl #[.slice Ao141 t314.length co141, .slice Ao11 t287.length co11] (by rfl) rfl rfl tq_1 ?_
          with_reducible refine (laws_sameInts.calls kj18 _ _ t314 _ _ t287 true _ ?side1 ?side2 ?side3 ?side4 A40.out).mono ?_
          (case side1 => exact tq_25)
          (case side2 => exact (Kd.R_reads' HO317.out).2.1)
          (case side3 => exact tq_3)
          (case side4 => exact (Kd.R_reads' HO_3.out).2.1)
          rintro e w' ⟨rfl, ⟨nd, rfl⟩⟩
          refine ⟨_, rfl, ?_⟩
          refine hK.out _ _ trivial (fun hHeld => ?_)
          clear hK K
          refine nm_ (some 74) ?_
          refine yq_ (i := 5) (N := some 75) bq_6 (any_of HT_.out (by kernel_rfl)) ?_
          refine yq_ (i := 6) (N := some 76) bq_7 (any_of HT_.out (by kernel_rfl)) ?_
          refine yq_ (i := 7) (N := some 77) bq_8 (any_of HT_.out (by kernel_rfl)) ?_
          refine yq_ (i := 8) (N := some 78) bq_9 (any_of HT_.out (by kernel_rfl)) ?_
          refine yq_ (i := 9) (N := some 79) bq_10 (any_of HT_.out (by kernel_rfl)) ?_
          refine yq_ (i := 10) (N := some 80) bq_11 (any_of HT_.out (by kernel_rfl)) ?_
          refine yq_ (i := 11) (N := some 81) bq_12 (any_of HT_.out (by kernel_rfl)) ?_
          refine yq_ (i := 12) (N := some 82) bq_13 (any_of HT_.out (by kernel_rfl)) ?_
          refine uq_ (i := 13) (N := some 83) bq_14 (any_of HT_.out (by kernel_rfl)) ?_
          refine uq_ (i := 14) (N := some 84) bq_15 (any_of HT_.out (by kernel_rfl)) ?_
          refine uq_ (i := 15) (N := some 85) bq_16 (any_of HT_.out (by kernel_rfl)) ?_
          refine uq_ (i := 16) (N := some 86) bq_17 (any_of HT_.out (by kernel_rfl)) ?_
          refine uq_ (i := 17) (N := some 87) bq_18 (any_of HT_.out (by kernel_rfl)) ?_
          refine uq_ (i := 18) (N := some 88) bq_19 (any_of HT_.out (by kernel_rfl)) ?_
          refine yq_ (i := 19) (N := some 89) bq_20 (any_of HT_.out (by kernel_rfl)) ?_
          refine yq_ (i := 20) (N := some 90) bq_21 (any_of HT_.out (by kernel_rfl)) ?_
          refine uq_ (i := 21) (N := some 91) bq_22 (any_of HT_.out (by kernel_rfl)) ?_
          refine uq_ (i := 22) (N := some 92) bq_23 (any_of HT_.out (by kernel_rfl)) ?_
          refine uq_ (i := 23) (N := some 93) bq_24 (any_of HT_.out (by kernel_rfl)) ?_
          refine uq_ (i := 24) (N := some 94) bq_25 (any_of HT_.out (by kernel_rfl)) ?_
          refine uq_ (i := 25) (N := some 95) bq_26 (any_of HT_.out (by kernel_rfl)) ?_
          refine uq_ (i := 26) (N := some 96) bq_27 (any_of HT_.out (by kernel_rfl)) ?_
          refine uq_ (i := 27) (N := some 97) bq_28 (any_of HT_.out (by kernel_rfl)) ?_
          refine uq_ (i := 28) (N := some 98) bq_29 (any_of HT_.out (by kernel_rfl)) ?_
          refine uq_ (i := 29) (N := some 99) bq_30 (any_of HT_.out (by kernel_rfl)) ?_
          refine uq_ (i := 30) (N := some 100) bq_46 (any_of HT_.out (by kernel_rfl)) ?_
          refine uq_ (i := 31) (N := some 101) bq_31 (any_of HT_.out (by kernel_rfl)) ?_
          refine uq_ (i := 32) (N := some 102) bq_32 (any_of HT_.out (by kernel_rfl)) ?_
          refine uq_ (i := 33) (N := some 103) bq_33 (any_of HT_.out (by kernel_rfl)) ?_
          refine uq_ (i := 34) (N := some 104) bq_34 (any_of HT_.out (by kernel_rfl)) ?_
          refine uq_ (i := 35) (N := some 105) bq_35 (any_of HT_.out (by kernel_rfl)) ?_
          refine uq_ (i := 36) (N := some 106) bq_36 (any_of HT_.out (by kernel_rfl)) ?_
          refine uq_ (i := 37) (N := some 107) bq_37 (any_of HT_.out (by kernel_rfl)) ?_
          refine yq_ (i := 38) (N := some 108) bq_38 (any_of HT_.out (by kernel_rfl)) ?_
          refine yq_ (i := 39) (N := some 109) bq_39 (any_of HT_.out (by kernel_rfl)) ?_
          refine uq_ (i := 40) (N := some 110) bq_40 (any_of HT_.out (by kernel_rfl)) ?_
          refine uq_ (i := 41) (N := some 111) bq_41 (any_of HT_.out (by kernel_rfl)) ?_
          refine uq_ (i := 42) (N := some 112) bq_42 (any_of HT_.out (by kernel_rfl)) ?_
          refine uq_ (i := 43) (N := some 113) bq_43 (any_of HT_.out (by kernel_rfl)) ?_
          refine yq_ (i := 44) (N := some 114) bq_44 (any_of HT_.out (by kernel_rfl)) ?_
          refine yq_ (i := 45) (N := some 2) bq_45 (any_of HT_.out (by kernel_rfl)) ?_
          refine done_ (done_of HT_.out (by kernel_rfl)) ?_
          try go_wp2
          go_ret
          exact ⟨tq_13, tq_0⟩
        ·replace c41 := Bool.eq_false_iff.mpr c41
         subst c41
         have H1 : (some false) = some r := by rw [if_neg (show ¬ (false = true) by decide)] at H; exact H
         clear H
         have H := H1
         clear H1
         obtain rfl := Option.some.inj H
         try go_wp2_with (first | ((with_reducible refine gate_callee (f := 62) rfl ?_); refine goesL_ (some 48) rfl rfl Try.func62 (by kernel_rfl) rfl #[.slice Ao11 t287.length co11] rfl tq_1 ?_; (with_reducible refine (impl_StatesWords.calls kj18 _ _ t287 t311 _ ?side1 ?side2 A33.out).mono ?_); (case side1 => exact tq_3); (case side2 => exact (Kd.R_reads' HO_3.out).2.1); rintro e w142 ⟨v312, rfl, ho0, hb⟩; refine ⟨_, rfl, ?_⟩; have z_ := p_ (Kd.R_below tq_2 hb) <| p_ (Kd.R_lower ho0 (below_size tq_0)) <| a_ (below_step tq_0 hb); clear HO_3 HB; obtain ⟨HO_3, HO313, HB⟩ := z_; (try clear hb); (try clear hb2); (try clear hk); (try clear hi); (try clear ho0); obtain ⟨Ao143, co143, eo143⟩ := Kd.R_slice HO313.out; subst eo143) | ((with_reducible refine gate_callee (f := 63) rfl ?_); refine goesL_ (some 51) rfl rfl Try.func63 (by kernel_rfl) rfl #[.slice Ao143 t311.length co143, .int .i64 (t287.length : Int)] rfl tq_1 ?_; (with_reducible refine (impl_ReadStates.calls kj18 _ _ t311 (t287.length : Int) t314 true _ ?side1 ?side2 A34.out).mono ?_); (case side1 => exact tq_21); (case side2 => exact (Kd.R_reads' HO313.out).2.1); rintro e w144 ⟨v316, rfl, ho0, hb⟩; refine ⟨_, rfl, ?_⟩; have z_ := p_ (Kd.R_elder' tq_2 (Kd.R_base ho0) hb) <| p_ (Kd.R_below tq_7 hb) <| p_ (Kd.R_lower (Kd.R_new' ho0 (Kd.R_lt tq_2)) (below_size tq_0)) <| a_ (below_step tq_0 hb); clear HO_3 HO313 HB; obtain ⟨HO_3, HO313, HO317, HB⟩ := z_; (try clear hb); (try clear hb2); (try clear hk); (try clear hi); (try clear ho0)) | ((with_reducible refine gate_callee (f := 64) rfl ?_); refine goesL_ (some 55) rfl rfl Try.func64 (by kernel_rfl) rfl #[.slice Ao11 t287.length co11, .int .i64 0] rfl tq_1 ?_; (with_reducible refine (impl_PagesWith.calls kj18 _ _ t287 0 t318 _ ?side1 ?side2 A35.out).mono ?_); (case side1 => exact tq_3); (case side2 => exact (Kd.R_reads' HO_3.out).2.1); rintro e w145 ⟨v319, rfl, ho0, hb⟩; refine ⟨_, rfl, ?_⟩; have z_ := p_ (Kd.R_elder' tq_2 (Kd.R_base ho0) hb) <| p_ (Kd.R_below tq_7 hb) <| p_ (Kd.R_elder' tq_5 (Kd.R_base ho0) hb) <| p_ (Kd.R_lower (Kd.R_new' (Kd.R_new' ho0 (Kd.R_lt tq_2)) (Kd.R_lt tq_5)) (below_size tq_0)) <| a_ (below_step tq_0 hb); clear HO_3 HO313 HO317 HB; obtain ⟨HO_3, HO313, HO317, HO320, HB⟩ := z_; (try clear hb); (try clear hb2); (try clear hk); (try clear hi); (try clear ho0); obtain ⟨Ao146, co146, eo146⟩ := Kd.R_slice HO320.out; subst eo146) | ((with_reducible refine gate_callee (f := 64) rfl ?_); refine goesL_ (some 58) rfl rfl Try.func64 (by kernel_rfl) rfl #[.slice Ao11 t287.length co11, .int .i64 1] rfl tq_1 ?_; (with_reducible refine (impl_PagesWith.calls kj18 _ _ t287 1 t321 _ ?side1 ?side2 A36.out).mono ?_); (case side1 => exact tq_3); (case side2 => exact (Kd.R_reads' HO_3.out).2.1); rintro e w147 ⟨v322, rfl, ho0, hb⟩; refine ⟨_, rfl, ?_⟩; have z_ := p_ (Kd.R_elder' tq_2 (Kd.R_base ho0) hb) <| p_ (Kd.R_below tq_7 hb) <| p_ (Kd.R_elder' tq_5 (Kd.R_base ho0) hb) <| p_ (Kd.R_elder' tq_6 (Kd.R_base ho0) hb) <| p_ (Kd.R_lower (Kd.R_new' (Kd.R_new' (Kd.R_new' ho0 (Kd.R_lt tq_2)) (Kd.R_lt tq_5)) (Kd.R_lt tq_6)) (below_size tq_0)) <| a_ (below_step tq_0 hb); clear HO_3 HO313 HO317 HO320 HB; obtain ⟨HO_3, HO313, HO317, HO320, HO323, HB⟩ := z_; (try clear hb); (try clear hb2); (try clear hk); (try clear hi); (try clear ho0); obtain ⟨Ao148, co148, eo148⟩ := Kd.R_slice HO323.out; subst eo148) | ((with_reducible refine gate_callee (f := 64) rfl ?_); refine goesL_ (some 62) rfl rfl Try.func64 (by kernel_rfl) rfl #[.slice Ao11 t287.length co11, .int .i64 2] rfl tq_1 ?_; (with_reducible refine (impl_PagesWith.calls kj18 _ _ t287 2 t324 _ ?side1 ?side2 A37.out).mono ?_); (case side1 => exact tq_3); (case side2 => exact (Kd.R_reads' HO_3.out).2.1); rintro e w149 ⟨v325, rfl, ho0, hb⟩; refine ⟨_, rfl, ?_⟩; have z_ := p_ (Kd.R_elder' tq_2 (Kd.R_base ho0) hb) <| p_ (Kd.R_below tq_7 hb) <| p_ (Kd.R_elder' tq_5 (Kd.R_base ho0) hb) <| p_ (Kd.R_elder' tq_6 (Kd.R_base ho0) hb) <| p_ (Kd.R_elder' tq_8 (Kd.R_base ho0) hb) <| p_ (Kd.R_lower (Kd.R_new' (Kd.R_new' (Kd.R_new' (Kd.R_new' ho0 (Kd.R_lt tq_2)) (Kd.R_lt tq_5)) (Kd.R_lt tq_6)) (Kd.R_lt tq_8)) (below_size tq_0)) <| a_ (below_step tq_0 hb); clear HO_3 HO313 HO317 HO320 HO323 HB; obtain ⟨HO_3, HO313, HO317, HO320, HO323, HO326, HB⟩ := z_; (try clear hb); (try clear hb2); (try clear hk); (try clear hi); (try clear ho0); obtain ⟨Ao150, co150, eo150⟩ := Kd.R_slice HO326.out; subst eo150) | ((with_reducible refine gate_callee (f := 65) rfl ?_); refine goesL_ (some 67) rfl rfl Try.func65 (by kernel_rfl) rfl #[.slice Ao11 t287.length co11, .int .i64 1] rfl tq_1 ?_; (with_reducible refine (impl_FirstClean.calls kj18 _ _ t287 1 t327 t328 _ ?side1 ?side2 A38.out).mono ?_); (case side1 => exact tq_3); (case side2 => exact (Kd.R_reads' HO_3.out).2.1); rintro e w151 ⟨v329, rfl, ho0, hb⟩; refine ⟨_, rfl, ?_⟩; have z_ := p_ (Kd.R_elder' tq_2 (Kd.R_base ho0) hb) <| p_ (Kd.R_below tq_7 hb) <| p_ (Kd.R_elder' tq_5 (Kd.R_base ho0) hb) <| p_ (Kd.R_elder' tq_6 (Kd.R_base ho0) hb) <| p_ (Kd.R_elder' tq_8 (Kd.R_base ho0) hb) <| p_ (Kd.R_elder' tq_15 (Kd.R_base ho0) hb) <| p_ (Kd.R_lower (Kd.R_new' (Kd.R_new' (Kd.R_new' (Kd.R_new' (Kd.R_new' ho0 (Kd.R_lt tq_2)) (Kd.R_lt tq_5)) (Kd.R_lt tq_6)) (Kd.R_lt tq_8)) (Kd.R_lt tq_15)) (below_size tq_0)) <| a_ (below_step tq_0 hb); clear HO_3 HO313 HO317 HO320 HO323 HO326 HB; obtain ⟨HO_3, HO313, HO317, HO320, HO323, HO326, HO330, HB⟩ := z_; (try clear hb); (try clear hb2); (try clear hk); (try clear hi); (try clear ho0)))
         have z_ := p_ (Kd.R_drew HO_3.out) <| p_ (Kd.R_drew HO313.out) <| p_ (Kd.R_drew HO317.out) <| p_ (Kd.R_drew HO320.out) <| p_ (Kd.R_drew HO323.out) <| p_ (Kd.R_drew HO326.out) <| p_ (Kd.R_drew HO330.out) <| a_ (below_drew1 HB.out)
         clear HO_3 HO313 HO317 HO320 HO323 HO326 HO330 HB
         obtain ⟨HO_3, HO313, HO317, HO320, HO323, HO326, HO330, HB⟩ := z_
         obtain ⟨Ao153, co153, eo153⟩ := Kd.R_slice HO317.out
         (first | subst eo153 | (injection eo153 with f1_ f2_ f3_; have f4_ := f1_.symm; have f5_ := f3_.symm; clear f1_ f2_ f3_; subst f4_; subst f5_))
         refine start_ (n := 46) (S := fun w' => True) (ds := []) bq_0 (by kernel_rfl) rfl rfl trivial (fun hHeld => ?_); refine with_tabW laws_FnStates.tab12 laws_FnStates.bits12 (fun HT_ HW_ => ?_)
         generalize w151.drew = w152 at HO_3 HO313 HO317 HO320 HO323 HO326 HO330 HB hHeld ⊢
         refine yq_ (i := 0) (N := some 70) bq_1 (any_of HT_.out (by kernel_rfl)) ?_
         refine yq_ (i := 1) (N := some 71) bq_2 (any_of HT_.out (by kernel_rfl)) ?_
         refine yq_ (i := 2) (N := some 72) bq_3 (any_of HT_.out (by kernel_rfl)) ?_
         refine yq_ (i := 3) (N := some 73) bq_4 (any_of HT_.out (by kernel_rfl)) ?_
         refine one_ (i := 4) (N := some 74) bq_5 rfl rfl (one_of HT_.out (by kernel_rfl)) (by decide) (fun K hK => ?_)
         refine goes_ Try.func59 (by kernel_rfl) rfl #[.slice Ao153 t314.length co153, .slice Ao11 t287.length co11] (by rfl) rfl rfl tq_1 ?_
         with_reducible refine (laws_sameInts.calls kj18 _ _ t314 _ _ t287 false _ ?side1 ?side2 ?side3 ?side4 A40.out).mono ?_
         (case side1 => exact tq_25)
         (case side2 => exact (Kd.R_reads' HO317.out).2.1)
         (case side3 => exact tq_3)
         (case side4 => exact (Kd.R_reads' HO_3.out).2.1)
         rintro e w' ⟨rfl, ⟨nd, rfl⟩⟩
         refine ⟨_, rfl, ?_⟩
         refine hK.out _ _ trivial (fun hHeld => ?_)
         clear hK K
         refine nm_ (some 74) ?_
         refine yq_ (i := 5) (N := some 75) bq_6 (any_of HT_.out (by kernel_rfl)) ?_
         refine yq_ (i := 6) (N := some 76) bq_7 (any_of HT_.out (by kernel_rfl)) ?_
         refine uq_ (i := 7) (N := some 77) bq_8 (any_of HT_.out (by kernel_rfl)) ?_
         refine uq_ (i := 8) (N := some 78) bq_9 (any_of HT_.out (by kernel_rfl)) ?_
         refine uq_ (i := 9) (N := some 79) bq_10 (any_of HT_.out (by kernel_rfl)) ?_
         refine uq_ (i := 10) (N := some 80) bq_11 (any_of HT_.out (by kernel_rfl)) ?_
         refine yq_ (i := 11) (N := some 81) bq_12 (any_of HT_.out (by kernel_rfl)) ?_
         refine yq_ (i := 12) (N := some 82) bq_13 (any_of HT_.out (by kernel_rfl)) ?_
         refine uq_ (i := 13) (N := some 83) bq_14 (any_of HT_.out (by kernel_rfl)) ?_
         refine uq_ (i := 14) (N := some 84) bq_15 (any_of HT_.out (by kernel_rfl)) ?_
         refine uq_ (i := 15) (N := some 85) bq_16 (any_of HT_.out (by kernel_rfl)) ?_
         refine uq_ (i := 16) (N := some 86) bq_17 (any_of HT_.out (by kernel_rfl)) ?_
         refine uq_ (i := 17) (N := some 87) bq_18 (any_of HT_.out (by kernel_rfl)) ?_
         refine uq_ (i := 18) (N := some 88) bq_19 (any_of HT_.out (by kernel_rfl)) ?_
         refine yq_ (i := 19) (N := some 89) bq_20 (any_of HT_.out (by kernel_rfl)) ?_
         refine yq_ (i := 20) (N := some 90) bq_21 (any_of HT_.out (by kernel_rfl)) ?_
         refine uq_ (i := 21) (N := some 91) bq_22 (any_of HT_.out (by kernel_rfl)) ?_
         refine uq_ (i := 22) (N := some 92) bq_23 (any_of HT_.out (by kernel_rfl)) ?_
         refine uq_ (i := 23) (N := some 93) bq_24 (any_of HT_.out (by kernel_rfl)) ?_
         refine uq_ (i := 24) (N := some 94) bq_25 (any_of HT_.out (by kernel_rfl)) ?_
         refine uq_ (i := 25) (N := some 95) bq_26 (any_of HT_.out (by kernel_rfl)) ?_
         refine uq_ (i := 26) (N := some 96) bq_27 (any_of HT_.out (by kernel_rfl)) ?_
         refine uq_ (i := 27) (N := some 97) bq_28 (any_of HT_.out (by kernel_rfl)) ?_
         refine uq_ (i := 28) (N := some 98) bq_29 (any_of HT_.out (by kernel_rfl)) ?_
         refine uq_ (i := 29) (N := some 99) bq_30 (any_of HT_.out (by kernel_rfl)) ?_
         refine uq_ (i := 30) (N := some 100) bq_46 (any_of HT_.out (by kernel_rfl)) ?_
         refine uq_ (i := 31) (N := some 101) bq_31 (any_of HT_.out (by kernel_rfl)) ?_
         refine uq_ (i := 32) (N := some 102) bq_32 (any_of HT_.out (by kernel_rfl)) ?_
         refine uq_ (i := 33) (N := some 103) bq_33 (any_of HT_.out (by kernel_rfl)) ?_
         refine uq_ (i := 34) (N := some 104) bq_34 (any_of HT_.out (by kernel_rfl)) ?_
         refine uq_ (i := 35) (N := some 105) bq_35 (any_of HT_.out (by kernel_rfl)) ?_
         refine uq_ (i := 36) (N := some 106) bq_36 (any_of HT_.out (by kernel_rfl)) ?_
         refine uq_ (i := 37) (N := some 107) bq_37 (any_of HT_.out (by kernel_rfl)) ?_
         refine yq_ (i := 38) (N := some 108) bq_38 (any_of HT_.out (by kernel_rfl)) ?_
         refine yq_ (i := 39) (N := some 109) bq_39 (any_of HT_.out (by kernel_rfl)) ?_
         refine uq_ (i := 40) (N := some 110) bq_40 (any_of HT_.out (by kernel_rfl)) ?_
         refine uq_ (i := 41) (N := some 111) bq_41 (any_of HT_.out (by kernel_rfl)) ?_
         refine uq_ (i := 42) (N := some 112) bq_42 (any_of HT_.out (by kernel_rfl)) ?_
         refine uq_ (i := 43) (N := some 113) bq_43 (any_of HT_.out (by kernel_rfl)) ?_
         refine yq_ (i := 44) (N := some 114) bq_44 (any_of HT_.out (by kernel_rfl)) ?_
         refine yq_ (i := 45) (N := some 2) bq_45 (any_of HT_.out (by kernel_rfl)) ?_
         refine done_ (done_of HT_.out (by kernel_rfl)) ?_
         try go_wp2
         go_ret
         exact ⟨tq_13, tq_0⟩
       ·replace c39 := Bool.eq_false_iff.mpr c39
        subst c39
        have H1 : (some false) = some r := by rw [if_neg (show ¬ (false = true) by decide)] at H; exact H
        clear H
        have H := H1
        clear H1
        obtain rfl := Option.some.inj H
        try go_wp2_with (first | ((with_reducible refine gate_callee (f := 62) rfl ?_); refine goesL_ (some 48) rfl rfl Try.func62 (by kernel_rfl) rfl #[.slice Ao11 t287.length co11] rfl tq_1 ?_; (with_reducible refine (impl_StatesWords.calls kj18 _ _ t287 t311 _ ?side1 ?side2 A33.out).mono ?_); (case side1 => exact tq_3); (case side2 => exact (Kd.R_reads' HO_3.out).2.1); rintro e w154 ⟨v312, rfl, ho0, hb⟩; refine ⟨_, rfl, ?_⟩; have z_ := p_ (Kd.R_below tq_2 hb) <| p_ (Kd.R_lower ho0 (below_size tq_0)) <| a_ (below_step tq_0 hb); clear HO_3 HB; obtain ⟨HO_3, HO313, HB⟩ := z_; (try clear hb); (try clear hb2); (try clear hk); (try clear hi); (try clear ho0); obtain ⟨Ao155, co155, eo155⟩ := Kd.R_slice HO313.out; subst eo155) | ((with_reducible refine gate_callee (f := 63) rfl ?_); refine goesL_ (some 51) rfl rfl Try.func63 (by kernel_rfl) rfl #[.slice Ao155 t311.length co155, .int .i64 (t287.length : Int)] rfl tq_1 ?_; (with_reducible refine (impl_ReadStates.calls kj18 _ _ t311 (t287.length : Int) t314 false _ ?side1 ?side2 A34.out).mono ?_); (case side1 => exact tq_21); (case side2 => exact (Kd.R_reads' HO313.out).2.1); rintro e w156 ⟨v316, rfl, ho0, hb⟩; refine ⟨_, rfl, ?_⟩; have z_ := p_ (Kd.R_elder' tq_2 (Kd.R_base ho0) hb) <| p_ (Kd.R_below tq_7 hb) <| p_ (Kd.R_lower (Kd.R_new' ho0 (Kd.R_lt tq_2)) (below_size tq_0)) <| a_ (below_step tq_0 hb); clear HO_3 HO313 HB; obtain ⟨HO_3, HO313, HO317, HB⟩ := z_; (try clear hb); (try clear hb2); (try clear hk); (try clear hi); (try clear ho0)) | ((with_reducible refine gate_callee (f := 64) rfl ?_); refine goesL_ (some 55) rfl rfl Try.func64 (by kernel_rfl) rfl #[.slice Ao11 t287.length co11, .int .i64 0] rfl tq_1 ?_; (with_reducible refine (impl_PagesWith.calls kj18 _ _ t287 0 t318 _ ?side1 ?side2 A35.out).mono ?_); (case side1 => exact tq_3); (case side2 => exact (Kd.R_reads' HO_3.out).2.1); rintro e w157 ⟨v319, rfl, ho0, hb⟩; refine ⟨_, rfl, ?_⟩; have z_ := p_ (Kd.R_elder' tq_2 (Kd.R_base ho0) hb) <| p_ (Kd.R_below tq_7 hb) <| p_ (Kd.R_elder' tq_5 (Kd.R_base ho0) hb) <| p_ (Kd.R_lower (Kd.R_new' (Kd.R_new' ho0 (Kd.R_lt tq_2)) (Kd.R_lt tq_5)) (below_size tq_0)) <| a_ (below_step tq_0 hb); clear HO_3 HO313 HO317 HB; obtain ⟨HO_3, HO313, HO317, HO320, HB⟩ := z_; (try clear hb); (try clear hb2); (try clear hk); (try clear hi); (try clear ho0); obtain ⟨Ao158, co158, eo158⟩ := Kd.R_slice HO320.out; subst eo158) | ((with_reducible refine gate_callee (f := 64) rfl ?_); refine goesL_ (some 58) rfl rfl Try.func64 (by kernel_rfl) rfl #[.slice Ao11 t287.length co11, .int .i64 1] rfl tq_1 ?_; (with_reducible refine (impl_PagesWith.calls kj18 _ _ t287 1 t321 _ ?side1 ?side2 A36.out).mono ?_); (case side1 => exact tq_3); (case side2 => exact (Kd.R_reads' HO_3.out).2.1); rintro e w159 ⟨v322, rfl, ho0, hb⟩; refine ⟨_, rfl, ?_⟩; have z_ := p_ (Kd.R_elder' tq_2 (Kd.R_base ho0) hb) <| p_ (Kd.R_below tq_7 hb) <| p_ (Kd.R_elder' tq_5 (Kd.R_base ho0) hb) <| p_ (Kd.R_elder' tq_6 (Kd.R_base ho0) hb) <| p_ (Kd.R_lower (Kd.R_new' (Kd.R_new' (Kd.R_new' ho0 (Kd.R_lt tq_2)) (Kd.R_lt tq_5)) (Kd.R_lt tq_6)) (below_size tq_0)) <| a_ (below_step tq_0 hb); clear HO_3 HO313 HO317 HO320 HB; obtain ⟨HO_3, HO313, HO317, HO320, HO323, HB⟩ := z_; (try clear hb); (try clear hb2); (try clear hk); (try clear hi); (try clear ho0); obtain ⟨Ao160, co160, eo160⟩ := Kd.R_slice HO323.out; subst eo160) | ((with_reducible refine gate_callee (f := 64) rfl ?_); refine goesL_ (some 62) rfl rfl Try.func64 (by kernel_rfl) rfl #[.slice Ao11 t287.length co11, .int .i64 2] rfl tq_1 ?_; (with_reducible refine (impl_PagesWith.calls kj18 _ _ t287 2 t324 _ ?side1 ?side2 A37.out).mono ?_); (case side1 => exact tq_3); (case side2 => exact (Kd.R_reads' HO_3.out).2.1); rintro e w161 ⟨v325, rfl, ho0, hb⟩; refine ⟨_, rfl, ?_⟩; have z_ := p_ (Kd.R_elder' tq_2 (Kd.R_base ho0) hb) <| p_ (Kd.R_below tq_7 hb) <| p_ (Kd.R_elder' tq_5 (Kd.R_base ho0) hb) <| p_ (Kd.R_elder' tq_6 (Kd.R_base ho0) hb) <| p_ (Kd.R_elder' tq_8 (Kd.R_base ho0) hb) <| p_ (Kd.R_lower (Kd.R_new' (Kd.R_new' (Kd.R_new' (Kd.R_new' ho0 (Kd.R_lt tq_2)) (Kd.R_lt tq_5)) (Kd.R_lt tq_6)) (Kd.R_lt tq_8)) (below_size tq_0)) <| a_ (below_step tq_0 hb); clear HO_3 HO313 HO317 HO320 HO323 HB; obtain ⟨HO_3, HO313, HO317, HO320, HO323, HO326, HB⟩ := z_; (try clear hb); (try clear hb2); (try clear hk); (try clear hi); (try clear ho0); obtain ⟨Ao162, co162, eo162⟩ := Kd.R_slice HO326.out; subst eo162) | ((with_reducible refine gate_callee (f := 65) rfl ?_); refine goesL_ (some 67) rfl rfl Try.func65 (by kernel_rfl) rfl #[.slice Ao11 t287.length co11, .int .i64 1] rfl tq_1 ?_; (with_reducible refine (impl_FirstClean.calls kj18 _ _ t287 1 t327 t328 _ ?side1 ?side2 A38.out).mono ?_); (case side1 => exact tq_3); (case side2 => exact (Kd.R_reads' HO_3.out).2.1); rintro e w163 ⟨v329, rfl, ho0, hb⟩; refine ⟨_, rfl, ?_⟩; have z_ := p_ (Kd.R_elder' tq_2 (Kd.R_base ho0) hb) <| p_ (Kd.R_below tq_7 hb) <| p_ (Kd.R_elder' tq_5 (Kd.R_base ho0) hb) <| p_ (Kd.R_elder' tq_6 (Kd.R_base ho0) hb) <| p_ (Kd.R_elder' tq_8 (Kd.R_base ho0) hb) <| p_ (Kd.R_elder' tq_15 (Kd.R_base ho0) hb) <| p_ (Kd.R_lower (Kd.R_new' (Kd.R_new' (Kd.R_new' (Kd.R_new' (Kd.R_new' ho0 (Kd.R_lt tq_2)) (Kd.R_lt tq_5)) (Kd.R_lt tq_6)) (Kd.R_lt tq_8)) (Kd.R_lt tq_15)) (below_size tq_0)) <| a_ (below_step tq_0 hb); clear HO_3 HO313 HO317 HO320 HO323 HO326 HB; obtain ⟨HO_3, HO313, HO317, HO320, HO323, HO326, HO330, HB⟩ := z_; (try clear hb); (try clear hb2); (try clear hk); (try clear hi); (try clear ho0)))
        have z_ := p_ (Kd.R_drew HO_3.out) <| p_ (Kd.R_drew HO313.out) <| p_ (Kd.R_drew HO317.out) <| p_ (Kd.R_drew HO320.out) <| p_ (Kd.R_drew HO323.out) <| p_ (Kd.R_drew HO326.out) <| p_ (Kd.R_drew HO330.out) <| a_ (below_drew1 HB.out)
        clear HO_3 HO313 HO317 HO320 HO323 HO326 HO330 HB
        obtain ⟨HO_3, HO313, HO317, HO320, HO323, HO326, HO330, HB⟩ := z_
        refine start_ (n := 46) (S := fun w' => True) (ds := []) bq_0 (by kernel_rfl) rfl rfl trivial (fun hHeld => ?_); refine with_tabW laws_FnStates.tab12 laws_FnStates.bits12 (fun HT_ HW_ => ?_)
        generalize w163.drew = w164 at HO_3 HO313 HO317 HO320 HO323 HO326 HO330 HB hHeld ⊢
        refine yq_ (i := 0) (N := some 70) bq_1 (any_of HT_.out (by kernel_rfl)) ?_
        refine yq_ (i := 1) (N := some 71) bq_2 (any_of HT_.out (by kernel_rfl)) ?_
        refine uq_ (i := 2) (N := some 72) bq_3 (any_of HT_.out (by kernel_rfl)) ?_
        refine uq_ (i := 3) (N := some 73) bq_4 (any_of HT_.out (by kernel_rfl)) ?_
        refine uq_ (i := 4) (N := some 74) bq_5 (any_of HT_.out (by kernel_rfl)) ?_
        refine yq_ (i := 5) (N := some 75) bq_6 (any_of HT_.out (by kernel_rfl)) ?_
        refine yq_ (i := 6) (N := some 76) bq_7 (any_of HT_.out (by kernel_rfl)) ?_
        refine uq_ (i := 7) (N := some 77) bq_8 (any_of HT_.out (by kernel_rfl)) ?_
        refine uq_ (i := 8) (N := some 78) bq_9 (any_of HT_.out (by kernel_rfl)) ?_
        refine uq_ (i := 9) (N := some 79) bq_10 (any_of HT_.out (by kernel_rfl)) ?_
        refine uq_ (i := 10) (N := some 80) bq_11 (any_of HT_.out (by kernel_rfl)) ?_
        refine yq_ (i := 11) (N := some 81) bq_12 (any_of HT_.out (by kernel_rfl)) ?_
        refine yq_ (i := 12) (N := some 82) bq_13 (any_of HT_.out (by kernel_rfl)) ?_
        refine uq_ (i := 13) (N := some 83) bq_14 (any_of HT_.out (by kernel_rfl)) ?_
        refine uq_ (i := 14) (N := some 84) bq_15 (any_of HT_.out (by kernel_rfl)) ?_
        refine uq_ (i := 15) (N := some 85) bq_16 (any_of HT_.out (by kernel_rfl)) ?_
        refine uq_ (i := 16) (N := some 86) bq_17 (any_of HT_.out (by kernel_rfl)) ?_
        refine uq_ (i := 17) (N := some 87) bq_18 (any_of HT_.out (by kernel_rfl)) ?_
        refine uq_ (i := 18) (N := some 88) bq_19 (any_of HT_.out (by kernel_rfl)) ?_
        refine yq_ (i := 19) (N := some 89) bq_20 (any_of HT_.out (by kernel_rfl)) ?_
        refine yq_ (i := 20) (N := some 90) bq_21 (any_of HT_.out (by kernel_rfl)) ?_
        refine uq_ (i := 21) (N := some 91) bq_22 (any_of HT_.out (by kernel_rfl)) ?_
        refine uq_ (i := 22) (N := some 92) bq_23 (any_of HT_.out (by kernel_rfl)) ?_
        refine uq_ (i := 23) (N := some 93) bq_24 (any_of HT_.out (by kernel_rfl)) ?_
        refine uq_ (i := 24) (N := some 94) bq_25 (any_of HT_.out (by kernel_rfl)) ?_
        refine uq_ (i := 25) (N := some 95) bq_26 (any_of HT_.out (by kernel_rfl)) ?_
        refine uq_ (i := 26) (N := some 96) bq_27 (any_of HT_.out (by kernel_rfl)) ?_
        refine uq_ (i := 27) (N := some 97) bq_28 (any_of HT_.out (by kernel_rfl)) ?_
        refine uq_ (i := 28) (N := some 98) bq_29 (any_of HT_.out (by kernel_rfl)) ?_
        refine uq_ (i := 29) (N := some 99) bq_30 (any_of HT_.out (by kernel_rfl)) ?_
        refine uq_ (i := 30) (N := some 100) bq_46 (any_of HT_.out (by kernel_rfl)) ?_
        refine uq_ (i := 31) (N := some 101) bq_31 (any_of HT_.out (by kernel_rfl)) ?_
        refine uq_ (i := 32) (N := some 102) bq_32 (any_of HT_.out (by kernel_rfl)) ?_
        refine uq_ (i := 33) (N := some 103) bq_33 (any_of HT_.out (by kernel_rfl)) ?_
        refine uq_ (i := 34) (N := some 104) bq_34 (any_of HT_.out (by kernel_rfl)) ?_
        refine uq_ (i := 35) (N := some 105) bq_35 (any_of HT_.out (by kernel_rfl)) ?_
        refine uq_ (i := 36) (N := some 106) bq_36 (any_of HT_.out (by kernel_rfl)) ?_
        refine uq_ (i := 37) (N := some 107) bq_37 (any_of HT_.out (by kernel_rfl)) ?_
        refine yq_ (i := 38) (N := some 108) bq_38 (any_of HT_.out (by kernel_rfl)) ?_
        refine yq_ (i := 39) (N := some 109) bq_39 (any_of HT_.out (by kernel_rfl)) ?_
        refine uq_ (i := 40) (N := some 110) bq_40 (any_of HT_.out (by kernel_rfl)) ?_
        refine uq_ (i := 41) (N := some 111) bq_41 (any_of HT_.out (by kernel_rfl)) ?_
        refine uq_ (i := 42) (N := some 112) bq_42 (any_of HT_.out (by kernel_rfl)) ?_
        refine uq_ (i := 43) (N := some 113) bq_43 (any_of HT_.out (by kernel_rfl)) ?_
        refine yq_ (i := 44) (N := some 114) bq_44 (any_of HT_.out (by kernel_rfl)) ?_
        refine yq_ (i := 45) (N := some 2) bq_45 (any_of HT_.out (by kernel_rfl)) ?_
        refine done_ (done_of HT_.out (by kernel_rfl)) ?_
        try go_wp2
        go_ret
        exact ⟨tq_13, tq_0⟩


end Go.Proofs.Ytcdnfkoahajhhaa.PFnStates
