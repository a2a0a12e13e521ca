/- The given statement FnExactPartNewSaid: whatever arguments come in, the law returns true and leaves its arguments as they were. Conditions: none. -/
import Derived.Test.YtljnnmpfeningaaRows
import Derived.Test.YtljnnmpfeningaaPureFnExactPartNew
import Derived.Test.YtljnnmpfeningaaOpen
import Derived.WalkKit
import Derived.ProofKit
import Derived.OpenShut
import Derived.ShutString
import Derived.ChangeOld
import Derived.Below
import Derived.SizedLaws
import Derived.Carry
namespace Go.Proofs.Ytljnnmpfeningaa.fnExactPartNew
open Go.ChangeShapes Go.WideShapes Go.ChangeAt Go.RowKit Go.Proofs.Ytljnnmpfeningaa.PFnExactPartNew Go.Proofs.YtljnnmpfeningaaW.PrintWords Go.Proofs.Ytljnnmpfeningaa.Opn
open Go.ChangeMaps (open_string shut_string)
set_option linter.unusedVariables false
set_option linter.unusedSimpArgs false
theorem own : ownKnob Try.prog.godebug = none := by kernel_rfl
theorem laidOut : laidOutB Try.prog = true := by kernel_rfl
set_option maxRecDepth 100000 in
theorem lifted (os : Os) (started : os.Started) (H : Type) (enc : TypeId × Value → H) :
    ReturnsInHanded {} Try.checked os 5 .any (Rows.fnExactPartNewSpec.pre6 enc Try.prog Try.f5 Rows.fnExactPartNewRow.domain false) (Rows.fnExactPartNewSpec.post enc Try.prog Try.f5 false true false false) := by
  refine returnsInHanded_of_change_sized (C := Try.checked) own started (by kernel_rfl) Try.func5
    (ChangeSpec.witness6 (enc := enc) (C := Try.checked) false ⟨#[], #[.agg #[.int .i64 0, .int .i64 0, .int .i64 0, .int .i64 0]], []⟩ 8 (by kernel_rfl) (by kernel_rfl) (by kernel_rfl) (by kernel_rfl)) ?_
  intro W base args ds gs before hval0 hW hcnd hsz0 _
  have hsz : (DataW.weightsEach Try.prog (Try.f5.params.toList ++ Rows.fnExactPartNewSpec.plain.varTypes Try.prog) (ds ++ gs)).all (· ≤ reachBytes) = true := hsz0
  have hval : ∀ (j : Nat) t v, Try.f5.params[j]? = some t → args[j]? = some v → Value.okWide Try.prog W .any base t v := hval0
  have hW' := hW
  obtain ⟨p, q, hA0, hV, rfl, hfz, hnd⟩ := hW
  have hA : DataW.TrodAll enc Try.prog W 0 (fun _ => true) true Try.f5.params.toList args.toList ds p := hA0
  rw [Try.params5] at hA hval hsz
  obtain ⟨v0, vs0, d0, ds0, p0, q0, hargs, rfl, rfl, h0, r0⟩ := trodAll_cons hA
  obtain ⟨rfl, rfl, rfl⟩ := trodAll_nil r0
  obtain rfl : args = #[v0] := by cases args; simp_all
  obtain ⟨rfl, rfl⟩ := trodVars_none hV
  have k0 := h0
  have lt0 : ∀ x ∈ p0, x.block < W.heap.size := by obtain ⟨m, hm⟩ := k0; exact DataW.trod_lt m _ _ _ hm
  have ag0 := agg_of Try.underlying23 (hval 0 23 v0 rfl rfl)
  obtain ⟨⟨a0_0, a0_1, a0_2, a0_3⟩, K0, w0⟩ := opn_arg (opn_struct Try.underlying23 (by kernel_rfl) (opnF_cons rfl (by kernel_rfl) (off' := 1) rfl (opn_int Try.underlying3) (opnF_cons rfl (by kernel_rfl) (off' := 2) rfl (opn_int Try.underlying3) (opnF_cons rfl (by kernel_rfl) (off' := 3) rfl (opn_int Try.underlying3) (opnF_one rfl (by kernel_rfl) (opn_int Try.underlying3)))))) hsz (j := 0) (t := 23) rfl rfl h0
  obtain ⟨_, _, hq0_0, rfl, ⟨_, _, rfl, rfl, ⟨_, _, rfl, rfl, rfl⟩⟩⟩ := K0
  have hv0 : v0 = .agg #[.int .i64 a0_0, .int .i64 a0_1, .int .i64 a0_2, .int .i64 a0_3] := by rw [ag0]; exact congrArg Value.agg (Array.toList_inj.1 hq0_0)
  clear ag0 hq0_0
  subst hv0
  obtain ⟨k, hk⟩ := Go.Proofs.Ytljnnmpfeningaa.Pure.FnExactPartNew a0_0 a0_1 a0_2 a0_3 w0.1 w0.2.1 w0.2.2.1 w0.2.2.2
  clear hA0 hval0 hsz0 hsz
  refine (laws_FnExactPartNew.calls k a0_0 a0_1 a0_2 a0_3 true W  hk).mono fun e W' ⟨he, bel0⟩ => ?_
  have bel : Below W.heap.size W W' := bel0
  subst he
  exact ⟨_, rfl, _, _, _, [], _, [], hW', trodAll_mk1 (shut_bool Try.underlying4 _), (trodAll_cons_mk (Below.trod laidOut (by kernel_rfl) (of_decide_eq_true (by kernel_rfl)) k0 bel lt0) trodAll_mk0), rfl, bel.frame _, fun h => by cases h⟩
set_option maxHeartbeats 0 in
theorem closed : joinedFacts Try.pinned.checked.prog 5 Try.f5 Rows.fnExactPartNewSpec Rows.fnExactPartNewRow = true := by
  unfold joinedFacts
  simp only [Bool.and_eq_true]
  repeat' apply And.intro
  all_goals (as_aux_lemma => kernel_rfl)
theorem over : Rows.fnExactPartNewRow.holds Try.pinned (OpenSpec.ofChange Rows.fnExactPartNewSpec) :=
  OpenClaim.holds_of_wide 5 Try.f5 rfl rfl rfl rfl rfl rfl rfl ⟨rfl, rfl, rfl, rfl, rfl⟩ rfl rfl rfl rfl rfl (by kernel_rfl) Try.func5 closed
    (of_decide_eq_true (by kernel_rfl)) (by unfold Func.isWrapper; first | (rw [if_pos (by decide +kernel)]; kernel_rfl) | (rw [if_neg (by decide +kernel)]; exact ⟨rfl, rfl⟩))
    (fun os started H enc _ => lifted os started H enc)
theorem proved : Rows.FnExactPartNewSaid := over
#print axioms proved
end Go.Proofs.Ytljnnmpfeningaa.fnExactPartNew
namespace Go.Proofs.Ytljnnmpfeningaa
/-- The row, under a short name, for the claim. -/
theorem fnExactPartNew_holds : Rows.FnExactPartNewSaid := fnExactPartNew.proved
end Go.Proofs.Ytljnnmpfeningaa
