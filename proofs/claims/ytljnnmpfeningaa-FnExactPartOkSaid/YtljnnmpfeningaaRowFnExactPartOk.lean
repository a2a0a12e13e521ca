/- The given statement FnExactPartOkSaid: whatever arguments come in, the law returns true and leaves its arguments as they were. Conditions: none. -/
import Derived.Test.YtljnnmpfeningaaRows
import Derived.Test.YtljnnmpfeningaaPureFnExactPartOk
import Derived.Test.YtljnnmpfeningaaOpen
import Derived.WalkKit
import Derived.ProofKit
import Derived.OpenShut
import Derived.ShutString
import Derived.ChangeOld
import Derived.Below
import Derived.SizedLaws
import Derived.Carry
namespace Go.Proofs.Ytljnnmpfeningaa.fnExactPartOk
open Go.ChangeShapes Go.WideShapes Go.ChangeAt Go.RowKit Go.Proofs.Ytljnnmpfeningaa.PFnExactPartOk Go.Proofs.YtljnnmpfeningaaW.PrintWords Go.Proofs.Ytljnnmpfeningaa.Opn
open Go.ChangeMaps (open_string shut_string)
set_option linter.unusedVariables false
set_option linter.unusedSimpArgs false
theorem own : ownKnob Try.prog.godebug = none := by kernel_rfl
theorem laidOut : laidOutB Try.prog = true := by kernel_rfl
theorem o3 : Opn Try.prog 3 (Kd.int .i64) Wf3 := (opn_int Try.underlying3)
theorem o137 : Opn Try.prog 137 k137 Wf137 := opn_iso (fun x : S137 => (x.f0, x.f1, x.f2)) (fun p_ => ⟨p_.1, p_.2.1, p_.2.2⟩) (fun _ => rfl) (opn_struct Try.underlying137 (by kernel_rfl) (opnF_cons rfl (by kernel_rfl) (off' := 1) rfl (opn_int Try.underlying3) (opnF_cons rfl (by kernel_rfl) (off' := 2) rfl (opn_int Try.underlying3) (opnF_one rfl (by kernel_rfl) (opn_string Try.underlying9)))))
theorem o139 : Opn Try.prog 139 k139 Wf139 := opn_iso (fun x : S139 => (x.f0, x.f1)) (fun p_ => ⟨p_.1, p_.2⟩) (fun _ => rfl) (opn_struct Try.underlying139 (by kernel_rfl) (opnF_cons rfl (by kernel_rfl) (off' := 1) rfl (opn_int Try.underlying3) (opnF_one rfl (by kernel_rfl) (opn_string Try.underlying9))))
theorem o93 : Opn Try.prog 93 k93 Wf93 := opn_iso (fun x : S93 => (x.f0, x.f1, x.f2, x.f3, x.f4, x.f5)) (fun p_ => ⟨p_.1, p_.2.1, p_.2.2.1, p_.2.2.2.1, p_.2.2.2.2.1, p_.2.2.2.2.2⟩) (fun _ => rfl) (opn_struct Try.underlying93 (by kernel_rfl) (opnF_cons rfl (by kernel_rfl) (off' := 1) rfl (opn_int Try.underlying3) (opnF_cons rfl (by kernel_rfl) (off' := 2) rfl (opn_int Try.underlying3) (opnF_cons rfl (by kernel_rfl) (off' := 3) rfl (opn_int Try.underlying3) (opnF_cons rfl (by kernel_rfl) (off' := 4) rfl (opn_string Try.underlying9) (opnF_cons rfl (by kernel_rfl) (off' := 5) rfl (opn_slice (B := 32) Try.underlying90 (by kernel_rfl) (by kernel_rfl) o137) (opnF_one rfl (by kernel_rfl) (opn_slice (B := 24) Try.underlying91 (by kernel_rfl) (by kernel_rfl) o139))))))))
set_option maxRecDepth 100000 in
theorem lifted (os : Os) (started : os.Started) (H : Type) (enc : TypeId × Value → H) :
    ReturnsInHanded {} Try.checked os 3 .any (Rows.fnExactPartOkSpec.pre6 enc Try.prog Try.f3 Rows.fnExactPartOkRow.domain false) (Rows.fnExactPartOkSpec.post enc Try.prog Try.f3 false true false false) := by
  refine returnsInHanded_of_change_sized (C := Try.checked) own started (by kernel_rfl) Try.func3
    (ChangeSpec.witness6 (enc := enc) (C := Try.checked) false ⟨#[], #[.agg #[.int .i64 0, .int .i64 0, .int .i64 0, .int .i64 0], .agg #[.int .i64 0, .slice none 0 0, .slice none 0 0]], []⟩ 8 (by kernel_rfl) (by kernel_rfl) (by kernel_rfl) (by kernel_rfl)) ?_
  intro W base args ds gs before hval0 hW hcnd hsz0 _
  have hsz : (DataW.weightsEach Try.prog (Try.f3.params.toList ++ Rows.fnExactPartOkSpec.plain.varTypes Try.prog) (ds ++ gs)).all (· ≤ reachBytes) = true := hsz0
  have hval : ∀ (j : Nat) t v, Try.f3.params[j]? = some t → args[j]? = some v → Value.okWide Try.prog W .any base t v := hval0
  have hW' := hW
  obtain ⟨p, q, hA0, hV, rfl, hfz, hnd⟩ := hW
  have hA : DataW.TrodAll enc Try.prog W 0 (fun _ => true) true Try.f3.params.toList args.toList ds p := hA0
  rw [Try.params3] at hA hval hsz
  obtain ⟨v0, vs0, d0, ds0, p0, q0, hargs, rfl, rfl, h0, r0⟩ := trodAll_cons hA
  obtain ⟨v1, vs1, d1, ds1, p1, q1, rfl, rfl, rfl, h1, r1⟩ := trodAll_cons r0
  obtain ⟨rfl, rfl, rfl⟩ := trodAll_nil r1
  obtain rfl : args = #[v0, v1] := by cases args; simp_all
  obtain ⟨rfl, rfl⟩ := trodVars_none hV
  have k0 := h0
  have lt0 : ∀ x ∈ p0, x.block < W.heap.size := by obtain ⟨m, hm⟩ := k0; exact DataW.trod_lt m _ _ _ hm
  have ag0 := agg_of Try.underlying23 (hval 0 23 v0 rfl rfl)
  obtain ⟨⟨a0_0, a0_1, a0_2, a0_3⟩, K0, w0⟩ := opn_arg (opn_struct Try.underlying23 (by kernel_rfl) (opnF_cons rfl (by kernel_rfl) (off' := 1) rfl (opn_int Try.underlying3) (opnF_cons rfl (by kernel_rfl) (off' := 2) rfl (opn_int Try.underlying3) (opnF_cons rfl (by kernel_rfl) (off' := 3) rfl (opn_int Try.underlying3) (opnF_one rfl (by kernel_rfl) (opn_int Try.underlying3)))))) hsz (j := 0) (t := 23) rfl rfl h0
  obtain ⟨_, _, hq0_0, rfl, ⟨_, _, rfl, rfl, ⟨_, _, rfl, rfl, rfl⟩⟩⟩ := K0
  have hv0 : v0 = .agg #[.int .i64 a0_0, .int .i64 a0_1, .int .i64 a0_2, .int .i64 a0_3] := by rw [ag0]; exact congrArg Value.agg (Array.toList_inj.1 hq0_0)
  clear ag0 hq0_0
  subst hv0
  have k1 := h1
  have lt1 : ∀ x ∈ p1, x.block < W.heap.size := by obtain ⟨m, hm⟩ := k1; exact DataW.trod_lt m _ _ _ hm
  have ag1 := agg_of Try.underlying27 (hval 1 27 v1 rfl rfl)
  obtain ⟨⟨a1_0, l1_1, l1_2⟩, K1, w1⟩ := opn_arg (opn_struct Try.underlying27 (by kernel_rfl) (opnF_cons rfl (by kernel_rfl) (off' := 1) rfl (opn_int Try.underlying3) (opnF_cons rfl (by kernel_rfl) (off' := 2) rfl (opn_slice (B := 8) Try.underlying24 (by kernel_rfl) (by kernel_rfl) o3) (opnF_one rfl (by kernel_rfl) (opn_slice (B := 88) Try.underlying25 (by kernel_rfl) (by kernel_rfl) o93))))) hsz (j := 1) (t := 27) rfl rfl h1
  obtain ⟨_, _, hq1_0, rfl, ⟨_, _, rfl, ⟨A1_1, c1_1, rfl, hc1_1, hr1_1⟩, ⟨A1_2, c1_2, rfl, hc1_2, hr1_2⟩⟩⟩ := K1
  have hv1 : v1 = .agg #[.int .i64 a1_0, .slice A1_1 l1_1.length c1_1, .slice A1_2 l1_2.length c1_2] := by rw [ag1]; exact congrArg Value.agg (Array.toList_inj.1 hq1_0)
  clear ag1 hq1_0
  subst hv1
  obtain ⟨k, hk⟩ := Go.Proofs.Ytljnnmpfeningaa.Pure.FnExactPartOk a0_0 a0_1 a0_2 a0_3 a1_0 l1_1 l1_2 w0.1 w0.2.1 w0.2.2.1 w0.2.2.2 w1.1 w1.2.1 w1.2.2
  clear hA0 hval0 hsz0 hsz
  refine (laws_FnExactPartOk.calls k a0_0 a0_1 a0_2 a0_3 a1_0 _ _ l1_1 _ _ l1_2 true W hr1_1 hc1_1 hr1_2 hc1_2 hk).mono fun e W' ⟨he, bel0⟩ => ?_
  have bel : Below W.heap.size W W' := bel0
  subst he
  exact ⟨_, rfl, _, _, _, [], _, [], hW', trodAll_mk1 (shut_bool Try.underlying4 _), (trodAll_cons_mk (Below.trod laidOut (by kernel_rfl) (of_decide_eq_true (by kernel_rfl)) k0 bel lt0) (trodAll_cons_mk (Below.trod laidOut (by kernel_rfl) (of_decide_eq_true (by kernel_rfl)) k1 bel lt1) trodAll_mk0)), rfl, bel.frame _, fun h => by cases h⟩
set_option maxHeartbeats 0 in
theorem closed : joinedFacts Try.pinned.checked.prog 3 Try.f3 Rows.fnExactPartOkSpec Rows.fnExactPartOkRow = true := by
  unfold joinedFacts
  simp only [Bool.and_eq_true]
  repeat' apply And.intro
  all_goals (as_aux_lemma => kernel_rfl)
theorem over : Rows.fnExactPartOkRow.holds Try.pinned (OpenSpec.ofChange Rows.fnExactPartOkSpec) :=
  OpenClaim.holds_of_wide 3 Try.f3 rfl rfl rfl rfl rfl rfl rfl ⟨rfl, rfl, rfl, rfl, rfl⟩ rfl rfl rfl rfl rfl (by kernel_rfl) Try.func3 closed
    (of_decide_eq_true (by kernel_rfl)) (by unfold Func.isWrapper; first | (rw [if_pos (by decide +kernel)]; kernel_rfl) | (rw [if_neg (by decide +kernel)]; exact ⟨rfl, rfl⟩))
    (fun os started H enc _ => lifted os started H enc)
theorem proved : Rows.FnExactPartOkSaid := over
#print axioms proved
end Go.Proofs.Ytljnnmpfeningaa.fnExactPartOk
namespace Go.Proofs.Ytljnnmpfeningaa
/-- The row, under a short name, for the claim. -/
theorem fnExactPartOk_holds : Rows.FnExactPartOkSaid := fnExactPartOk.proved
end Go.Proofs.Ytljnnmpfeningaa
