/- The given statement FnExactCleanOkSaid: whatever arguments come in, the law returns true and leaves its arguments as they were. Conditions: none. -/
import Derived.Test.YtcdnfkoahajhhaaRows
import Derived.Test.YtcdnfkoahajhhaaPureFnExactCleanOk
import Derived.Test.YtcdnfkoahajhhaaOpen
import Derived.WalkKit
import Derived.ProofKit
import Derived.OpenShut
import Derived.ShutString
import Derived.ChangeOld
import Derived.Below
import Derived.SizedLaws
import Derived.Carry
namespace Go.Proofs.Ytcdnfkoahajhhaa.fnExactCleanOk
open Go.ChangeShapes Go.WideShapes Go.ChangeAt Go.RowKit Go.Proofs.Ytcdnfkoahajhhaa.PFnExactCleanOk Go.Proofs.YtcdnfkoahajhhaaW.PrintWords Go.Proofs.Ytcdnfkoahajhhaa.Opn
open Go.ChangeMaps (open_string shut_string)
set_option linter.unusedVariables false
set_option linter.unusedSimpArgs false
theorem own : ownKnob Try.prog.godebug = none := by kernel_rfl
theorem laidOut : laidOutB Try.prog = true := by kernel_rfl
theorem o204 : Opn Try.prog 204 k204 Wf204 := opn_iso (fun x : S204 => (x.f0, x.f1, x.f2)) (fun p_ => ⟨p_.1, p_.2.1, p_.2.2⟩) (fun _ => rfl) (opn_struct Try.underlying204 (by kernel_rfl) (opnF_cons rfl (by kernel_rfl) (off' := 1) rfl (opn_int Try.underlying3) (opnF_cons rfl (by kernel_rfl) (off' := 2) rfl (opn_string Try.underlying9) (opnF_one rfl (by kernel_rfl) (opn_bool Try.underlying4)))))
theorem o3 : Opn Try.prog 3 (Kd.int .i64) Wf3 := (opn_int Try.underlying3)
theorem o181 : Opn Try.prog 181 k181 Wf181 := opn_iso (fun x : S181 => (x.f0, x.f1, x.f2)) (fun p_ => ⟨p_.1, p_.2.1, p_.2.2⟩) (fun _ => rfl) (opn_struct Try.underlying181 (by kernel_rfl) (opnF_cons rfl (by kernel_rfl) (off' := 1) rfl (opn_int Try.underlying3) (opnF_cons rfl (by kernel_rfl) (off' := 2) rfl (opn_int Try.underlying3) (opnF_one rfl (by kernel_rfl) (opn_string Try.underlying9)))))
theorem o56 : Opn Try.prog 56 k56 Wf56 := opn_iso (fun x : S56 => (x.f0, x.f1)) (fun p_ => ⟨p_.1, p_.2⟩) (fun _ => rfl) (opn_struct Try.underlying56 (by kernel_rfl) (opnF_cons rfl (by kernel_rfl) (off' := 1) rfl (opn_int Try.underlying3) (opnF_one rfl (by kernel_rfl) (opn_string Try.underlying9))))
theorem o44 : Opn Try.prog 44 k44 Wf44 := opn_iso (fun x : S44 => (x.f0, x.f1, x.f2, x.f3, x.f4, x.f5)) (fun p_ => ⟨p_.1, p_.2.1, p_.2.2.1, p_.2.2.2.1, p_.2.2.2.2.1, p_.2.2.2.2.2⟩) (fun _ => rfl) (opn_struct Try.underlying44 (by kernel_rfl) (opnF_cons rfl (by kernel_rfl) (off' := 1) rfl (opn_int Try.underlying3) (opnF_cons rfl (by kernel_rfl) (off' := 2) rfl (opn_int Try.underlying3) (opnF_cons rfl (by kernel_rfl) (off' := 3) rfl (opn_int Try.underlying3) (opnF_cons rfl (by kernel_rfl) (off' := 4) rfl (opn_string Try.underlying9) (opnF_cons rfl (by kernel_rfl) (off' := 5) rfl (opn_slice (B := 32) Try.underlying41 (by kernel_rfl) (by kernel_rfl) o181) (opnF_one rfl (by kernel_rfl) (opn_slice (B := 24) Try.underlying42 (by kernel_rfl) (by kernel_rfl) o56))))))))
set_option maxRecDepth 100000 in
theorem lifted (os : Os) (started : os.Started) (H : Type) (enc : TypeId × Value → H) :
    ReturnsInHanded {} Try.checked os 13 .any (Rows.fnExactCleanOkSpec.pre6 enc Try.prog Try.f13 Rows.fnExactCleanOkRow.domain false) (Rows.fnExactCleanOkSpec.post enc Try.prog Try.f13 false true false false) := by
  refine returnsInHanded_of_change_sized (C := Try.checked) own started (by kernel_rfl) Try.func13
    (ChangeSpec.witness6 (enc := enc) (C := Try.checked) false ⟨#[], #[.agg #[.string ByteArray.empty, .slice none 0 0], .agg #[.int .i64 0, .int .i64 0, .int .i64 0, .int .i64 0], .int .i64 0, .agg #[.int .i64 0, .slice none 0 0, .slice none 0 0]], []⟩ 8 (by kernel_rfl) (by kernel_rfl) (by kernel_rfl) (by kernel_rfl)) ?_
  intro W base args ds gs before hval0 hW hcnd hsz0 _
  have hsz : (DataW.weightsEach Try.prog (Try.f13.params.toList ++ Rows.fnExactCleanOkSpec.plain.varTypes Try.prog) (ds ++ gs)).all (· ≤ reachBytes) = true := hsz0
  have hval : ∀ (j : Nat) t v, Try.f13.params[j]? = some t → args[j]? = some v → Value.okWide Try.prog W .any base t v := hval0
  have hW' := hW
  obtain ⟨p, q, hA0, hV, rfl, hfz, hnd⟩ := hW
  have hA : DataW.TrodAll enc Try.prog W 0 (fun _ => true) true Try.f13.params.toList args.toList ds p := hA0
  rw [Try.params13] at hA hval hsz
  obtain ⟨v0, vs0, d0, ds0, p0, q0, hargs, rfl, rfl, h0, r0⟩ := trodAll_cons hA
  obtain ⟨v1, vs1, d1, ds1, p1, q1, rfl, rfl, rfl, h1, r1⟩ := trodAll_cons r0
  obtain ⟨v2, vs2, d2, ds2, p2, q2, rfl, rfl, rfl, h2, r2⟩ := trodAll_cons r1
  obtain ⟨v3, vs3, d3, ds3, p3, q3, rfl, rfl, rfl, h3, r3⟩ := trodAll_cons r2
  obtain ⟨rfl, rfl, rfl⟩ := trodAll_nil r3
  obtain rfl : args = #[v0, v1, v2, v3] := by cases args; simp_all
  obtain ⟨rfl, rfl⟩ := trodVars_none hV
  have k0 := h0
  have lt0 : ∀ x ∈ p0, x.block < W.heap.size := by obtain ⟨m, hm⟩ := k0; exact DataW.trod_lt m _ _ _ hm
  have ag0 := agg_of Try.underlying108 (hval 0 108 v0 rfl rfl)
  obtain ⟨⟨a0_0, l0_1⟩, K0, w0⟩ := opn_arg (opn_struct Try.underlying108 (by kernel_rfl) (opnF_cons rfl (by kernel_rfl) (off' := 1) rfl (opn_string Try.underlying9) (opnF_one rfl (by kernel_rfl) (opn_slice (B := 32) Try.underlying106 (by kernel_rfl) (by kernel_rfl) o204)))) hsz (j := 0) (t := 108) rfl rfl h0
  obtain ⟨_, _, hq0_0, rfl, ⟨A0_1, c0_1, rfl, hc0_1, hr0_1⟩⟩ := K0
  have hv0 : v0 = .agg #[.string a0_0, .slice A0_1 l0_1.length c0_1] := by rw [ag0]; exact congrArg Value.agg (Array.toList_inj.1 hq0_0)
  clear ag0 hq0_0
  subst hv0
  have k1 := h1
  have lt1 : ∀ x ∈ p1, x.block < W.heap.size := by obtain ⟨m, hm⟩ := k1; exact DataW.trod_lt m _ _ _ hm
  have ag1 := agg_of Try.underlying79 (hval 1 79 v1 rfl rfl)
  obtain ⟨⟨a1_0, a1_1, a1_2, a1_3⟩, K1, w1⟩ := opn_arg (opn_struct Try.underlying79 (by kernel_rfl) (opnF_cons rfl (by kernel_rfl) (off' := 1) rfl (opn_int Try.underlying3) (opnF_cons rfl (by kernel_rfl) (off' := 2) rfl (opn_int Try.underlying3) (opnF_cons rfl (by kernel_rfl) (off' := 3) rfl (opn_int Try.underlying3) (opnF_one rfl (by kernel_rfl) (opn_int Try.underlying3)))))) hsz (j := 1) (t := 79) rfl rfl h1
  obtain ⟨_, _, hq1_0, rfl, ⟨_, _, rfl, rfl, ⟨_, _, rfl, rfl, rfl⟩⟩⟩ := K1
  have hv1 : v1 = .agg #[.int .i64 a1_0, .int .i64 a1_1, .int .i64 a1_2, .int .i64 a1_3] := by rw [ag1]; exact congrArg Value.agg (Array.toList_inj.1 hq1_0)
  clear ag1 hq1_0
  subst hv1
  have k2 := h2
  have lt2 : ∀ x ∈ p2, x.block < W.heap.size := by obtain ⟨m, hm⟩ := k2; exact DataW.trod_lt m _ _ _ hm
  obtain ⟨a2, rfl, _, _, w2⟩ := open_int Try.underlying3 (hval 2 3 v2 rfl rfl) h2
  have k3 := h3
  have lt3 : ∀ x ∈ p3, x.block < W.heap.size := by obtain ⟨m, hm⟩ := k3; exact DataW.trod_lt m _ _ _ hm
  have ag3 := agg_of Try.underlying86 (hval 3 86 v3 rfl rfl)
  obtain ⟨⟨a3_0, l3_1, l3_2⟩, K3, w3⟩ := opn_arg (opn_struct Try.underlying86 (by kernel_rfl) (opnF_cons rfl (by kernel_rfl) (off' := 1) rfl (opn_int Try.underlying3) (opnF_cons rfl (by kernel_rfl) (off' := 2) rfl (opn_slice (B := 8) Try.underlying66 (by kernel_rfl) (by kernel_rfl) o3) (opnF_one rfl (by kernel_rfl) (opn_slice (B := 88) Try.underlying84 (by kernel_rfl) (by kernel_rfl) o44))))) hsz (j := 3) (t := 86) rfl rfl h3
  obtain ⟨_, _, hq3_0, rfl, ⟨_, _, rfl, ⟨A3_1, c3_1, rfl, hc3_1, hr3_1⟩, ⟨A3_2, c3_2, rfl, hc3_2, hr3_2⟩⟩⟩ := K3
  have hv3 : v3 = .agg #[.int .i64 a3_0, .slice A3_1 l3_1.length c3_1, .slice A3_2 l3_2.length c3_2] := by rw [ag3]; exact congrArg Value.agg (Array.toList_inj.1 hq3_0)
  clear ag3 hq3_0
  subst hv3
  obtain ⟨k, hk⟩ := Go.Proofs.Ytcdnfkoahajhhaa.Pure.FnExactCleanOk a0_0 l0_1 a1_0 a1_1 a1_2 a1_3 a2 a3_0 l3_1 l3_2 w0.1 w0.2 w1.1 w1.2.1 w1.2.2.1 w1.2.2.2 w2 w3.1 w3.2.1 w3.2.2
  clear hA0 hval0 hsz0 hsz
  refine (laws_FnExactCleanOk.calls k a0_0 _ _ l0_1 a1_0 a1_1 a1_2 a1_3 a2 a3_0 _ _ l3_1 _ _ l3_2 true W hr0_1 hc0_1 hr3_1 hc3_1 hr3_2 hc3_2 hk).mono fun e W' ⟨he, bel0⟩ => ?_
  have bel : Below W.heap.size W W' := bel0
  subst he
  exact ⟨_, rfl, _, _, _, [], _, [], hW', trodAll_mk1 (shut_bool Try.underlying4 _), (trodAll_cons_mk (Below.trod laidOut (by kernel_rfl) (of_decide_eq_true (by kernel_rfl)) k0 bel lt0) (trodAll_cons_mk (Below.trod laidOut (by kernel_rfl) (of_decide_eq_true (by kernel_rfl)) k1 bel lt1) (trodAll_cons_mk (Below.trod laidOut (by kernel_rfl) (of_decide_eq_true (by kernel_rfl)) k2 bel lt2) (trodAll_cons_mk (Below.trod laidOut (by kernel_rfl) (of_decide_eq_true (by kernel_rfl)) k3 bel lt3) trodAll_mk0)))), rfl, bel.frame _, fun h => by cases h⟩
set_option maxHeartbeats 0 in
theorem closed : joinedFacts Try.pinned.checked.prog 13 Try.f13 Rows.fnExactCleanOkSpec Rows.fnExactCleanOkRow = true := by
  unfold joinedFacts
  simp only [Bool.and_eq_true]
  repeat' apply And.intro
  all_goals (as_aux_lemma => kernel_rfl)
theorem over : Rows.fnExactCleanOkRow.holds Try.pinned (OpenSpec.ofChange Rows.fnExactCleanOkSpec) :=
  OpenClaim.holds_of_wide 13 Try.f13 rfl rfl rfl rfl rfl rfl rfl ⟨rfl, rfl, rfl, rfl, rfl⟩ rfl rfl rfl rfl rfl (by kernel_rfl) Try.func13 closed
    (of_decide_eq_true (by kernel_rfl)) (by unfold Func.isWrapper; first | (rw [if_pos (by decide +kernel)]; kernel_rfl) | (rw [if_neg (by decide +kernel)]; exact ⟨rfl, rfl⟩))
    (fun os started H enc _ => lifted os started H enc)
theorem proved : Rows.FnExactCleanOkSaid := over
#print axioms proved
end Go.Proofs.Ytcdnfkoahajhhaa.fnExactCleanOk
namespace Go.Proofs.Ytcdnfkoahajhhaa
/-- The row, under a short name, for the claim. -/
theorem fnExactCleanOk_holds : Rows.FnExactCleanOkSaid := fnExactCleanOk.proved
end Go.Proofs.Ytcdnfkoahajhhaa
