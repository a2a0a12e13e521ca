/- The given statement FnExactPutItemSaid: whatever arguments come in, the law returns true and leaves its arguments as they were. Conditions: none. -/
import Derived.Test.YtcdnfkoahajhhaaRows
import Derived.Test.YtcdnfkoahajhhaaPureFnExactPutItem
import Derived.Test.YtcdnfkoahajhhaaOpen
import Derived.WalkKit
import Derived.ProofKit
import Derived.OpenShut
import Derived.ShutString
import Derived.ChangeOld
import Derived.Below
import Derived.SizedLaws
import Derived.Carry
namespace Go.Proofs.Ytcdnfkoahajhhaa.fnExactPutItem
open Go.ChangeShapes Go.WideShapes Go.ChangeAt Go.RowKit Go.Proofs.Ytcdnfkoahajhhaa.PFnExactPutItem Go.Proofs.YtcdnfkoahajhhaaW.PrintWords Go.Proofs.Ytcdnfkoahajhhaa.Opn
open Go.ChangeMaps (open_string shut_string)
set_option linter.unusedVariables false
set_option linter.unusedSimpArgs false
theorem own : ownKnob Try.prog.godebug = none := by kernel_rfl
theorem laidOut : laidOutB Try.prog = true := by kernel_rfl
theorem o35 : Opn Try.prog 35 k35 Wf35 := opn_iso (fun x : S35 => (x.f0, x.f1, x.f2)) (fun p_ => ⟨p_.1, p_.2.1, p_.2.2⟩) (fun _ => rfl) (opn_struct Try.underlying35 (by kernel_rfl) (opnF_cons rfl (by kernel_rfl) (off' := 1) rfl (opn_string Try.underlying9) (opnF_cons rfl (by kernel_rfl) (off' := 2) rfl (opn_bool Try.underlying4) (opnF_one rfl (by kernel_rfl) (opn_string Try.underlying9)))))
set_option maxRecDepth 100000 in
theorem lifted (os : Os) (started : os.Started) (H : Type) (enc : TypeId × Value → H) :
    ReturnsInHanded {} Try.checked os 4 .any (Rows.fnExactPutItemSpec.pre6 enc Try.prog Try.f4 Rows.fnExactPutItemRow.domain false) (Rows.fnExactPutItemSpec.post enc Try.prog Try.f4 false true false false) := by
  refine returnsInHanded_of_change_sized (C := Try.checked) own started (by kernel_rfl) Try.func4
    (ChangeSpec.witness6 (enc := enc) (C := Try.checked) false ⟨#[], #[.agg #[.slice none 0 0], .agg #[.string ByteArray.empty, .bool false, .string ByteArray.empty]], []⟩ 8 (by kernel_rfl) (by kernel_rfl) (by kernel_rfl) (by kernel_rfl)) ?_
  intro W base args ds gs before hval0 hW hcnd hsz0 _
  have hsz : (DataW.weightsEach Try.prog (Try.f4.params.toList ++ Rows.fnExactPutItemSpec.plain.varTypes Try.prog) (ds ++ gs)).all (· ≤ reachBytes) = true := hsz0
  have hval : ∀ (j : Nat) t v, Try.f4.params[j]? = some t → args[j]? = some v → Value.okWide Try.prog W .any base t v := hval0
  have hW' := hW
  obtain ⟨p, q, hA0, hV, rfl, hfz, hnd⟩ := hW
  have hA : DataW.TrodAll enc Try.prog W 0 (fun _ => true) true Try.f4.params.toList args.toList ds p := hA0
  rw [Try.params4] at hA hval hsz
  obtain ⟨v0, vs0, d0, ds0, p0, q0, hargs, rfl, rfl, h0, r0⟩ := trodAll_cons hA
  obtain ⟨v1, vs1, d1, ds1, p1, q1, rfl, rfl, rfl, h1, r1⟩ := trodAll_cons r0
  obtain ⟨rfl, rfl, rfl⟩ := trodAll_nil r1
  obtain rfl : args = #[v0, v1] := by cases args; simp_all
  obtain ⟨rfl, rfl⟩ := trodVars_none hV
  have k0 := h0
  have lt0 : ∀ x ∈ p0, x.block < W.heap.size := by obtain ⟨m, hm⟩ := k0; exact DataW.trod_lt m _ _ _ hm
  have ag0 := agg_of Try.underlying24 (hval 0 24 v0 rfl rfl)
  obtain ⟨l0_0, K0, w0⟩ := opn_arg (opn_struct Try.underlying24 (by kernel_rfl) (opnF_one rfl (by kernel_rfl) (opn_slice (B := 40) Try.underlying22 (by kernel_rfl) (by kernel_rfl) o35))) hsz (j := 0) (t := 24) rfl rfl h0
  obtain ⟨A0_0, c0_0, hq0_0, hc0_0, hr0_0⟩ := K0
  have hv0 : v0 = .agg #[.slice A0_0 l0_0.length c0_0] := by rw [ag0]; exact congrArg Value.agg (Array.toList_inj.1 hq0_0)
  clear ag0 hq0_0
  subst hv0
  have k1 := h1
  have lt1 : ∀ x ∈ p1, x.block < W.heap.size := by obtain ⟨m, hm⟩ := k1; exact DataW.trod_lt m _ _ _ hm
  have ag1 := agg_of Try.underlying35 (hval 1 35 v1 rfl rfl)
  obtain ⟨⟨a1_0, a1_1, a1_2⟩, K1, w1⟩ := opn_arg (opn_struct Try.underlying35 (by kernel_rfl) (opnF_cons rfl (by kernel_rfl) (off' := 1) rfl (opn_string Try.underlying9) (opnF_cons rfl (by kernel_rfl) (off' := 2) rfl (opn_bool Try.underlying4) (opnF_one rfl (by kernel_rfl) (opn_string Try.underlying9))))) hsz (j := 1) (t := 35) rfl rfl h1
  obtain ⟨_, _, hq1_0, rfl, ⟨_, _, rfl, rfl, rfl⟩⟩ := K1
  have hv1 : v1 = .agg #[.string a1_0, .bool a1_1, .string a1_2] := by rw [ag1]; exact congrArg Value.agg (Array.toList_inj.1 hq1_0)
  clear ag1 hq1_0
  subst hv1
  obtain ⟨k, hk⟩ := Go.Proofs.Ytcdnfkoahajhhaa.Pure.FnExactPutItem l0_0 a1_0 a1_1 a1_2 w0 w1.1 w1.2.2
  clear hA0 hval0 hsz0 hsz
  refine (laws_FnExactPutItem.calls k _ _ l0_0 a1_0 a1_1 a1_2 true W hr0_0 hc0_0 hk).mono fun e W' ⟨he, bel0⟩ => ?_
  have bel : Below W.heap.size W W' := bel0
  subst he
  exact ⟨_, rfl, _, _, _, [], _, [], hW', trodAll_mk1 (shut_bool Try.underlying4 _), (trodAll_cons_mk (Below.trod laidOut (by kernel_rfl) (of_decide_eq_true (by kernel_rfl)) k0 bel lt0) (trodAll_cons_mk (Below.trod laidOut (by kernel_rfl) (of_decide_eq_true (by kernel_rfl)) k1 bel lt1) trodAll_mk0)), rfl, bel.frame _, fun h => by cases h⟩
set_option maxHeartbeats 0 in
theorem closed : joinedFacts Try.pinned.checked.prog 4 Try.f4 Rows.fnExactPutItemSpec Rows.fnExactPutItemRow = true := by
  unfold joinedFacts
  simp only [Bool.and_eq_true]
  repeat' apply And.intro
  all_goals (as_aux_lemma => kernel_rfl)
theorem over : Rows.fnExactPutItemRow.holds Try.pinned (OpenSpec.ofChange Rows.fnExactPutItemSpec) :=
  OpenClaim.holds_of_wide 4 Try.f4 rfl rfl rfl rfl rfl rfl rfl ⟨rfl, rfl, rfl, rfl, rfl⟩ rfl rfl rfl rfl rfl (by kernel_rfl) Try.func4 closed
    (of_decide_eq_true (by kernel_rfl)) (by unfold Func.isWrapper; first | (rw [if_pos (by decide +kernel)]; kernel_rfl) | (rw [if_neg (by decide +kernel)]; exact ⟨rfl, rfl⟩))
    (fun os started H enc _ => lifted os started H enc)
theorem proved : Rows.FnExactPutItemSaid := over
#print axioms proved
end Go.Proofs.Ytcdnfkoahajhhaa.fnExactPutItem
namespace Go.Proofs.Ytcdnfkoahajhhaa
/-- The row, under a short name, for the claim. -/
theorem fnExactPutItem_holds : Rows.FnExactPutItemSaid := fnExactPutItem.proved
end Go.Proofs.Ytcdnfkoahajhhaa
