/- The given statement FnExactWithEntrySaid: whatever arguments come in, the law returns true and leaves its arguments as they were. Conditions: none. -/
import Derived.Test.YtcdnfkoahajhhaaRows
import Derived.Test.YtcdnfkoahajhhaaPureFnExactWithEntry
import Derived.Test.YtcdnfkoahajhhaaOpen
import Derived.WalkKit
import Derived.ProofKit
import Derived.OpenShut
import Derived.ShutString
import Derived.ChangeOld
import Derived.Below
import Derived.SizedLaws
import Derived.Carry
namespace Go.Proofs.Ytcdnfkoahajhhaa.fnExactWithEntry
open Go.ChangeShapes Go.WideShapes Go.ChangeAt Go.RowKit Go.Proofs.Ytcdnfkoahajhhaa.PFnExactWithEntry Go.Proofs.YtcdnfkoahajhhaaW.PrintWords Go.Proofs.Ytcdnfkoahajhhaa.Opn
open Go.ChangeMaps (open_string shut_string)
set_option linter.unusedVariables false
set_option linter.unusedSimpArgs false
theorem own : ownKnob Try.prog.godebug = none := by kernel_rfl
theorem laidOut : laidOutB Try.prog = true := by kernel_rfl
theorem o181 : Opn Try.prog 181 k181 Wf181 := opn_iso (fun x : S181 => (x.f0, x.f1, x.f2)) (fun p_ => ⟨p_.1, p_.2.1, p_.2.2⟩) (fun _ => rfl) (opn_struct Try.underlying181 (by kernel_rfl) (opnF_cons rfl (by kernel_rfl) (off' := 1) rfl (opn_int Try.underlying3) (opnF_cons rfl (by kernel_rfl) (off' := 2) rfl (opn_int Try.underlying3) (opnF_one rfl (by kernel_rfl) (opn_string Try.underlying9)))))
theorem o56 : Opn Try.prog 56 k56 Wf56 := opn_iso (fun x : S56 => (x.f0, x.f1)) (fun p_ => ⟨p_.1, p_.2⟩) (fun _ => rfl) (opn_struct Try.underlying56 (by kernel_rfl) (opnF_cons rfl (by kernel_rfl) (off' := 1) rfl (opn_int Try.underlying3) (opnF_one rfl (by kernel_rfl) (opn_string Try.underlying9))))
set_option maxRecDepth 100000 in
theorem lifted (os : Os) (started : os.Started) (H : Type) (enc : TypeId × Value → H) :
    ReturnsInHanded {} Try.checked os 6 .any (Rows.fnExactWithEntrySpec.pre6 enc Try.prog Try.f6 Rows.fnExactWithEntryRow.domain false) (Rows.fnExactWithEntrySpec.post enc Try.prog Try.f6 false true false false) := by
  refine returnsInHanded_of_change_sized (C := Try.checked) own started (by kernel_rfl) Try.func6
    (ChangeSpec.witness6 (enc := enc) (C := Try.checked) false ⟨#[], #[.agg #[.int .i64 0, .int .i64 0, .int .i64 0, .string ByteArray.empty, .slice none 0 0, .slice none 0 0], .agg #[.int .i64 0, .string ByteArray.empty]], []⟩ 8 (by kernel_rfl) (by kernel_rfl) (by kernel_rfl) (by kernel_rfl)) ?_
  intro W base args ds gs before hval0 hW hcnd hsz0 _
  have hsz : (DataW.weightsEach Try.prog (Try.f6.params.toList ++ Rows.fnExactWithEntrySpec.plain.varTypes Try.prog) (ds ++ gs)).all (· ≤ reachBytes) = true := hsz0
  have hval : ∀ (j : Nat) t v, Try.f6.params[j]? = some t → args[j]? = some v → Value.okWide Try.prog W .any base t v := hval0
  have hW' := hW
  obtain ⟨p, q, hA0, hV, rfl, hfz, hnd⟩ := hW
  have hA : DataW.TrodAll enc Try.prog W 0 (fun _ => true) true Try.f6.params.toList args.toList ds p := hA0
  rw [Try.params6] at hA hval hsz
  obtain ⟨v0, vs0, d0, ds0, p0, q0, hargs, rfl, rfl, h0, r0⟩ := trodAll_cons hA
  obtain ⟨v1, vs1, d1, ds1, p1, q1, rfl, rfl, rfl, h1, r1⟩ := trodAll_cons r0
  obtain ⟨rfl, rfl, rfl⟩ := trodAll_nil r1
  obtain rfl : args = #[v0, v1] := by cases args; simp_all
  obtain ⟨rfl, rfl⟩ := trodVars_none hV
  have k0 := h0
  have lt0 : ∀ x ∈ p0, x.block < W.heap.size := by obtain ⟨m, hm⟩ := k0; exact DataW.trod_lt m _ _ _ hm
  have ag0 := agg_of Try.underlying44 (hval 0 44 v0 rfl rfl)
  obtain ⟨⟨a0_0, a0_1, a0_2, a0_3, l0_4, l0_5⟩, K0, w0⟩ := opn_arg (opn_struct Try.underlying44 (by kernel_rfl) (opnF_cons rfl (by kernel_rfl) (off' := 1) rfl (opn_int Try.underlying3) (opnF_cons rfl (by kernel_rfl) (off' := 2) rfl (opn_int Try.underlying3) (opnF_cons rfl (by kernel_rfl) (off' := 3) rfl (opn_int Try.underlying3) (opnF_cons rfl (by kernel_rfl) (off' := 4) rfl (opn_string Try.underlying9) (opnF_cons rfl (by kernel_rfl) (off' := 5) rfl (opn_slice (B := 32) Try.underlying41 (by kernel_rfl) (by kernel_rfl) o181) (opnF_one rfl (by kernel_rfl) (opn_slice (B := 24) Try.underlying42 (by kernel_rfl) (by kernel_rfl) o56)))))))) hsz (j := 0) (t := 44) rfl rfl h0
  obtain ⟨_, _, hq0_0, rfl, ⟨_, _, rfl, rfl, ⟨_, _, rfl, rfl, ⟨_, _, rfl, rfl, ⟨_, _, rfl, ⟨A0_4, c0_4, rfl, hc0_4, hr0_4⟩, ⟨A0_5, c0_5, rfl, hc0_5, hr0_5⟩⟩⟩⟩⟩⟩ := K0
  have hv0 : v0 = .agg #[.int .i64 a0_0, .int .i64 a0_1, .int .i64 a0_2, .string a0_3, .slice A0_4 l0_4.length c0_4, .slice A0_5 l0_5.length c0_5] := by rw [ag0]; exact congrArg Value.agg (Array.toList_inj.1 hq0_0)
  clear ag0 hq0_0
  subst hv0
  have k1 := h1
  have lt1 : ∀ x ∈ p1, x.block < W.heap.size := by obtain ⟨m, hm⟩ := k1; exact DataW.trod_lt m _ _ _ hm
  have ag1 := agg_of Try.underlying56 (hval 1 56 v1 rfl rfl)
  obtain ⟨⟨a1_0, a1_1⟩, K1, w1⟩ := opn_arg (opn_struct Try.underlying56 (by kernel_rfl) (opnF_cons rfl (by kernel_rfl) (off' := 1) rfl (opn_int Try.underlying3) (opnF_one rfl (by kernel_rfl) (opn_string Try.underlying9)))) hsz (j := 1) (t := 56) rfl rfl h1
  obtain ⟨_, _, hq1_0, rfl, rfl⟩ := K1
  have hv1 : v1 = .agg #[.int .i64 a1_0, .string a1_1] := by rw [ag1]; exact congrArg Value.agg (Array.toList_inj.1 hq1_0)
  clear ag1 hq1_0
  subst hv1
  obtain ⟨k, hk⟩ := Go.Proofs.Ytcdnfkoahajhhaa.Pure.FnExactWithEntry a0_0 a0_1 a0_2 a0_3 l0_4 l0_5 a1_0 a1_1 w0.1 w0.2.1 w0.2.2.1 w0.2.2.2.1 w0.2.2.2.2.1 w0.2.2.2.2.2 w1.1 w1.2
  clear hA0 hval0 hsz0 hsz
  refine (laws_FnExactWithEntry.calls k a0_0 a0_1 a0_2 a0_3 _ _ l0_4 _ _ l0_5 a1_0 a1_1 true W hr0_4 hc0_4 hr0_5 hc0_5 hk).mono fun e W' ⟨he, bel0⟩ => ?_
  have bel : Below W.heap.size W W' := bel0
  subst he
  exact ⟨_, rfl, _, _, _, [], _, [], hW', trodAll_mk1 (shut_bool Try.underlying4 _), (trodAll_cons_mk (Below.trod laidOut (by kernel_rfl) (of_decide_eq_true (by kernel_rfl)) k0 bel lt0) (trodAll_cons_mk (Below.trod laidOut (by kernel_rfl) (of_decide_eq_true (by kernel_rfl)) k1 bel lt1) trodAll_mk0)), rfl, bel.frame _, fun h => by cases h⟩
set_option maxHeartbeats 0 in
theorem closed : joinedFacts Try.pinned.checked.prog 6 Try.f6 Rows.fnExactWithEntrySpec Rows.fnExactWithEntryRow = true := by
  unfold joinedFacts
  simp only [Bool.and_eq_true]
  repeat' apply And.intro
  all_goals (as_aux_lemma => kernel_rfl)
theorem over : Rows.fnExactWithEntryRow.holds Try.pinned (OpenSpec.ofChange Rows.fnExactWithEntrySpec) :=
  OpenClaim.holds_of_wide 6 Try.f6 rfl rfl rfl rfl rfl rfl rfl ⟨rfl, rfl, rfl, rfl, rfl⟩ rfl rfl rfl rfl rfl (by kernel_rfl) Try.func6 closed
    (of_decide_eq_true (by kernel_rfl)) (by unfold Func.isWrapper; first | (rw [if_pos (by decide +kernel)]; kernel_rfl) | (rw [if_neg (by decide +kernel)]; exact ⟨rfl, rfl⟩))
    (fun os started H enc _ => lifted os started H enc)
theorem proved : Rows.FnExactWithEntrySaid := over
#print axioms proved
end Go.Proofs.Ytcdnfkoahajhhaa.fnExactWithEntry
namespace Go.Proofs.Ytcdnfkoahajhhaa
/-- The row, under a short name, for the claim. -/
theorem fnExactWithEntry_holds : Rows.FnExactWithEntrySaid := fnExactWithEntry.proved
end Go.Proofs.Ytcdnfkoahajhhaa
