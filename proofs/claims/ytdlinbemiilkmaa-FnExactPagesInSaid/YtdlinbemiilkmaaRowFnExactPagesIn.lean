/- The given statement FnExactPagesInSaid: whatever arguments come in, the law returns true and leaves its arguments as they were. Conditions: none. -/
import Derived.Test.YtdlinbemiilkmaaRows
import Derived.Test.YtdlinbemiilkmaaPureFnExactPagesIn
import Derived.Test.YtdlinbemiilkmaaOpen
import Derived.WalkKit
import Derived.ProofKit
import Derived.OpenShut
import Derived.ShutString
import Derived.ChangeOld
import Derived.Below
import Derived.SizedLaws
import Derived.Carry
namespace Go.Proofs.Ytdlinbemiilkmaa.fnExactPagesIn
open Go.ChangeShapes Go.WideShapes Go.ChangeAt Go.RowKit Go.Proofs.Ytdlinbemiilkmaa.PFnExactPagesIn Go.Proofs.YtdlinbemiilkmaaW.PrintWords Go.Proofs.Ytdlinbemiilkmaa.Opn
open Go.ChangeMaps (open_string shut_string)
set_option linter.unusedVariables false
set_option linter.unusedSimpArgs false
theorem own : ownKnob Try.prog.godebug = none := by kernel_rfl
theorem laidOut : laidOutB Try.prog = true := by kernel_rfl
theorem o84 : Opn Try.prog 84 k84 Wf84 := opn_iso (fun x : S84 => (x.f0, x.f1, x.f2)) (fun p_ => ⟨p_.1, p_.2.1, p_.2.2⟩) (fun _ => rfl) (opn_struct Try.underlying84 (by kernel_rfl) (opnF_cons rfl (by kernel_rfl) (off' := 1) rfl (opn_string Try.underlying9) (opnF_cons rfl (by kernel_rfl) (off' := 2) rfl (opn_bool Try.underlying4) (opnF_one rfl (by kernel_rfl) (opn_string Try.underlying9)))))
set_option maxRecDepth 100000 in
theorem lifted (os : Os) (started : os.Started) (H : Type) (enc : TypeId × Value → H) :
    ReturnsInHanded {} Try.checked os 10 .any (Rows.fnExactPagesInSpec.pre6 enc Try.prog Try.f10 Rows.fnExactPagesInRow.domain false) (Rows.fnExactPagesInSpec.post enc Try.prog Try.f10 false true false false) := by
  refine returnsInHanded_of_change_sized (C := Try.checked) own started (by kernel_rfl) Try.func10
    (ChangeSpec.witness6 (enc := enc) (C := Try.checked) false ⟨#[], #[.agg #[.slice none 0 0]], []⟩ 8 (by kernel_rfl) (by kernel_rfl) (by kernel_rfl) (by kernel_rfl)) ?_
  intro W base args ds gs before hval0 hW hcnd hsz0 _
  have hsz : (DataW.weightsEach Try.prog (Try.f10.params.toList ++ Rows.fnExactPagesInSpec.plain.varTypes Try.prog) (ds ++ gs)).all (· ≤ reachBytes) = true := hsz0
  have hval : ∀ (j : Nat) t v, Try.f10.params[j]? = some t → args[j]? = some v → Value.okWide Try.prog W .any base t v := hval0
  have hW' := hW
  obtain ⟨p, q, hA0, hV, rfl, hfz, hnd⟩ := hW
  have hA : DataW.TrodAll enc Try.prog W 0 (fun _ => true) true Try.f10.params.toList args.toList ds p := hA0
  rw [Try.params10] at hA hval hsz
  obtain ⟨v0, vs0, d0, ds0, p0, q0, hargs, rfl, rfl, h0, r0⟩ := trodAll_cons hA
  obtain ⟨rfl, rfl, rfl⟩ := trodAll_nil r0
  obtain rfl : args = #[v0] := by cases args; simp_all
  obtain ⟨rfl, rfl⟩ := trodVars_none hV
  have k0 := h0
  have lt0 : ∀ x ∈ p0, x.block < W.heap.size := by obtain ⟨m, hm⟩ := k0; exact DataW.trod_lt m _ _ _ hm
  have ag0 := agg_of Try.underlying41 (hval 0 41 v0 rfl rfl)
  obtain ⟨l0_0, K0, w0⟩ := opn_arg (opn_struct Try.underlying41 (by kernel_rfl) (opnF_one rfl (by kernel_rfl) (opn_slice (B := 40) Try.underlying39 (by kernel_rfl) (by kernel_rfl) o84))) hsz (j := 0) (t := 41) rfl rfl h0
  obtain ⟨A0_0, c0_0, hq0_0, hc0_0, hr0_0⟩ := K0
  have hv0 : v0 = .agg #[.slice A0_0 l0_0.length c0_0] := by rw [ag0]; exact congrArg Value.agg (Array.toList_inj.1 hq0_0)
  clear ag0 hq0_0
  subst hv0
  obtain ⟨k, hk⟩ := Go.Proofs.Ytdlinbemiilkmaa.Pure.FnExactPagesIn l0_0 w0
  clear hA0 hval0 hsz0 hsz
  refine (laws_FnExactPagesIn.calls k _ _ l0_0 true W hr0_0 hc0_0 hk).mono fun e W' ⟨he, bel0⟩ => ?_
  have bel : Below W.heap.size W W' := bel0
  subst he
  exact ⟨_, rfl, _, _, _, [], _, [], hW', trodAll_mk1 (shut_bool Try.underlying4 _), (trodAll_cons_mk (Below.trod laidOut (by kernel_rfl) (of_decide_eq_true (by kernel_rfl)) k0 bel lt0) trodAll_mk0), rfl, bel.frame _, fun h => by cases h⟩
theorem over : Rows.fnExactPagesInRow.holds Try.pinned (OpenSpec.ofChange Rows.fnExactPagesInSpec) :=
  OpenClaim.holds_of_wide 10 Try.f10 rfl rfl rfl rfl rfl rfl rfl ⟨rfl, rfl, rfl, rfl, rfl⟩ rfl rfl rfl rfl rfl (by kernel_rfl) Try.func10 (by kernel_rfl)
    (of_decide_eq_true (by kernel_rfl)) (by unfold Func.isWrapper; first | (rw [if_pos (by decide +kernel)]; kernel_rfl) | (rw [if_neg (by decide +kernel)]; exact ⟨rfl, rfl⟩))
    (fun os started H enc _ => lifted os started H enc)
theorem proved : Rows.FnExactPagesInSaid := over
#print axioms proved
end Go.Proofs.Ytdlinbemiilkmaa.fnExactPagesIn
namespace Go.Proofs.Ytdlinbemiilkmaa
/-- The row, under a short name, for the claim. -/
theorem fnExactPagesIn_holds : Rows.FnExactPagesInSaid := fnExactPagesIn.proved
end Go.Proofs.Ytdlinbemiilkmaa
