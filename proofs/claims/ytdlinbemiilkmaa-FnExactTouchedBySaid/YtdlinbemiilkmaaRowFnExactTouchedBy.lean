/- The given statement FnExactTouchedBySaid: whatever arguments come in, the law returns true and leaves its arguments as they were. Conditions: none. -/
import Derived.Test.YtdlinbemiilkmaaRows
import Derived.Test.YtdlinbemiilkmaaPureFnExactTouchedBy
import Derived.Test.YtdlinbemiilkmaaOpen
import Derived.WalkKit
import Derived.ProofKit
import Derived.OpenShut
import Derived.ShutString
import Derived.ChangeOld
import Derived.Below
import Derived.SizedLaws
import Derived.Carry
namespace Go.Proofs.Ytdlinbemiilkmaa.fnExactTouchedBy
open Go.ChangeShapes Go.WideShapes Go.ChangeAt Go.RowKit Go.Proofs.Ytdlinbemiilkmaa.PFnExactTouchedBy Go.Proofs.YtdlinbemiilkmaaW.PrintWords Go.Proofs.Ytdlinbemiilkmaa.Opn
open Go.ChangeMaps (open_string shut_string)
set_option linter.unusedVariables false
set_option linter.unusedSimpArgs false
theorem own : ownKnob Try.prog.godebug = none := by kernel_rfl
theorem laidOut : laidOutB Try.prog = true := by kernel_rfl
set_option maxRecDepth 100000 in
theorem lifted (os : Os) (started : os.Started) (H : Type) (enc : TypeId × Value → H) :
    ReturnsInHanded {} Try.checked os 12 .any (Rows.fnExactTouchedBySpec.pre6 enc Try.prog Try.f12 Rows.fnExactTouchedByRow.domain false) (Rows.fnExactTouchedBySpec.post enc Try.prog Try.f12 false true false false) := by
  refine returnsInHanded_of_change_sized (C := Try.checked) own started (by kernel_rfl) Try.func12
    (ChangeSpec.witness6 (enc := enc) (C := Try.checked) false ⟨#[], #[.int .i64 0, .agg #[.int .i64 0, .string ByteArray.empty, .string ByteArray.empty, .int .i64 0, .int .i64 0, .string ByteArray.empty]], []⟩ 8 (by kernel_rfl) (by kernel_rfl) (by kernel_rfl) (by kernel_rfl)) ?_
  intro W base args ds gs before hval0 hW hcnd hsz0 _
  have hsz : (DataW.weightsEach Try.prog (Try.f12.params.toList ++ Rows.fnExactTouchedBySpec.plain.varTypes Try.prog) (ds ++ gs)).all (· ≤ reachBytes) = true := hsz0
  have hval : ∀ (j : Nat) t v, Try.f12.params[j]? = some t → args[j]? = some v → Value.okWide Try.prog W .any base t v := hval0
  have hW' := hW
  obtain ⟨p, q, hA0, hV, rfl, hfz, hnd⟩ := hW
  have hA : DataW.TrodAll enc Try.prog W 0 (fun _ => true) true Try.f12.params.toList args.toList ds p := hA0
  rw [Try.params12] at hA hval hsz
  obtain ⟨v0, vs0, d0, ds0, p0, q0, hargs, rfl, rfl, h0, r0⟩ := trodAll_cons hA
  obtain ⟨v1, vs1, d1, ds1, p1, q1, rfl, rfl, rfl, h1, r1⟩ := trodAll_cons r0
  obtain ⟨rfl, rfl, rfl⟩ := trodAll_nil r1
  obtain rfl : args = #[v0, v1] := by cases args; simp_all
  obtain ⟨rfl, rfl⟩ := trodVars_none hV
  have k0 := h0
  have lt0 : ∀ x ∈ p0, x.block < W.heap.size := by obtain ⟨m, hm⟩ := k0; exact DataW.trod_lt m _ _ _ hm
  obtain ⟨a0, rfl, _, _, w0⟩ := open_int Try.underlying3 (hval 0 3 v0 rfl rfl) h0
  have k1 := h1
  have lt1 : ∀ x ∈ p1, x.block < W.heap.size := by obtain ⟨m, hm⟩ := k1; exact DataW.trod_lt m _ _ _ hm
  have ag1 := agg_of Try.underlying23 (hval 1 23 v1 rfl rfl)
  obtain ⟨⟨a1_0, a1_1, a1_2, a1_3, a1_4, a1_5⟩, K1, w1⟩ := opn_arg (opn_struct Try.underlying23 (by kernel_rfl) (opnF_cons rfl (by kernel_rfl) (off' := 1) rfl (opn_int Try.underlying3) (opnF_cons rfl (by kernel_rfl) (off' := 2) rfl (opn_string Try.underlying9) (opnF_cons rfl (by kernel_rfl) (off' := 3) rfl (opn_string Try.underlying9) (opnF_cons rfl (by kernel_rfl) (off' := 4) rfl (opn_int Try.underlying3) (opnF_cons rfl (by kernel_rfl) (off' := 5) rfl (opn_int Try.underlying3) (opnF_one rfl (by kernel_rfl) (opn_string Try.underlying9)))))))) hsz (j := 1) (t := 23) rfl rfl h1
  obtain ⟨_, _, hq1_0, rfl, ⟨_, _, rfl, rfl, ⟨_, _, rfl, rfl, ⟨_, _, rfl, rfl, ⟨_, _, rfl, rfl, rfl⟩⟩⟩⟩⟩ := K1
  have hv1 : v1 = .agg #[.int .i64 a1_0, .string a1_1, .string a1_2, .int .i64 a1_3, .int .i64 a1_4, .string a1_5] := by rw [ag1]; exact congrArg Value.agg (Array.toList_inj.1 hq1_0)
  clear ag1 hq1_0
  subst hv1
  obtain ⟨k, hk⟩ := Go.Proofs.Ytdlinbemiilkmaa.Pure.FnExactTouchedBy a0 a1_0 a1_1 a1_2 a1_3 a1_4 a1_5 w0 w1.1 w1.2.1 w1.2.2.1 w1.2.2.2.1 w1.2.2.2.2.1 w1.2.2.2.2.2
  clear hA0 hval0 hsz0 hsz
  refine (laws_FnExactTouchedBy.calls k a0 a1_0 a1_1 a1_2 a1_3 a1_4 a1_5 true W  hk).mono fun e W' ⟨he, bel0⟩ => ?_
  have bel : Below W.heap.size W W' := bel0
  subst he
  exact ⟨_, rfl, _, _, _, [], _, [], hW', trodAll_mk1 (shut_bool Try.underlying4 _), (trodAll_cons_mk (Below.trod laidOut (by kernel_rfl) (of_decide_eq_true (by kernel_rfl)) k0 bel lt0) (trodAll_cons_mk (Below.trod laidOut (by kernel_rfl) (of_decide_eq_true (by kernel_rfl)) k1 bel lt1) trodAll_mk0)), rfl, bel.frame _, fun h => by cases h⟩
theorem over : Rows.fnExactTouchedByRow.holds Try.pinned (OpenSpec.ofChange Rows.fnExactTouchedBySpec) :=
  OpenClaim.holds_of_wide 12 Try.f12 rfl rfl rfl rfl rfl rfl rfl ⟨rfl, rfl, rfl, rfl, rfl⟩ rfl rfl rfl rfl rfl (by kernel_rfl) Try.func12 (by kernel_rfl)
    (of_decide_eq_true (by kernel_rfl)) (by unfold Func.isWrapper; first | (rw [if_pos (by decide +kernel)]; kernel_rfl) | (rw [if_neg (by decide +kernel)]; exact ⟨rfl, rfl⟩))
    (fun os started H enc _ => lifted os started H enc)
theorem proved : Rows.FnExactTouchedBySaid := over
#print axioms proved
end Go.Proofs.Ytdlinbemiilkmaa.fnExactTouchedBy
namespace Go.Proofs.Ytdlinbemiilkmaa
/-- The row, under a short name, for the claim. -/
theorem fnExactTouchedBy_holds : Rows.FnExactTouchedBySaid := fnExactTouchedBy.proved
end Go.Proofs.Ytdlinbemiilkmaa
