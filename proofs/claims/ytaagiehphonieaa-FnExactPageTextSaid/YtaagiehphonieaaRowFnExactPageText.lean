/- The given statement FnExactPageTextSaid: whatever arguments come in, the law returns true and leaves its arguments as they were. Conditions: none. -/
import Derived.Test.YtaagiehphonieaaRows
import Derived.Test.YtaagiehphonieaaPureFnExactPageText
import Derived.Test.YtaagiehphonieaaOpen
import Derived.WalkKit
import Derived.ProofKit
import Derived.OpenShut
import Derived.ShutString
import Derived.ChangeOld
import Derived.Below
import Derived.SizedLaws
import Derived.Carry
namespace Go.Proofs.Ytaagiehphonieaa.fnExactPageText
open Go.ChangeShapes Go.WideShapes Go.ChangeAt Go.RowKit Go.Proofs.Ytaagiehphonieaa.PFnExactPageText Go.Proofs.YtaagiehphonieaaW.PrintWords Go.Proofs.Ytaagiehphonieaa.Opn
open Go.ChangeMaps (open_string shut_string)
set_option linter.unusedVariables false
set_option linter.unusedSimpArgs false
theorem own : ownKnob Try.prog.godebug = none := by kernel_rfl
theorem laidOut : laidOutB Try.prog = true := by kernel_rfl
theorem o140 : Opn Try.prog 140 k140 Wf140 := opn_iso (fun x : S140 => (x.f0, x.f1, x.f2)) (fun p_ => ⟨p_.1, p_.2.1, p_.2.2⟩) (fun _ => rfl) (opn_struct Try.underlying140 (by kernel_rfl) (opnF_cons rfl (by kernel_rfl) (off' := 1) rfl (opn_int Try.underlying3) (opnF_cons rfl (by kernel_rfl) (off' := 2) rfl (opn_string Try.underlying9) (opnF_one rfl (by kernel_rfl) (opn_bool Try.underlying4)))))
set_option maxRecDepth 100000 in
theorem lifted (os : Os) (started : os.Started) (H : Type) (enc : TypeId × Value → H) :
    ReturnsInHanded {} Try.checked os 4 .any (Rows.fnExactPageTextSpec.pre6 enc Try.prog Try.f4 Rows.fnExactPageTextRow.domain false) (Rows.fnExactPageTextSpec.post enc Try.prog Try.f4 false true false false) := by
  refine returnsInHanded_of_change_sized (C := Try.checked) own started (by kernel_rfl) Try.func4
    (ChangeSpec.witness6 (enc := enc) (C := Try.checked) false ⟨#[], #[.agg #[.string ByteArray.empty, .slice none 0 0], .agg #[.int .i64 0, .int .i64 0, .int .i64 0, .int .i64 0], .int .i64 0, .int .i64 0], []⟩ 8 (by kernel_rfl) (by kernel_rfl) (by kernel_rfl) (by kernel_rfl)) ?_
  intro W base args ds gs before hval0 hW hcnd hsz0 _
  have hsz : (DataW.weightsEach Try.prog (Try.f4.params.toList ++ Rows.fnExactPageTextSpec.plain.varTypes Try.prog) (ds ++ gs)).all (· ≤ reachBytes) = true := hsz0
  have hval : ∀ (j : Nat) t v, Try.f4.params[j]? = some t → args[j]? = some v → Value.okWide Try.prog W .any base t v := hval0
  have hW' := hW
  obtain ⟨p, q, hA0, hV, rfl, hfz, hnd⟩ := hW
  have hA : DataW.TrodAll enc Try.prog W 0 (fun _ => true) true Try.f4.params.toList args.toList ds p := hA0
  rw [Try.params4] at hA hval hsz
  obtain ⟨v0, vs0, d0, ds0, p0, q0, hargs, rfl, rfl, h0, r0⟩ := trodAll_cons hA
  obtain ⟨v1, vs1, d1, ds1, p1, q1, rfl, rfl, rfl, h1, r1⟩ := trodAll_cons r0
  obtain ⟨v2, vs2, d2, ds2, p2, q2, rfl, rfl, rfl, h2, r2⟩ := trodAll_cons r1
  obtain ⟨v3, vs3, d3, ds3, p3, q3, rfl, rfl, rfl, h3, r3⟩ := trodAll_cons r2
  obtain ⟨rfl, rfl, rfl⟩ := trodAll_nil r3
  obtain rfl : args = #[v0, v1, v2, v3] := by cases args; simp_all
  obtain ⟨rfl, rfl⟩ := trodVars_none hV
  have k0 := h0
  have lt0 : ∀ x ∈ p0, x.block < W.heap.size := by obtain ⟨m, hm⟩ := k0; exact DataW.trod_lt m _ _ _ hm
  have ag0 := agg_of Try.underlying34 (hval 0 34 v0 rfl rfl)
  obtain ⟨⟨a0_0, l0_1⟩, K0, w0⟩ := opn_arg (opn_struct Try.underlying34 (by kernel_rfl) (opnF_cons rfl (by kernel_rfl) (off' := 1) rfl (opn_string Try.underlying9) (opnF_one rfl (by kernel_rfl) (opn_slice (B := 32) Try.underlying32 (by kernel_rfl) (by kernel_rfl) o140)))) hsz (j := 0) (t := 34) rfl rfl h0
  obtain ⟨_, _, hq0_0, rfl, ⟨A0_1, c0_1, rfl, hc0_1, hr0_1⟩⟩ := K0
  have hv0 : v0 = .agg #[.string a0_0, .slice A0_1 l0_1.length c0_1] := by rw [ag0]; exact congrArg Value.agg (Array.toList_inj.1 hq0_0)
  clear ag0 hq0_0
  subst hv0
  have k1 := h1
  have lt1 : ∀ x ∈ p1, x.block < W.heap.size := by obtain ⟨m, hm⟩ := k1; exact DataW.trod_lt m _ _ _ hm
  have ag1 := agg_of Try.underlying36 (hval 1 36 v1 rfl rfl)
  obtain ⟨⟨a1_0, a1_1, a1_2, a1_3⟩, K1, w1⟩ := opn_arg (opn_struct Try.underlying36 (by kernel_rfl) (opnF_cons rfl (by kernel_rfl) (off' := 1) rfl (opn_int Try.underlying3) (opnF_cons rfl (by kernel_rfl) (off' := 2) rfl (opn_int Try.underlying3) (opnF_cons rfl (by kernel_rfl) (off' := 3) rfl (opn_int Try.underlying3) (opnF_one rfl (by kernel_rfl) (opn_int Try.underlying3)))))) hsz (j := 1) (t := 36) rfl rfl h1
  obtain ⟨_, _, hq1_0, rfl, ⟨_, _, rfl, rfl, ⟨_, _, rfl, rfl, rfl⟩⟩⟩ := K1
  have hv1 : v1 = .agg #[.int .i64 a1_0, .int .i64 a1_1, .int .i64 a1_2, .int .i64 a1_3] := by rw [ag1]; exact congrArg Value.agg (Array.toList_inj.1 hq1_0)
  clear ag1 hq1_0
  subst hv1
  have k2 := h2
  have lt2 : ∀ x ∈ p2, x.block < W.heap.size := by obtain ⟨m, hm⟩ := k2; exact DataW.trod_lt m _ _ _ hm
  obtain ⟨a2, rfl, _, _, w2⟩ := open_int Try.underlying3 (hval 2 3 v2 rfl rfl) h2
  have k3 := h3
  have lt3 : ∀ x ∈ p3, x.block < W.heap.size := by obtain ⟨m, hm⟩ := k3; exact DataW.trod_lt m _ _ _ hm
  obtain ⟨a3, rfl, _, _, w3⟩ := open_int Try.underlying3 (hval 3 3 v3 rfl rfl) h3
  obtain ⟨k, hk⟩ := Go.Proofs.Ytaagiehphonieaa.Pure.FnExactPageText a0_0 l0_1 a1_0 a1_1 a1_2 a1_3 a2 a3 w0.1 w0.2 w1.1 w1.2.1 w1.2.2.1 w1.2.2.2 w2 w3
  clear hA0 hval0 hsz0 hsz
  refine (laws_FnExactPageText.calls k a0_0 _ _ l0_1 a1_0 a1_1 a1_2 a1_3 a2 a3 true W hr0_1 hc0_1 hk).mono fun e W' ⟨he, bel0⟩ => ?_
  have bel : Below W.heap.size W W' := bel0
  subst he
  exact ⟨_, rfl, _, _, _, [], _, [], hW', trodAll_mk1 (shut_bool Try.underlying4 _), (trodAll_cons_mk (Below.trod laidOut (by kernel_rfl) (of_decide_eq_true (by kernel_rfl)) k0 bel lt0) (trodAll_cons_mk (Below.trod laidOut (by kernel_rfl) (of_decide_eq_true (by kernel_rfl)) k1 bel lt1) (trodAll_cons_mk (Below.trod laidOut (by kernel_rfl) (of_decide_eq_true (by kernel_rfl)) k2 bel lt2) (trodAll_cons_mk (Below.trod laidOut (by kernel_rfl) (of_decide_eq_true (by kernel_rfl)) k3 bel lt3) trodAll_mk0)))), rfl, bel.frame _, fun h => by cases h⟩
theorem over : Rows.fnExactPageTextRow.holds Try.pinned (OpenSpec.ofChange Rows.fnExactPageTextSpec) :=
  OpenClaim.holds_of_wide 4 Try.f4 rfl rfl rfl rfl rfl rfl rfl ⟨rfl, rfl, rfl, rfl, rfl⟩ rfl rfl rfl rfl rfl (by kernel_rfl) Try.func4 (by kernel_rfl)
    (of_decide_eq_true (by kernel_rfl)) (by unfold Func.isWrapper; first | (rw [if_pos (by decide +kernel)]; kernel_rfl) | (rw [if_neg (by decide +kernel)]; exact ⟨rfl, rfl⟩))
    (fun os started H enc _ => lifted os started H enc)
theorem proved : Rows.FnExactPageTextSaid := over
#print axioms proved
end Go.Proofs.Ytaagiehphonieaa.fnExactPageText
namespace Go.Proofs.Ytaagiehphonieaa
/-- The row, under a short name, for the claim. -/
theorem fnExactPageText_holds : Rows.FnExactPageTextSaid := fnExactPageText.proved
end Go.Proofs.Ytaagiehphonieaa
