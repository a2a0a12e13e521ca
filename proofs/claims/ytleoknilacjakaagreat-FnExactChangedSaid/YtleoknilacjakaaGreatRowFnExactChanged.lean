/- The given statement FnExactChangedSaid: whatever arguments come in, the law returns true and leaves its arguments as they were. Conditions: none. -/
import Derived.Test.YtleoknilacjakaaGreatRows
import Derived.Test.YtleoknilacjakaaGreatPureFnExactChanged
import Derived.Test.YtleoknilacjakaaGreatOpen
import Derived.WalkKit
import Derived.ProofKit
import Derived.OpenShut
import Derived.ShutString
import Derived.ChangeOld
import Derived.Below
import Derived.SizedLaws
import Derived.Carry
namespace Go.Proofs.YtleoknilacjakaaGreat.fnExactChanged
open Go.ChangeShapes Go.WideShapes Go.ChangeAt Go.RowKit Go.Proofs.YtleoknilacjakaaGreat.PFnExactChanged Go.Proofs.YtleoknilacjakaaGreatW.PrintWords Go.Proofs.YtleoknilacjakaaGreat.Opn
open Go.ChangeMaps (open_string shut_string)
set_option linter.unusedVariables false
set_option linter.unusedSimpArgs false
theorem own : ownKnob Tryz.prog.godebug = none := by kernel_rfl
theorem laidOut : laidOutB Tryz.prog = true := by kernel_rfl
theorem o3 : Opn Tryz.prog 3 (Kd.int .i64) Wf3 := (opn_int Tryz.underlying3)
theorem o107 : Opn Tryz.prog 107 k107 Wf107 := opn_iso (fun x : S107 => (x.f0, x.f1, x.f2)) (fun p_ => ⟨p_.1, p_.2.1, p_.2.2⟩) (fun _ => rfl) (opn_struct Tryz.underlying107 (by kernel_rfl) (opnF_cons rfl (by kernel_rfl) (off' := 1) rfl (opn_int Tryz.underlying3) (opnF_cons rfl (by kernel_rfl) (off' := 2) rfl (opn_int Tryz.underlying3) (opnF_one rfl (by kernel_rfl) (opn_string Tryz.underlying9)))))
theorem o109 : Opn Tryz.prog 109 k109 Wf109 := opn_iso (fun x : S109 => (x.f0, x.f1)) (fun p_ => ⟨p_.1, p_.2⟩) (fun _ => rfl) (opn_struct Tryz.underlying109 (by kernel_rfl) (opnF_cons rfl (by kernel_rfl) (off' := 1) rfl (opn_int Tryz.underlying3) (opnF_one rfl (by kernel_rfl) (opn_string Tryz.underlying9))))
theorem o62 : Opn Tryz.prog 62 k62 Wf62 := opn_iso (fun x : S62 => (x.f0, x.f1, x.f2, x.f3, x.f4, x.f5)) (fun p_ => ⟨p_.1, p_.2.1, p_.2.2.1, p_.2.2.2.1, p_.2.2.2.2.1, p_.2.2.2.2.2⟩) (fun _ => rfl) (opn_struct Tryz.underlying62 (by kernel_rfl) (opnF_cons rfl (by kernel_rfl) (off' := 1) rfl (opn_int Tryz.underlying3) (opnF_cons rfl (by kernel_rfl) (off' := 2) rfl (opn_int Tryz.underlying3) (opnF_cons rfl (by kernel_rfl) (off' := 3) rfl (opn_int Tryz.underlying3) (opnF_cons rfl (by kernel_rfl) (off' := 4) rfl (opn_string Tryz.underlying9) (opnF_cons rfl (by kernel_rfl) (off' := 5) rfl (opn_slice (B := 32) Tryz.underlying59 (by kernel_rfl) (by kernel_rfl) o107) (opnF_one rfl (by kernel_rfl) (opn_slice (B := 24) Tryz.underlying60 (by kernel_rfl) (by kernel_rfl) o109))))))))
set_option maxRecDepth 100000 in
theorem lifted (os : Os) (started : os.Started) (H : Type) (enc : TypeId × Value → H) :
    ReturnsInHanded {} Tryz.checked os 4 .any (Rows.fnExactChangedSpec.pre6 enc Tryz.prog Tryz.f4 Rows.fnExactChangedRow.domain false) (Rows.fnExactChangedSpec.post enc Tryz.prog Tryz.f4 false true false false) := by
  refine returnsInHanded_of_change_sized (C := Tryz.checked) own started (by kernel_rfl) Tryz.func4
    (ChangeSpec.witness6 (enc := enc) (C := Tryz.checked) false ⟨#[], #[.agg #[.int .i64 0, .int .i64 0, .int .i64 0, .int .i64 0], .int .i64 0, .agg #[.int .i64 0, .slice none 0 0, .slice none 0 0], .agg #[.int .i64 0, .slice none 0 0, .slice none 0 0]], []⟩ 8 (by kernel_rfl) (by kernel_rfl) (by kernel_rfl) (by kernel_rfl)) ?_
  intro W base args ds gs before hval0 hW hcnd hsz0 _
  have hsz : (DataW.weightsEach Tryz.prog (Tryz.f4.params.toList ++ Rows.fnExactChangedSpec.plain.varTypes Tryz.prog) (ds ++ gs)).all (· ≤ reachBytes) = true := hsz0
  have hval : ∀ (j : Nat) t v, Tryz.f4.params[j]? = some t → args[j]? = some v → Value.okWide Tryz.prog W .any base t v := hval0
  have hW' := hW
  obtain ⟨p, q, hA0, hV, rfl, hfz, hnd⟩ := hW
  have hA : DataW.TrodAll enc Tryz.prog W 0 (fun _ => true) true Tryz.f4.params.toList args.toList ds p := hA0
  rw [Tryz.params4] at hA hval hsz
  obtain ⟨v0, vs0, d0, ds0, p0, q0, hargs, rfl, rfl, h0, r0⟩ := trodAll_cons hA
  obtain ⟨v1, vs1, d1, ds1, p1, q1, rfl, rfl, rfl, h1, r1⟩ := trodAll_cons r0
  obtain ⟨v2, vs2, d2, ds2, p2, q2, rfl, rfl, rfl, h2, r2⟩ := trodAll_cons r1
  obtain ⟨v3, vs3, d3, ds3, p3, q3, rfl, rfl, rfl, h3, r3⟩ := trodAll_cons r2
  obtain ⟨rfl, rfl, rfl⟩ := trodAll_nil r3
  obtain rfl : args = #[v0, v1, v2, v3] := by cases args; simp_all
  obtain ⟨rfl, rfl⟩ := trodVars_none hV
  have k0 := h0
  have lt0 : ∀ x ∈ p0, x.block < W.heap.size := by obtain ⟨m, hm⟩ := k0; exact DataW.trod_lt m _ _ _ hm
  have ag0 := agg_of Tryz.underlying23 (hval 0 23 v0 rfl rfl)
  obtain ⟨⟨a0_0, a0_1, a0_2, a0_3⟩, K0, w0⟩ := opn_arg (opn_struct Tryz.underlying23 (by kernel_rfl) (opnF_cons rfl (by kernel_rfl) (off' := 1) rfl (opn_int Tryz.underlying3) (opnF_cons rfl (by kernel_rfl) (off' := 2) rfl (opn_int Tryz.underlying3) (opnF_cons rfl (by kernel_rfl) (off' := 3) rfl (opn_int Tryz.underlying3) (opnF_one rfl (by kernel_rfl) (opn_int Tryz.underlying3)))))) hsz (j := 0) (t := 23) rfl rfl h0
  obtain ⟨_, _, hq0_0, rfl, ⟨_, _, rfl, rfl, ⟨_, _, rfl, rfl, rfl⟩⟩⟩ := K0
  have hv0 : v0 = .agg #[.int .i64 a0_0, .int .i64 a0_1, .int .i64 a0_2, .int .i64 a0_3] := by rw [ag0]; exact congrArg Value.agg (Array.toList_inj.1 hq0_0)
  clear ag0 hq0_0
  subst hv0
  have k1 := h1
  have lt1 : ∀ x ∈ p1, x.block < W.heap.size := by obtain ⟨m, hm⟩ := k1; exact DataW.trod_lt m _ _ _ hm
  obtain ⟨a1, rfl, _, _, w1⟩ := open_int Tryz.underlying3 (hval 1 3 v1 rfl rfl) h1
  have k2 := h2
  have lt2 : ∀ x ∈ p2, x.block < W.heap.size := by obtain ⟨m, hm⟩ := k2; exact DataW.trod_lt m _ _ _ hm
  have ag2 := agg_of Tryz.underlying27 (hval 2 27 v2 rfl rfl)
  obtain ⟨⟨a2_0, l2_1, l2_2⟩, K2, w2⟩ := opn_arg (opn_struct Tryz.underlying27 (by kernel_rfl) (opnF_cons rfl (by kernel_rfl) (off' := 1) rfl (opn_int Tryz.underlying3) (opnF_cons rfl (by kernel_rfl) (off' := 2) rfl (opn_slice (B := 8) Tryz.underlying24 (by kernel_rfl) (by kernel_rfl) o3) (opnF_one rfl (by kernel_rfl) (opn_slice (B := 88) Tryz.underlying25 (by kernel_rfl) (by kernel_rfl) o62))))) hsz (j := 2) (t := 27) rfl rfl h2
  obtain ⟨_, _, hq2_0, rfl, ⟨_, _, rfl, ⟨A2_1, c2_1, rfl, hc2_1, hr2_1⟩, ⟨A2_2, c2_2, rfl, hc2_2, hr2_2⟩⟩⟩ := K2
  have hv2 : v2 = .agg #[.int .i64 a2_0, .slice A2_1 l2_1.length c2_1, .slice A2_2 l2_2.length c2_2] := by rw [ag2]; exact congrArg Value.agg (Array.toList_inj.1 hq2_0)
  clear ag2 hq2_0
  subst hv2
  have k3 := h3
  have lt3 : ∀ x ∈ p3, x.block < W.heap.size := by obtain ⟨m, hm⟩ := k3; exact DataW.trod_lt m _ _ _ hm
  have ag3 := agg_of Tryz.underlying27 (hval 3 27 v3 rfl rfl)
  obtain ⟨⟨a3_0, l3_1, l3_2⟩, K3, w3⟩ := opn_arg (opn_struct Tryz.underlying27 (by kernel_rfl) (opnF_cons rfl (by kernel_rfl) (off' := 1) rfl (opn_int Tryz.underlying3) (opnF_cons rfl (by kernel_rfl) (off' := 2) rfl (opn_slice (B := 8) Tryz.underlying24 (by kernel_rfl) (by kernel_rfl) o3) (opnF_one rfl (by kernel_rfl) (opn_slice (B := 88) Tryz.underlying25 (by kernel_rfl) (by kernel_rfl) o62))))) hsz (j := 3) (t := 27) rfl rfl h3
  obtain ⟨_, _, hq3_0, rfl, ⟨_, _, rfl, ⟨A3_1, c3_1, rfl, hc3_1, hr3_1⟩, ⟨A3_2, c3_2, rfl, hc3_2, hr3_2⟩⟩⟩ := K3
  have hv3 : v3 = .agg #[.int .i64 a3_0, .slice A3_1 l3_1.length c3_1, .slice A3_2 l3_2.length c3_2] := by rw [ag3]; exact congrArg Value.agg (Array.toList_inj.1 hq3_0)
  clear ag3 hq3_0
  subst hv3
  obtain ⟨k, hk⟩ := Go.Proofs.YtleoknilacjakaaGreat.Pure.FnExactChanged a0_0 a0_1 a0_2 a0_3 a1 a2_0 l2_1 l2_2 a3_0 l3_1 l3_2 w0.1 w0.2.1 w0.2.2.1 w0.2.2.2 w1 w2.1 w2.2.1 w2.2.2 w3.1 w3.2.1 w3.2.2
  clear hA0 hval0 hsz0 hsz
  refine (laws_FnExactChanged.calls k a0_0 a0_1 a0_2 a0_3 a1 a2_0 _ _ l2_1 _ _ l2_2 a3_0 _ _ l3_1 _ _ l3_2 true W hr2_1 hc2_1 hr2_2 hc2_2 hr3_1 hc3_1 hr3_2 hc3_2 hk).mono fun e W' ⟨he, bel0⟩ => ?_
  have bel : Below W.heap.size W W' := bel0
  subst he
  exact ⟨_, rfl, _, _, _, [], _, [], hW', trodAll_mk1 (shut_bool Tryz.underlying4 _), (trodAll_cons_mk (Below.trod laidOut (by kernel_rfl) (of_decide_eq_true (by kernel_rfl)) k0 bel lt0) (trodAll_cons_mk (Below.trod laidOut (by kernel_rfl) (of_decide_eq_true (by kernel_rfl)) k1 bel lt1) (trodAll_cons_mk (Below.trod laidOut (by kernel_rfl) (of_decide_eq_true (by kernel_rfl)) k2 bel lt2) (trodAll_cons_mk (Below.trod laidOut (by kernel_rfl) (of_decide_eq_true (by kernel_rfl)) k3 bel lt3) trodAll_mk0)))), rfl, bel.frame _, fun h => by cases h⟩
set_option maxHeartbeats 0 in
theorem closed : joinedFacts Tryz.pinned.checked.prog 4 Tryz.f4 Rows.fnExactChangedSpec Rows.fnExactChangedRow = true := by
  unfold joinedFacts
  simp only [Bool.and_eq_true]
  repeat' apply And.intro
  all_goals (as_aux_lemma => kernel_rfl)
theorem over : Rows.fnExactChangedRow.holds Tryz.pinned (OpenSpec.ofChange Rows.fnExactChangedSpec) :=
  OpenClaim.holds_of_wide 4 Tryz.f4 rfl rfl rfl rfl rfl rfl rfl ⟨rfl, rfl, rfl, rfl, rfl⟩ rfl rfl rfl rfl rfl (by kernel_rfl) Tryz.func4 closed
    (of_decide_eq_true (by kernel_rfl)) (by unfold Func.isWrapper; first | (rw [if_pos (by decide +kernel)]; kernel_rfl) | (rw [if_neg (by decide +kernel)]; exact ⟨rfl, rfl⟩))
    (fun os started H enc _ => lifted os started H enc)
theorem proved : Rows.FnExactChangedSaid := over
#print axioms proved
end Go.Proofs.YtleoknilacjakaaGreat.fnExactChanged
namespace Go.Proofs.YtleoknilacjakaaGreat
/-- The row, under a short name, for the claim. -/
theorem fnExactChanged_holds : Rows.FnExactChangedSaid := fnExactChanged.proved
end Go.Proofs.YtleoknilacjakaaGreat
