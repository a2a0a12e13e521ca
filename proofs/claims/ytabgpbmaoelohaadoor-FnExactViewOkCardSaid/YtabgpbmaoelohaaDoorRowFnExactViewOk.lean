/- The given statement FnExactViewOkCardSaid: whatever arguments come in, the law returns true and leaves its arguments as they were. Conditions: two of the tables of package utf8 lie as the text of the program lays them (the row lists them, the card ties them). -/
import Derived.Test.YtabgpbmaoelohaaDoorRows
import Derived.Test.YtabgpbmaoelohaaDoorPureFnExactViewOk
import Derived.Test.YtabgpbmaoelohaaDoorOpen
import Derived.Test.YtabgpbmaoelohaaDoorDoor
import Derived.Test.YtabgpbmaoelohaaDoorTie
import Derived.Test.YtabgpbmaoelohaaDoorCards
import Derived.WalkKit
import Derived.ProofKit
import Derived.OpenShut
import Derived.ShutString
import Derived.ChangeOld
import Derived.Below
import Derived.SizedLaws
import Derived.Carry
import Derived.LaidMore
import Derived.Lay
import Derived.SevenTiedAt
import Derived.Stop.Joined
namespace Go.Proofs.YtabgpbmaoelohaaDoor.fnExactViewOk
open Go.ChangeShapes Go.WideShapes Go.ChangeAt Go.RowKit Go.Proofs.YtabgpbmaoelohaaDoor.PFnExactViewOk Go.Proofs.YtabgpbmaoelohaaDoorW.PrintWords Go.Proofs.YtabgpbmaoelohaaDoor.Opn
open Go.ChangeMaps (open_string shut_string)
set_option linter.unusedVariables false
set_option linter.unusedSimpArgs false
theorem own : ownKnob Tryd.prog.godebug = none := by kernel_rfl
theorem laidOut : laidOutB Tryd.prog = true := by kernel_rfl
theorem o103 : Opn Tryd.prog 103 k103 Wf103 := opn_iso (fun x : S103 => (x.f0, x.f1, x.f2)) (fun p_ => ⟨p_.1, p_.2.1, p_.2.2⟩) (fun _ => rfl) (opn_struct Tryd.underlying103 (by kernel_rfl) (opnF_cons rfl (by kernel_rfl) (off' := 1) rfl (opn_string Tryd.underlying9) (opnF_cons rfl (by kernel_rfl) (off' := 2) rfl (opn_bool Tryd.underlying4) (opnF_one rfl (by kernel_rfl) (opn_string Tryd.underlying9)))))
set_option maxRecDepth 100000 in
theorem lifted (os : Os) (started : os.Started) (H : Type) (enc : TypeId × Value → H) :
    ReturnsInHanded {} Tryd.checked os 10 .any (fun w args => (Rows.fnExactViewOkSpec.pre enc Tryd.prog Tryd.f10 Rows.fnExactViewOkRow.domain false w args ∧ laidMetH Tryd.prog Rows.fnExactViewOkRow.laid w) ∧ sizedMet enc Tryd.prog Tryd.f10 (OpenSpec.ofChange Rows.fnExactViewOkSpec) false w args) (Rows.fnExactViewOkSpec.post enc Tryd.prog Tryd.f10 false true false false) := by
  refine returnsInHanded_door (C := Tryd.checked) (L := Rows.fnExactViewOkRow.laid) own started (by kernel_rfl) Tryd.func10
    (ChangeSpec.witness_shaped (enc := enc) (C := Tryd.checked) (os := os) (X := fun w _ => laidMetH Tryd.prog Rows.fnExactViewOkRow.laid w) false (World.laidAll Tryd.prog os Rows.fnExactViewOkRow.laid) #[.agg #[.int .i64 0, .int .i64 0, .int .i64 0, .int .i64 0], .agg #[.slice none 0 0]] 8 (World.laidAll_os _ _ _)
      (World.shaped_of_ZipB (by kernel_rfl) (by kernel_rfl)) (by kernel_rfl) (by kernel_rfl) (by kernel_rfl)
      (by rw [MakeChecks.laidMetH_plain _ _ _ (by kernel_rfl)]; exact laidMet_laidAll _ (by kernel_rfl) (by kernel_rfl))) ?_
  intro W base args ds gs before hval0 hW hcnd hsz0 hShape _
  have hDoor : DoorOk W := cell_of_shapedOpen_int (P := Tryd.prog) (g := 0) (t := 3) (zero := #[.int .i64 0]) hShape (of_decide_eq_true (by kernel_rfl)) (by kernel_rfl) rfl (by kernel_rfl) (by kernel_rfl) Tryd.underlying3
  have hsz : (DataW.weightsEach Tryd.prog (Tryd.f10.params.toList ++ Rows.fnExactViewOkSpec.plain.varTypes Tryd.prog) (ds ++ gs)).all (· ≤ reachBytes) = true := hsz0
  have hval : ∀ (j : Nat) t v, Tryd.f10.params[j]? = some t → args[j]? = some v → Value.okWide Tryd.prog W .any base t v := hval0
  have hW' := hW
  obtain ⟨p, q, hA0, hV, rfl, hfz, hnd⟩ := hW
  have hA : DataW.TrodAll enc Tryd.prog W 0 (fun _ => true) true Tryd.f10.params.toList args.toList ds p := hA0
  rw [Tryd.params10] at hA hval hsz
  obtain ⟨v0, vs0, d0, ds0, p0, q0, hargs, rfl, rfl, h0, r0⟩ := trodAll_cons hA
  obtain ⟨v1, vs1, d1, ds1, p1, q1, rfl, rfl, rfl, h1, r1⟩ := trodAll_cons r0
  obtain ⟨rfl, rfl, rfl⟩ := trodAll_nil r1
  obtain rfl : args = #[v0, v1] := by cases args; simp_all
  obtain ⟨rfl, rfl⟩ := trodVars_none hV
  have k0 := h0
  have lt0 : ∀ x ∈ p0, x.block < W.heap.size := by obtain ⟨m, hm⟩ := k0; exact DataW.trod_lt m _ _ _ hm
  have ag0 := agg_of Tryd.underlying56 (hval 0 56 v0 rfl rfl)
  obtain ⟨⟨a0_0, a0_1, a0_2, a0_3⟩, K0, w0⟩ := opn_arg (opn_struct Tryd.underlying56 (by kernel_rfl) (opnF_cons rfl (by kernel_rfl) (off' := 1) rfl (opn_int Tryd.underlying3) (opnF_cons rfl (by kernel_rfl) (off' := 2) rfl (opn_int Tryd.underlying3) (opnF_cons rfl (by kernel_rfl) (off' := 3) rfl (opn_int Tryd.underlying3) (opnF_one rfl (by kernel_rfl) (opn_int Tryd.underlying3)))))) hsz (j := 0) (t := 56) rfl rfl h0
  obtain ⟨_, _, hq0_0, rfl, ⟨_, _, rfl, rfl, ⟨_, _, rfl, rfl, rfl⟩⟩⟩ := K0
  have hv0 : v0 = .agg #[.int .i64 a0_0, .int .i64 a0_1, .int .i64 a0_2, .int .i64 a0_3] := by rw [ag0]; exact congrArg Value.agg (Array.toList_inj.1 hq0_0)
  clear ag0 hq0_0
  subst hv0
  have k1 := h1
  have lt1 : ∀ x ∈ p1, x.block < W.heap.size := by obtain ⟨m, hm⟩ := k1; exact DataW.trod_lt m _ _ _ hm
  have ag1 := agg_of Tryd.underlying32 (hval 1 32 v1 rfl rfl)
  obtain ⟨l1_0, K1, w1⟩ := opn_arg (opn_struct Tryd.underlying32 (by kernel_rfl) (opnF_one rfl (by kernel_rfl) (opn_slice (B := 40) Tryd.underlying30 (by kernel_rfl) (by kernel_rfl) o103))) hsz (j := 1) (t := 32) rfl rfl h1
  obtain ⟨A1_0, c1_0, hq1_0, hc1_0, hr1_0⟩ := K1
  have hv1 : v1 = .agg #[.slice A1_0 l1_0.length c1_0] := by rw [ag1]; exact congrArg Value.agg (Array.toList_inj.1 hq1_0)
  clear ag1 hq1_0
  subst hv1
  obtain ⟨k, hk⟩ := Go.Proofs.YtabgpbmaoelohaaDoor.Pure.FnExactViewOk a0_0 a0_1 a0_2 a0_3 l1_0 w0.1 w0.2.1 w0.2.2.1 w0.2.2.2 w1
  clear hA0 hval0 hsz0 hsz
  refine (laws_FnExactViewOk.calls k a0_0 a0_1 a0_2 a0_3 _ _ l1_0 true W hDoor hr1_0 hc1_0 hk).mono fun e W' ⟨he, bel0⟩ => ?_
  have bel : Below W.heap.size W W' := bel0
  subst he
  exact ⟨_, rfl, _, _, _, [], _, [], hW', trodAll_mk1 (shut_bool Tryd.underlying4 _), (trodAll_cons_mk (Below.trod laidOut (by kernel_rfl) (of_decide_eq_true (by kernel_rfl)) k0 bel lt0) (trodAll_cons_mk (Below.trod laidOut (by kernel_rfl) (of_decide_eq_true (by kernel_rfl)) k1 bel lt1) trodAll_mk0)), rfl, bel.frame _, fun h => by cases h⟩
theorem over : Rows.fnExactViewOkRow.holds Tryd.pinned (OpenSpec.ofChange Rows.fnExactViewOkSpec) :=
  OpenClaim.holds_of_wide 10 Tryd.f10 rfl rfl rfl rfl rfl rfl rfl ⟨rfl, rfl, rfl, rfl, rfl⟩ rfl rfl rfl rfl rfl (by kernel_rfl) Tryd.func10 (by kernel_rfl)
    (of_decide_eq_true (by kernel_rfl)) (by unfold Func.isWrapper; first | (rw [if_pos (by decide +kernel)]; kernel_rfl) | (rw [if_neg (by decide +kernel)]; exact ⟨rfl, rfl⟩))
    (fun os started H enc _ => lifted os started H enc)
theorem proved : Rows.FnExactViewOkSaid := over
theorem card_proved : Rows.FnExactViewOkCardSaid :=
  Claim7.holds_tied_plain_at .later [] [.data, .pinned] true (true, "398f739d534b4e7973e391770cf0990d06c709137c8fbc972da8fb30307a7f92") false proved (fun _ h => by cases h) (by kernel_rfl) (fun _ h => by cases h) fnExactViewOk_row_tie rfl ⟨rfl, rfl⟩ (by kernel_rfl) rfl
    (fun f fn hf hfn => by
      obtain rfl : f = 10 := Option.some.inj ((show Tryd.prog.funcNamed "loop.example/g00969/laws.FnExactViewOk" = some 10 by kernel_rfl).symm.trans hf) |>.symm
      obtain rfl : fn = Tryd.f10 := (Option.some.inj (Tryd.func10.symm.trans hfn)).symm
      exact ⟨by kernel_rfl, fun j t ht => by
        rw [Tryd.params10] at ht
        have hm : t ∈ [56, 32] := by simpa using Array.mem_of_getElem? ht
        have hall : ([56, 32].all fun u => !Tryd.prog.wantsStandIn u) = true := by kernel_rfl
        exact (show Tryd.prog.wantsStandIn t = false by simpa using List.all_eq_true.1 hall t hm)⟩)
    (by kernel_rfl)
#print axioms card_proved
end Go.Proofs.YtabgpbmaoelohaaDoor.fnExactViewOk
namespace Go.Proofs.YtabgpbmaoelohaaDoor
/-- The row, under a short name, for the claim. -/
theorem fnExactViewOk_holds : Rows.FnExactViewOkCardSaid := fnExactViewOk.card_proved
end Go.Proofs.YtabgpbmaoelohaaDoor
