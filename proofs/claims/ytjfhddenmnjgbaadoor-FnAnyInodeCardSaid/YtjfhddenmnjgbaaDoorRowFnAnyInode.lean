/- The given statement FnAnyInodeCardSaid: whatever arguments come in, the law returns true and leaves its arguments as they were. Conditions: two of the tables of package utf8 lie as the text of the program lays them (the row lists them, the card ties them). -/
import Derived.Test.YtjfhddenmnjgbaaDoorRows
import Derived.Test.YtjfhddenmnjgbaaDoorPureFnAnyInode
import Derived.Test.YtjfhddenmnjgbaaDoorOpen
import Derived.Test.YtjfhddenmnjgbaaDoorDoor
import Derived.Test.YtjfhddenmnjgbaaDoorTie
import Derived.Test.YtjfhddenmnjgbaaDoorCards
import Derived.WalkKit
import Derived.ProofKit
import Derived.OpenShut
import Derived.ShutString
import Derived.ChangeOld
import Derived.Below
import Derived.SizedLaws
import Derived.Carry
import Derived.LaidMore
import Derived.Lay
import Derived.SevenTiedAt
import Derived.Stop.Joined
namespace Go.Proofs.YtjfhddenmnjgbaaDoor.fnAnyInode
open Go.ChangeShapes Go.WideShapes Go.ChangeAt Go.RowKit Go.Proofs.YtjfhddenmnjgbaaDoor.PFnAnyInode Go.Proofs.YtjfhddenmnjgbaaDoorW.PrintWords Go.Proofs.YtjfhddenmnjgbaaDoor.Opn
open Go.ChangeMaps (open_string shut_string)
set_option linter.unusedVariables false
set_option linter.unusedSimpArgs false
theorem own : ownKnob Tryd.prog.godebug = none := by kernel_rfl
theorem laidOut : laidOutB Tryd.prog = true := by kernel_rfl
theorem o5 : Opn Tryd.prog 5 (Kd.int .u8) Wf5 := (opn_int Tryd.underlying5)
set_option maxRecDepth 100000 in
theorem lifted (os : Os) (started : os.Started) (H : Type) (enc : TypeId × Value → H) :
    ReturnsInHanded {} Tryd.checked os 5 .any (fun w args => (Rows.fnAnyInodeSpec.pre enc Tryd.prog Tryd.f5 Rows.fnAnyInodeRow.domain false w args ∧ laidMetH Tryd.prog Rows.fnAnyInodeRow.laid w) ∧ sizedMet enc Tryd.prog Tryd.f5 (OpenSpec.ofChange Rows.fnAnyInodeSpec) false w args) (Rows.fnAnyInodeSpec.post enc Tryd.prog Tryd.f5 false true false false) := by
  refine returnsInHanded_door (C := Tryd.checked) (L := Rows.fnAnyInodeRow.laid) own started (by kernel_rfl) Tryd.func5
    (ChangeSpec.witness_shaped (enc := enc) (C := Tryd.checked) (os := os) (X := fun w _ => laidMetH Tryd.prog Rows.fnAnyInodeRow.laid w) false (World.laidAll Tryd.prog os Rows.fnAnyInodeRow.laid) #[.slice none 0 0] 8 (World.laidAll_os _ _ _)
      (World.shaped_of_ZipB (by kernel_rfl) (by kernel_rfl)) (by kernel_rfl) (by kernel_rfl) (by kernel_rfl)
      (by rw [MakeChecks.laidMetH_plain _ _ _ (by kernel_rfl)]; exact laidMet_laidAll _ (by kernel_rfl) (by kernel_rfl))) ?_
  intro W base args ds gs before hval0 hW hcnd hsz0 hShape _
  have hsz : (DataW.weightsEach Tryd.prog (Tryd.f5.params.toList ++ Rows.fnAnyInodeSpec.plain.varTypes Tryd.prog) (ds ++ gs)).all (· ≤ reachBytes) = true := hsz0
  have hval : ∀ (j : Nat) t v, Tryd.f5.params[j]? = some t → args[j]? = some v → Value.okWide Tryd.prog W .any base t v := hval0
  have hW' := hW
  obtain ⟨p, q, hA0, hV, rfl, hfz, hnd⟩ := hW
  have hA : DataW.TrodAll enc Tryd.prog W 0 (fun _ => true) true Tryd.f5.params.toList args.toList ds p := hA0
  rw [Tryd.params5] at hA hval hsz
  obtain ⟨v0, vs0, d0, ds0, p0, q0, hargs, rfl, rfl, h0, r0⟩ := trodAll_cons hA
  obtain ⟨rfl, rfl, rfl⟩ := trodAll_nil r0
  obtain rfl : args = #[v0] := by cases args; simp_all
  obtain ⟨rfl, rfl⟩ := trodVars_none hV
  have k0 := h0
  have lt0 : ∀ x ∈ p0, x.block < W.heap.size := by obtain ⟨m, hm⟩ := k0; exact DataW.trod_lt m _ _ _ hm
  obtain ⟨A0, n0, c0, rfl⟩ := okWide_slice Tryd.underlying35 (hval 0 35 v0 rfl rfl)
  obtain ⟨l0, ⟨B0, e0, hq0, hc0, hr0⟩, w0⟩ := opn_arg (opn_slice (B := 1) Tryd.underlying35 (by kernel_rfl) (by kernel_rfl) o5) hsz (j := 0) (t := 35) rfl rfl h0
  simp only [Value.cells, List.cons.injEq, Value.slice.injEq, and_true] at hq0
  obtain ⟨rfl, rfl, rfl⟩ := hq0
  obtain ⟨k, hk⟩ := Go.Proofs.YtjfhddenmnjgbaaDoor.Pure.FnAnyInode l0 w0
  clear hA0 hval0 hsz0 hsz
  refine (laws_FnAnyInode.calls k _ _ l0 true W hr0 hc0 hk).mono fun e W' ⟨he, bel0⟩ => ?_
  have bel : Below W.heap.size W W' := bel0
  subst he
  exact ⟨_, rfl, _, _, _, [], _, [], hW', trodAll_mk1 (shut_bool Tryd.underlying4 _), (trodAll_cons_mk (Below.trod laidOut (by kernel_rfl) (of_decide_eq_true (by kernel_rfl)) k0 bel lt0) trodAll_mk0), rfl, bel.frame _, fun h => by cases h⟩
set_option maxHeartbeats 0 in
theorem closed : joinedFacts Tryd.pinned.checked.prog 5 Tryd.f5 Rows.fnAnyInodeSpec Rows.fnAnyInodeRow = true := by
  unfold joinedFacts
  simp only [Bool.and_eq_true]
  repeat' apply And.intro
  all_goals (as_aux_lemma => kernel_rfl)
theorem over : Rows.fnAnyInodeRow.holds Tryd.pinned (OpenSpec.ofChange Rows.fnAnyInodeSpec) :=
  OpenClaim.holds_of_wide 5 Tryd.f5 rfl rfl rfl rfl rfl rfl rfl ⟨rfl, rfl, rfl, rfl, rfl⟩ rfl rfl rfl rfl rfl (by kernel_rfl) Tryd.func5 closed
    (of_decide_eq_true (by kernel_rfl)) (by unfold Func.isWrapper; first | (rw [if_pos (by decide +kernel)]; kernel_rfl) | (rw [if_neg (by decide +kernel)]; exact ⟨rfl, rfl⟩))
    (fun os started H enc _ => lifted os started H enc)
theorem proved : Rows.FnAnyInodeSaid := over
theorem card_proved : Rows.FnAnyInodeCardSaid :=
  Claim7.holds_tied_plain_at .later [] [.data, .pinned] true (true, "612eee73b079ed51ae3af4f7e3dd0175eaa477205b4c65734e1d7bbb19b0ad2f") false proved (fun _ h => by cases h) (by kernel_rfl) (fun _ h => by cases h) fnAnyInode_row_tie rfl ⟨rfl, rfl⟩ (by kernel_rfl) rfl
    (fun f fn hf hfn => by
      obtain rfl : f = 5 := Option.some.inj ((show Tryd.prog.funcNamed "loop.example/g00969/laws.FnAnyInode" = some 5 by kernel_rfl).symm.trans hf) |>.symm
      obtain rfl : fn = Tryd.f5 := (Option.some.inj (Tryd.func5.symm.trans hfn)).symm
      exact ⟨by kernel_rfl, fun j t ht => by
        rw [Tryd.params5] at ht
        have hm : t ∈ [35] := by simpa using Array.mem_of_getElem? ht
        have hall : ([35].all fun u => !Tryd.prog.wantsStandIn u) = true := by kernel_rfl
        exact (show Tryd.prog.wantsStandIn t = false by simpa using List.all_eq_true.1 hall t hm)⟩)
    (by kernel_rfl)
#print axioms card_proved
end Go.Proofs.YtjfhddenmnjgbaaDoor.fnAnyInode
namespace Go.Proofs.YtjfhddenmnjgbaaDoor
/-- The row, under a short name, for the claim. -/
theorem fnAnyInode_holds : Rows.FnAnyInodeCardSaid := fnAnyInode.card_proved
end Go.Proofs.YtjfhddenmnjgbaaDoor
