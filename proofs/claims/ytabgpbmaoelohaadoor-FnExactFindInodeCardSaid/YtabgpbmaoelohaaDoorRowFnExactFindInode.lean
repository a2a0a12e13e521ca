/- The given statement FnExactFindInodeCardSaid: whatever arguments come in, the law returns true and leaves its arguments as they were. Conditions: two of the tables of package utf8 lie as the text of the program lays them (the row lists them, the card ties them). -/
import Derived.Test.YtabgpbmaoelohaaDoorRows
import Derived.Test.YtabgpbmaoelohaaDoorPureFnExactFindInode
import Derived.Test.YtabgpbmaoelohaaDoorOpen
import Derived.Test.YtabgpbmaoelohaaDoorDoor
import Derived.Test.YtabgpbmaoelohaaDoorTie
import Derived.Test.YtabgpbmaoelohaaDoorCards
import Derived.WalkKit
import Derived.ProofKit
import Derived.OpenShut
import Derived.ShutString
import Derived.ChangeOld
import Derived.Below
import Derived.SizedLaws
import Derived.Carry
import Derived.LaidMore
import Derived.Lay
import Derived.SevenTiedAt
import Derived.Stop.Joined
namespace Go.Proofs.YtabgpbmaoelohaaDoor.fnExactFindInode
open Go.ChangeShapes Go.WideShapes Go.ChangeAt Go.RowKit Go.Proofs.YtabgpbmaoelohaaDoor.PFnExactFindInode Go.Proofs.YtabgpbmaoelohaaDoorW.PrintWords Go.Proofs.YtabgpbmaoelohaaDoor.Opn
open Go.ChangeMaps (open_string shut_string)
set_option linter.unusedVariables false
set_option linter.unusedSimpArgs false
theorem own : ownKnob Tryd.prog.godebug = none := by kernel_rfl
theorem laidOut : laidOutB Tryd.prog = true := by kernel_rfl
theorem o3 : Opn Tryd.prog 3 (Kd.int .i64) Wf3 := (opn_int Tryd.underlying3)
theorem o146 : Opn Tryd.prog 146 k146 Wf146 := opn_iso (fun x : S146 => (x.f0, x.f1, x.f2)) (fun p_ => ⟨p_.1, p_.2.1, p_.2.2⟩) (fun _ => rfl) (opn_struct Tryd.underlying146 (by kernel_rfl) (opnF_cons rfl (by kernel_rfl) (off' := 1) rfl (opn_int Tryd.underlying3) (opnF_cons rfl (by kernel_rfl) (off' := 2) rfl (opn_int Tryd.underlying3) (opnF_one rfl (by kernel_rfl) (opn_string Tryd.underlying9)))))
theorem o148 : Opn Tryd.prog 148 k148 Wf148 := opn_iso (fun x : S148 => (x.f0, x.f1)) (fun p_ => ⟨p_.1, p_.2⟩) (fun _ => rfl) (opn_struct Tryd.underlying148 (by kernel_rfl) (opnF_cons rfl (by kernel_rfl) (off' := 1) rfl (opn_int Tryd.underlying3) (opnF_one rfl (by kernel_rfl) (opn_string Tryd.underlying9))))
theorem o112 : Opn Tryd.prog 112 k112 Wf112 := opn_iso (fun x : S112 => (x.f0, x.f1, x.f2, x.f3, x.f4, x.f5)) (fun p_ => ⟨p_.1, p_.2.1, p_.2.2.1, p_.2.2.2.1, p_.2.2.2.2.1, p_.2.2.2.2.2⟩) (fun _ => rfl) (opn_struct Tryd.underlying112 (by kernel_rfl) (opnF_cons rfl (by kernel_rfl) (off' := 1) rfl (opn_int Tryd.underlying3) (opnF_cons rfl (by kernel_rfl) (off' := 2) rfl (opn_int Tryd.underlying3) (opnF_cons rfl (by kernel_rfl) (off' := 3) rfl (opn_int Tryd.underlying3) (opnF_cons rfl (by kernel_rfl) (off' := 4) rfl (opn_string Tryd.underlying9) (opnF_cons rfl (by kernel_rfl) (off' := 5) rfl (opn_slice (B := 32) Tryd.underlying109 (by kernel_rfl) (by kernel_rfl) o146) (opnF_one rfl (by kernel_rfl) (opn_slice (B := 24) Tryd.underlying110 (by kernel_rfl) (by kernel_rfl) o148))))))))
set_option maxRecDepth 100000 in
theorem lifted (os : Os) (started : os.Started) (H : Type) (enc : TypeId × Value → H) :
    ReturnsInHanded {} Tryd.checked os 9 .any (fun w args => (Rows.fnExactFindInodeSpec.pre enc Tryd.prog Tryd.f9 Rows.fnExactFindInodeRow.domain false w args ∧ laidMetH Tryd.prog Rows.fnExactFindInodeRow.laid w) ∧ sizedMet enc Tryd.prog Tryd.f9 (OpenSpec.ofChange Rows.fnExactFindInodeSpec) false w args) (Rows.fnExactFindInodeSpec.post enc Tryd.prog Tryd.f9 false true false false) := by
  refine returnsInHanded_door (C := Tryd.checked) (L := Rows.fnExactFindInodeRow.laid) own started (by kernel_rfl) Tryd.func9
    (ChangeSpec.witness_shaped (enc := enc) (C := Tryd.checked) (os := os) (X := fun w _ => laidMetH Tryd.prog Rows.fnExactFindInodeRow.laid w) false (World.laidAll Tryd.prog os Rows.fnExactFindInodeRow.laid) #[.agg #[.int .i64 0, .slice none 0 0, .slice none 0 0], .string ByteArray.empty] 8 (World.laidAll_os _ _ _)
      (World.shaped_of_ZipB (by kernel_rfl) (by kernel_rfl)) (by kernel_rfl) (by kernel_rfl) (by kernel_rfl)
      (by rw [MakeChecks.laidMetH_plain _ _ _ (by kernel_rfl)]; exact laidMet_laidAll _ (by kernel_rfl) (by kernel_rfl))) ?_
  intro W base args ds gs before hval0 hW hcnd hsz0 hShape _
  have hDoor : DoorOk W := cell_of_shapedOpen_int (P := Tryd.prog) (g := 0) (t := 3) (zero := #[.int .i64 0]) hShape (of_decide_eq_true (by kernel_rfl)) (by kernel_rfl) rfl (by kernel_rfl) (by kernel_rfl) Tryd.underlying3
  have hsz : (DataW.weightsEach Tryd.prog (Tryd.f9.params.toList ++ Rows.fnExactFindInodeSpec.plain.varTypes Tryd.prog) (ds ++ gs)).all (· ≤ reachBytes) = true := hsz0
  have hval : ∀ (j : Nat) t v, Tryd.f9.params[j]? = some t → args[j]? = some v → Value.okWide Tryd.prog W .any base t v := hval0
  have hW' := hW
  obtain ⟨p, q, hA0, hV, rfl, hfz, hnd⟩ := hW
  have hA : DataW.TrodAll enc Tryd.prog W 0 (fun _ => true) true Tryd.f9.params.toList args.toList ds p := hA0
  rw [Tryd.params9] at hA hval hsz
  obtain ⟨v0, vs0, d0, ds0, p0, q0, hargs, rfl, rfl, h0, r0⟩ := trodAll_cons hA
  obtain ⟨v1, vs1, d1, ds1, p1, q1, rfl, rfl, rfl, h1, r1⟩ := trodAll_cons r0
  obtain ⟨rfl, rfl, rfl⟩ := trodAll_nil r1
  obtain rfl : args = #[v0, v1] := by cases args; simp_all
  obtain ⟨rfl, rfl⟩ := trodVars_none hV
  have k0 := h0
  have lt0 : ∀ x ∈ p0, x.block < W.heap.size := by obtain ⟨m, hm⟩ := k0; exact DataW.trod_lt m _ _ _ hm
  have ag0 := agg_of Tryd.underlying46 (hval 0 46 v0 rfl rfl)
  obtain ⟨⟨a0_0, l0_1, l0_2⟩, K0, w0⟩ := opn_arg (opn_struct Tryd.underlying46 (by kernel_rfl) (opnF_cons rfl (by kernel_rfl) (off' := 1) rfl (opn_int Tryd.underlying3) (opnF_cons rfl (by kernel_rfl) (off' := 2) rfl (opn_slice (B := 8) Tryd.underlying43 (by kernel_rfl) (by kernel_rfl) o3) (opnF_one rfl (by kernel_rfl) (opn_slice (B := 88) Tryd.underlying44 (by kernel_rfl) (by kernel_rfl) o112))))) hsz (j := 0) (t := 46) rfl rfl h0
  obtain ⟨_, _, hq0_0, rfl, ⟨_, _, rfl, ⟨A0_1, c0_1, rfl, hc0_1, hr0_1⟩, ⟨A0_2, c0_2, rfl, hc0_2, hr0_2⟩⟩⟩ := K0
  have hv0 : v0 = .agg #[.int .i64 a0_0, .slice A0_1 l0_1.length c0_1, .slice A0_2 l0_2.length c0_2] := by rw [ag0]; exact congrArg Value.agg (Array.toList_inj.1 hq0_0)
  clear ag0 hq0_0
  subst hv0
  have k1 := h1
  have lt1 : ∀ x ∈ p1, x.block < W.heap.size := by obtain ⟨m, hm⟩ := k1; exact DataW.trod_lt m _ _ _ hm
  obtain ⟨a1, rfl, e1, _, y1⟩ := open_string Tryd.underlying9 (hval 1 9 v1 rfl rfl) h1
  have w1 : a1.size ≤ 140737488351232 := by
    have z := sized_string hsz (j := 1) (t := 9) rfl (by rw [← e1]; rfl)
    rw [Array.length_toList] at z
    exact z
  obtain ⟨k, hk⟩ := Go.Proofs.YtabgpbmaoelohaaDoor.Pure.FnExactFindInode a0_0 l0_1 l0_2 a1 w0.1 w0.2.1 w0.2.2 w1
  clear hA0 hval0 hsz0 hsz
  refine (laws_FnExactFindInode.calls k a0_0 _ _ l0_1 _ _ l0_2 a1 true W hDoor hr0_1 hc0_1 hr0_2 hc0_2 hk).mono fun e W' ⟨he, bel0⟩ => ?_
  have bel : Below W.heap.size W W' := bel0
  subst he
  exact ⟨_, rfl, _, _, _, [], _, [], hW', trodAll_mk1 (shut_bool Tryd.underlying4 _), (trodAll_cons_mk (Below.trod laidOut (by kernel_rfl) (of_decide_eq_true (by kernel_rfl)) k0 bel lt0) (trodAll_cons_mk (Below.trod laidOut (by kernel_rfl) (of_decide_eq_true (by kernel_rfl)) k1 bel lt1) trodAll_mk0)), rfl, bel.frame _, fun h => by cases h⟩
theorem over : Rows.fnExactFindInodeRow.holds Tryd.pinned (OpenSpec.ofChange Rows.fnExactFindInodeSpec) :=
  OpenClaim.holds_of_wide 9 Tryd.f9 rfl rfl rfl rfl rfl rfl rfl ⟨rfl, rfl, rfl, rfl, rfl⟩ rfl rfl rfl rfl rfl (by kernel_rfl) Tryd.func9 (by kernel_rfl)
    (of_decide_eq_true (by kernel_rfl)) (by unfold Func.isWrapper; first | (rw [if_pos (by decide +kernel)]; kernel_rfl) | (rw [if_neg (by decide +kernel)]; exact ⟨rfl, rfl⟩))
    (fun os started H enc _ => lifted os started H enc)
theorem proved : Rows.FnExactFindInodeSaid := over
theorem card_proved : Rows.FnExactFindInodeCardSaid :=
  Claim7.holds_tied_plain_at .later [] [.data, .pinned] true (true, "398f739d534b4e7973e391770cf0990d06c709137c8fbc972da8fb30307a7f92") false proved (fun _ h => by cases h) (by kernel_rfl) (fun _ h => by cases h) fnExactFindInode_row_tie rfl ⟨rfl, rfl⟩ (by kernel_rfl) rfl
    (fun f fn hf hfn => by
      obtain rfl : f = 9 := Option.some.inj ((show Tryd.prog.funcNamed "loop.example/g00969/laws.FnExactFindInode" = some 9 by kernel_rfl).symm.trans hf) |>.symm
      obtain rfl : fn = Tryd.f9 := (Option.some.inj (Tryd.func9.symm.trans hfn)).symm
      exact ⟨by kernel_rfl, fun j t ht => by
        rw [Tryd.params9] at ht
        have hm : t ∈ [46, 9] := by simpa using Array.mem_of_getElem? ht
        have hall : ([46, 9].all fun u => !Tryd.prog.wantsStandIn u) = true := by kernel_rfl
        exact (show Tryd.prog.wantsStandIn t = false by simpa using List.all_eq_true.1 hall t hm)⟩)
    (by kernel_rfl)
#print axioms card_proved
end Go.Proofs.YtabgpbmaoelohaaDoor.fnExactFindInode
namespace Go.Proofs.YtabgpbmaoelohaaDoor
/-- The row, under a short name, for the claim. -/
theorem fnExactFindInode_holds : Rows.FnExactFindInodeCardSaid := fnExactFindInode.card_proved
end Go.Proofs.YtabgpbmaoelohaaDoor
