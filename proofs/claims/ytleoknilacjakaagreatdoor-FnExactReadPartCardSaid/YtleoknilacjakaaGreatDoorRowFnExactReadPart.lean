/- The given statement FnExactReadPartCardSaid: whatever arguments come in, the law returns true and leaves its arguments as they were. Conditions: two of the tables of package utf8 lie as the text of the program lays them (the row lists them, the card ties them). -/
import Derived.Test.YtleoknilacjakaaGreatDoorRows
import Derived.Test.YtleoknilacjakaaGreatDoorPureFnExactReadPart
import Derived.Test.YtleoknilacjakaaGreatDoorOpen
import Derived.Test.YtleoknilacjakaaGreatDoorDoor
import Derived.Test.YtleoknilacjakaaGreatDoorTie
import Derived.Test.YtleoknilacjakaaGreatDoorCards
import Derived.WalkKit
import Derived.ProofKit
import Derived.OpenShut
import Derived.ShutString
import Derived.ChangeOld
import Derived.Below
import Derived.SizedLaws
import Derived.Carry
import Derived.LaidMore
import Derived.Lay
import Derived.SevenTiedAt
import Derived.Stop.Joined
namespace Go.Proofs.YtleoknilacjakaaGreatDoor.fnExactReadPart
open Go.ChangeShapes Go.WideShapes Go.ChangeAt Go.RowKit Go.Proofs.YtleoknilacjakaaGreatDoor.PFnExactReadPart Go.Proofs.YtleoknilacjakaaGreatDoorW.PrintWords Go.Proofs.YtleoknilacjakaaGreatDoor.Opn
open Go.ChangeMaps (open_string shut_string)
set_option linter.unusedVariables false
set_option linter.unusedSimpArgs false
theorem own:ownKnob Tryz.prog.godebug=none:=by kernel_rfl
theorem laidOut:laidOutB Tryz.prog=true:=by kernel_rfl
theorem o76:Opn Tryz.prog 76 k76 Wf76:=opn_iso (fun x:S76=>(x.f0,x.f1,x.f2)) (fun p_=>⟨p_.1,p_.2.1,p_.2.2⟩) (fun _=>rfl) (opn_struct Tryz.underlying76 (by kernel_rfl) (opnF_cons rfl (by kernel_rfl) (off':=1) rfl (opn_int Tryz.underlying3) (opnF_cons rfl (by kernel_rfl) (off':=2) rfl (opn_string Tryz.underlying9) (opnF_one rfl (by kernel_rfl) (opn_bool Tryz.underlying4)))))
set_option maxRecDepth 100000 in
theorem lifted (os:Os) (started:os.Started) (H:Type) (enc:TypeId × Value→H) :
    ReturnsInHanded {} Tryz.checked os 3 .any (fun w args=>(Rows.fnExactReadPartSpec.pre enc Tryz.prog Tryz.f3 Rows.fnExactReadPartRow.domain false w args∧laidMetH Tryz.prog Rows.fnExactReadPartRow.laid w)∧sizedMet enc Tryz.prog Tryz.f3 (OpenSpec.ofChange Rows.fnExactReadPartSpec) false w args) (Rows.fnExactReadPartSpec.post enc Tryz.prog Tryz.f3 false true false false):=by
  refine returnsInHanded_door (C:=Tryz.checked) (L:=Rows.fnExactReadPartRow.laid) own started (by kernel_rfl) Tryz.func3
    (ChangeSpec.witness_shaped (enc:=enc) (C:=Tryz.checked) (os:=os) (X:=fun w _=>laidMetH Tryz.prog Rows.fnExactReadPartRow.laid w) false (World.laidAll Tryz.prog os Rows.fnExactReadPartRow.laid) #[.agg #[.string ByteArray.empty,.slice none 0 0],.agg #[.int .i64 0,.int .i64 0,.int .i64 0,.int .i64 0],.int .i64 0] 8 (World.laidAll_os _ _ _)
      (World.shaped_of_ZipB (by kernel_rfl) (by kernel_rfl)) (by kernel_rfl) (by kernel_rfl) (by kernel_rfl)
      (by rw [MakeChecks.laidMetH_plain _ _ _ (by kernel_rfl)];exact laidMet_laidAll _ (by kernel_rfl) (by kernel_rfl))) ?_
  intro W base args ds gs before hval0 hW hcnd hsz0 hShape _
  have hsz:(DataW.weightsEach Tryz.prog (Tryz.f3.params.toList++Rows.fnExactReadPartSpec.plain.varTypes Tryz.prog) (ds++gs)).all (·≤reachBytes)=true:=hsz0
  have hval:∀ (j:Nat) t v,Tryz.f3.params[j]?=some t→args[j]?=some v→Value.okWide Tryz.prog W .any base t v:=hval0
  have hW':=hW
  obtain ⟨p,q,hA0,hV,rfl,hfz,hnd⟩:=hW
  have hA:DataW.TrodAll enc Tryz.prog W 0 (fun _=>true) true Tryz.f3.params.toList args.toList ds p:=hA0
  rw [Tryz.params3] at hA hval hsz
  obtain ⟨v0,vs0,d0,ds0,p0,q0,hargs,rfl,rfl,h0,r0⟩:=trodAll_cons hA
  obtain ⟨v1,vs1,d1,ds1,p1,q1,rfl,rfl,rfl,h1,r1⟩:=trodAll_cons r0
  obtain ⟨v2,vs2,d2,ds2,p2,q2,rfl,rfl,rfl,h2,r2⟩:=trodAll_cons r1
  obtain ⟨rfl,rfl,rfl⟩:=trodAll_nil r2
  obtain rfl:args=#[v0,v1,v2]:=by cases args;simp_all
  obtain ⟨rfl,rfl⟩:=trodVars_none hV
  have k0:=h0
  have lt0:∀ x ∈ p0,x.block < W.heap.size:=by obtain ⟨m,hm⟩:=k0;exact DataW.trod_lt m _ _ _ hm
  have ag0:=agg_of Tryz.underlying24 (hval 0 24 v0 rfl rfl)
  obtain ⟨⟨a0_0,l0_1⟩,K0,w0⟩:=opn_arg (opn_struct Tryz.underlying24 (by kernel_rfl) (opnF_cons rfl (by kernel_rfl) (off':=1) rfl (opn_string Tryz.underlying9) (opnF_one rfl (by kernel_rfl) (opn_slice (B:=32) Tryz.underlying22 (by kernel_rfl) (by kernel_rfl) o76)))) hsz (j:=0) (t:=24) rfl rfl h0
  obtain ⟨_,_,hq0_0,rfl,⟨A0_1,c0_1,rfl,hc0_1,hr0_1⟩⟩:=K0
  have hv0:v0=.agg #[.string a0_0,.slice A0_1 l0_1.length c0_1]:=by rw [ag0];exact congrArg Value.agg (Array.toList_inj.1 hq0_0)
  clear ag0 hq0_0
  subst hv0
  have k1:=h1
  have lt1:∀ x ∈ p1,x.block < W.heap.size:=by obtain ⟨m,hm⟩:=k1;exact DataW.trod_lt m _ _ _ hm
  have ag1:=agg_of Tryz.underlying26 (hval 1 26 v1 rfl rfl)
  obtain ⟨⟨a1_0,a1_1,a1_2,a1_3⟩,K1,w1⟩:=opn_arg (opn_struct Tryz.underlying26 (by kernel_rfl) (opnF_cons rfl (by kernel_rfl) (off':=1) rfl (opn_int Tryz.underlying3) (opnF_cons rfl (by kernel_rfl) (off':=2) rfl (opn_int Tryz.underlying3) (opnF_cons rfl (by kernel_rfl) (off':=3) rfl (opn_int Tryz.underlying3) (opnF_one rfl (by kernel_rfl) (opn_int Tryz.underlying3)))))) hsz (j:=1) (t:=26) rfl rfl h1
  obtain ⟨_,_,hq1_0,rfl,⟨_,_,rfl,rfl,⟨_,_,rfl,rfl,rfl⟩⟩⟩:=K1
  have hv1:v1=.agg #[.int .i64 a1_0,.int .i64 a1_1,.int .i64 a1_2,.int .i64 a1_3]:=by rw [ag1];exact congrArg Value.agg (Array.toList_inj.1 hq1_0)
  clear ag1 hq1_0
  subst hv1
  have k2:=h2
  have lt2:∀ x ∈ p2,x.block < W.heap.size:=by obtain ⟨m,hm⟩:=k2;exact DataW.trod_lt m _ _ _ hm
  obtain ⟨a2,rfl,_,_,w2⟩:=open_int Tryz.underlying3 (hval 2 3 v2 rfl rfl) h2
  obtain ⟨k,hk⟩:=Go.Proofs.YtleoknilacjakaaGreatDoor.Pure.FnExactReadPart a0_0 l0_1 a1_0 a1_1 a1_2 a1_3 a2 w0.1 w0.2 w1.1 w1.2.1 w1.2.2.1 w1.2.2.2 w2
  clear hA0 hval0 hsz0 hsz
  refine (laws_FnExactReadPart.calls k a0_0 _ _ l0_1 a1_0 a1_1 a1_2 a1_3 a2 true W hr0_1 hc0_1 hk).mono fun e W' ⟨he,bel0⟩=>?_
  have bel:Below W.heap.size W W':=bel0
  subst he
  exact ⟨_,rfl,_,_,_,[],_,[],hW',trodAll_mk1 (shut_bool Tryz.underlying4 _),(trodAll_cons_mk (Below.trod laidOut (by kernel_rfl) (of_decide_eq_true (by kernel_rfl)) k0 bel lt0) (trodAll_cons_mk (Below.trod laidOut (by kernel_rfl) (of_decide_eq_true (by kernel_rfl)) k1 bel lt1) (trodAll_cons_mk (Below.trod laidOut (by kernel_rfl) (of_decide_eq_true (by kernel_rfl)) k2 bel lt2) trodAll_mk0))),rfl,bel.frame _,fun h=>by cases h⟩
set_option maxHeartbeats 0 in
theorem closed:joinedFacts Tryz.pinned.checked.prog 3 Tryz.f3 Rows.fnExactReadPartSpec Rows.fnExactReadPartRow=true:=by
  unfold joinedFacts
  simp only [Bool.and_eq_true]
  repeat' apply And.intro
  all_goals (as_aux_lemma=>kernel_rfl)
theorem over:Rows.fnExactReadPartRow.holds Tryz.pinned (OpenSpec.ofChange Rows.fnExactReadPartSpec) :=
  OpenClaim.holds_of_wide 3 Tryz.f3 rfl rfl rfl rfl rfl rfl rfl ⟨rfl,rfl,rfl,rfl,rfl⟩ rfl rfl rfl rfl rfl (by kernel_rfl) Tryz.func3 closed
    (of_decide_eq_true (by kernel_rfl)) (by unfold Func.isWrapper;first|(rw [if_pos (by decide +kernel)];kernel_rfl)|(rw [if_neg (by decide +kernel)];exact ⟨rfl,rfl⟩))
    (fun os started H enc _=>lifted os started H enc)
theorem proved:Rows.FnExactReadPartSaid:=over
theorem card_proved:Rows.FnExactReadPartCardSaid :=
  Claim7.holds_tied_plain_at .later [] [.data, .pinned] true (true, "3cf6186ee0f15f9745b000d044cc69282fe0cc1d24a81ffec7e3ef678427037c") false proved (fun _ h => by cases h) (by kernel_rfl) (fun _ h => by cases h) fnExactReadPart_row_tie rfl ⟨rfl, rfl⟩ (by kernel_rfl) rfl
    (fun f fn hf hfn=>by
      obtain rfl : f = 3 := Option.some.inj ((show Tryz.prog.funcNamed "loop.example/g00969/laws.FnExactReadPart" = some 3 by kernel_rfl).symm.trans hf) |>.symm
      obtain rfl:fn=Tryz.f3:=(Option.some.inj (Tryz.func3.symm.trans hfn)).symm
      exact ⟨by kernel_rfl,fun j t ht=>by
        rw [Tryz.params3] at ht
        have hm:t ∈ [24,26,3]:=by simpa using Array.mem_of_getElem? ht
        have hall:([24,26,3].all fun u=>!Tryz.prog.wantsStandIn u)=true:=by kernel_rfl
        exact (show Tryz.prog.wantsStandIn t=false by simpa using List.all_eq_true.1 hall t hm)⟩)
    (by kernel_rfl)
#print axioms card_proved
end Go.Proofs.YtleoknilacjakaaGreatDoor.fnExactReadPart
namespace Go.Proofs.YtleoknilacjakaaGreatDoor
/-- The row, under a short name, for the claim. -/
theorem fnExactReadPart_holds:Rows.FnExactReadPartCardSaid:=fnExactReadPart.card_proved
end Go.Proofs.YtleoknilacjakaaGreatDoor
