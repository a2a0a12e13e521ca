/- The given statement FnExactAskedCardSaid: whatever arguments come in, the law returns true and leaves its arguments as they were. Conditions: two of the tables of package utf8 lie as the text of the program lays them (the row lists them, the card ties them). -/
import Derived.Test.YthejdhjpbpamoaaGreatDoorRows
import Derived.Test.YthejdhjpbpamoaaGreatDoorPureFnExactAsked
import Derived.Test.YthejdhjpbpamoaaGreatDoorOpen
import Derived.Test.YthejdhjpbpamoaaGreatDoorDoor
import Derived.Test.YthejdhjpbpamoaaGreatDoorTie
import Derived.Test.YthejdhjpbpamoaaGreatDoorCards
import Derived.WalkKit
import Derived.ProofKit
import Derived.OpenShut
import Derived.ShutString
import Derived.ChangeOld
import Derived.Below
import Derived.SizedLaws
import Derived.Carry
import Derived.LaidMore
import Derived.Lay
import Derived.SevenTiedAt
import Derived.Stop.Joined
namespace Go.Proofs.YthejdhjpbpamoaaGreatDoor.fnExactAsked
open Go.ChangeShapes Go.WideShapes Go.ChangeAt Go.RowKit Go.Proofs.YthejdhjpbpamoaaGreatDoor.pU Go.Proofs.YthejdhjpbpamoaaGreatDoorW.jk Go.Proofs.YthejdhjpbpamoaaGreatDoor.Opn
open Go.ChangeMaps (open_string shut_string)
set_option linter.unusedVariables false
set_option linter.unusedSimpArgs false
theorem own:ownKnob Tryz.prog.godebug=none:=by kernel_rfl
theorem laidOut:laidOutB Tryz.prog=true:=by kernel_rfl
theorem amT:Opn Tryz.prog 120 DL GN:=amV (fun x:nY=>(x.f0,x.f1,x.f2)) (fun p_=>⟨p_.1,p_.2.1,p_.2.2⟩) (fun _=>rfl) (PZ Tryz.underlying120 (by kernel_rfl) (BG rfl (by kernel_rfl) (off':=1) rfl (MI Tryz.underlying9) (BG rfl (by kernel_rfl) (off':=2) rfl (amU Tryz.underlying4) (PY rfl (by kernel_rfl) (MI Tryz.underlying9)))))
set_option maxRecDepth 100000 in
theorem lifted (os:Os) (started:os.Started) (H:Type) (enc:TypeId × Value→H) :
    ReturnsInHanded {} Tryz.checked os 5 .any (fun w args=>(Rows.fnExactAskedSpec.pre enc Tryz.prog Tryz.f5 Rows.fnExactAskedRow.domain false w args∧laidMetH Tryz.prog Rows.fnExactAskedRow.laid w)∧sizedMet enc Tryz.prog Tryz.f5 (OpenSpec.ofChange Rows.fnExactAskedSpec) false w args) (Rows.fnExactAskedSpec.post enc Tryz.prog Tryz.f5 false true false false):=by
  refine anz (C:=Tryz.checked) (L:=Rows.fnExactAskedRow.laid) own started (by kernel_rfl) Tryz.func5
    (ChangeSpec.witness_shaped (enc:=enc) (C:=Tryz.checked) (os:=os) (X:=fun w _=>laidMetH Tryz.prog Rows.fnExactAskedRow.laid w) false (World.laidAll Tryz.prog os Rows.fnExactAskedRow.laid) #[.agg #[.int .i64 0,.int .i64 0,.int .i64 0,.int .i64 0],.agg #[.slice none 0 0],.agg #[.int .i64 0,.string ByteArray.empty,.string ByteArray.empty,.int .i64 0,.int .i64 0,.string ByteArray.empty]] 8 (World.laidAll_os _ _ _)
      (World.shaped_of_ZipB (by kernel_rfl) (by kernel_rfl)) (by kernel_rfl) (by kernel_rfl) (by kernel_rfl)
      (by rw [MakeChecks.laidMetH_plain _ _ _ (by kernel_rfl)];exact laidMet_laidAll _ (by kernel_rfl) (by kernel_rfl))) ?_
  intro W base args ds gs before hval0 hW hcnd hsz0 agA _
  have agx:jg W:=cell_of_shapedOpen_int (P:=Tryz.prog) (g:=0) (t:=3) (zero:=#[.int .i64 0]) agA (of_decide_eq_true (by kernel_rfl)) (by kernel_rfl) rfl (by kernel_rfl) (by kernel_rfl) Tryz.underlying3
  have hsz:(DataW.weightsEach Tryz.prog (Tryz.f5.params.toList++Rows.fnExactAskedSpec.plain.varTypes Tryz.prog) (ds++gs)).all (·≤reachBytes)=true:=hsz0
  have hval:∀ (j:Nat) t v,Tryz.f5.params[j]?=some t→args[j]?=some v→Value.okWide Tryz.prog W .any base t v:=hval0
  have hW':=hW
  obtain ⟨p,q,hA0,hV,rfl,hfz,hnd⟩:=hW
  have hA:DataW.TrodAll enc Tryz.prog W 0 (fun _=>true) true Tryz.f5.params.toList args.toList ds p:=hA0
  rw [Tryz.params5] at hA hval hsz
  obtain ⟨v0,aD6,d0,ds0,p0,q0,hargs,rfl,rfl,h0,r0⟩:=trodAll_cons hA
  obtain ⟨v1,vs1,d1,ds1,p1,q1,rfl,rfl,rfl,h1,r1⟩:=trodAll_cons r0
  obtain ⟨v2,vs2,d2,ds2,p2,q2,rfl,rfl,rfl,h2,r2⟩:=trodAll_cons r1
  obtain ⟨rfl,rfl,rfl⟩:=trodAll_nil r2
  obtain rfl:args=#[v0,v1,v2]:=by cases args;simp_all
  obtain ⟨rfl,rfl⟩:=trodVars_none hV
  have k0:=h0
  have amE:∀ x ∈ p0,x.block < W.heap.size:=by obtain ⟨m,hm⟩:=k0;exact DataW.trod_lt m _ _ _ hm
  have X0:=RD Tryz.underlying54 (hval 0 54 v0 rfl rfl)
  obtain ⟨⟨GR,GU,GV,GX⟩,K0,w0⟩:=V6 (PZ Tryz.underlying54 (by kernel_rfl) (BG rfl (by kernel_rfl) (off':=1) rfl (FW Tryz.underlying3) (BG rfl (by kernel_rfl) (off':=2) rfl (FW Tryz.underlying3) (BG rfl (by kernel_rfl) (off':=3) rfl (FW Tryz.underlying3) (PY rfl (by kernel_rfl) (FW Tryz.underlying3)))))) hsz (j:=0) (t:=54) rfl rfl h0
  obtain ⟨_,_,aaJ,rfl,⟨_,_,rfl,rfl,⟨_,_,rfl,rfl,rfl⟩⟩⟩:=K0
  have hv0:v0=.agg #[.int .i64 GR,.int .i64 GU,.int .i64 GV,.int .i64 GX]:=by rw [X0];exact congrArg Value.agg (Array.toList_inj.1 aaJ)
  clear X0 aaJ
  subst hv0
  have k1:=h1
  have amF:∀ x ∈ p1,x.block < W.heap.size:=by obtain ⟨m,hm⟩:=k1;exact DataW.trod_lt m _ _ _ hm
  have X3:=RD Tryz.underlying57 (hval 1 57 v1 rfl rfl)
  obtain ⟨bg,K1,w1⟩:=V6 (PZ Tryz.underlying57 (by kernel_rfl) (PY rfl (by kernel_rfl) (amW (B:=40) Tryz.underlying55 (by kernel_rfl) (by kernel_rfl) amT))) hsz (j:=1) (t:=57) rfl rfl h1
  obtain ⟨aef,afP,aaK,agC,alC⟩:=K1
  have hv1:v1=.agg #[.slice aef bg.length afP]:=by rw [X3];exact congrArg Value.agg (Array.toList_inj.1 aaK)
  clear X3 aaK
  subst hv1
  have k2:=h2
  have amG:∀ x ∈ p2,x.block < W.heap.size:=by obtain ⟨m,hm⟩:=k2;exact DataW.trod_lt m _ _ _ hm
  have X4:=RD Tryz.underlying58 (hval 2 58 v2 rfl rfl)
  obtain ⟨⟨GY,GZ,G5,G6,G7,G8⟩,K2,w2⟩:=V6 (PZ Tryz.underlying58 (by kernel_rfl) (BG rfl (by kernel_rfl) (off':=1) rfl (FW Tryz.underlying3) (BG rfl (by kernel_rfl) (off':=2) rfl (MI Tryz.underlying9) (BG rfl (by kernel_rfl) (off':=3) rfl (MI Tryz.underlying9) (BG rfl (by kernel_rfl) (off':=4) rfl (FW Tryz.underlying3) (BG rfl (by kernel_rfl) (off':=5) rfl (FW Tryz.underlying3) (PY rfl (by kernel_rfl) (MI Tryz.underlying9)))))))) hsz (j:=2) (t:=58) rfl rfl h2
  obtain ⟨_,_,aaL,rfl,⟨_,_,rfl,rfl,⟨_,_,rfl,rfl,⟨_,_,rfl,rfl,⟨_,_,rfl,rfl,rfl⟩⟩⟩⟩⟩:=K2
  have hv2:v2=.agg #[.int .i64 GY,.string GZ,.string G5,.int .i64 G6,.int .i64 G7,.string G8]:=by rw [X4];exact congrArg Value.agg (Array.toList_inj.1 aaL)
  clear X4 aaL
  subst hv2
  obtain ⟨k,hk⟩:=Go.Proofs.YthejdhjpbpamoaaGreatDoor.Pure.FnExactAsked GR GU GV GX bg GY GZ G5 G6 G7 G8 w0.1 w0.2.1 w0.2.2.1 w0.2.2.2 w1 w2.1 w2.2.1 w2.2.2.1 w2.2.2.2.1 w2.2.2.2.2.1 w2.2.2.2.2.2
  clear hA0 hval0 hsz0 hsz
  refine (lY.calls k GR GU GV GX _ _ bg GY GZ G5 G6 G7 G8 true W agx alC agC hk).mono fun e W' ⟨he,afr⟩=>?_
  have bel:Below W.heap.size W W':=afr
  subst he
  exact ⟨_,rfl,_,_,_,[],_,[],hW',trodAll_mk1 (shut_bool Tryz.underlying4 _),(trodAll_cons_mk (Below.trod laidOut (by kernel_rfl) (of_decide_eq_true (by kernel_rfl)) k0 bel amE) (trodAll_cons_mk (Below.trod laidOut (by kernel_rfl) (of_decide_eq_true (by kernel_rfl)) k1 bel amF) (trodAll_cons_mk (Below.trod laidOut (by kernel_rfl) (of_decide_eq_true (by kernel_rfl)) k2 bel amG) trodAll_mk0))),rfl,bel.frame _,fun h=>by cases h⟩
set_option maxHeartbeats 0 in
theorem closed:joinedFacts Tryz.pinned.checked.prog 5 Tryz.f5 Rows.fnExactAskedSpec Rows.fnExactAskedRow=true:=by
  unfold joinedFacts
  simp only [Bool.and_eq_true]
  repeat' apply And.intro
  all_goals (as_aux_lemma=>kernel_rfl)
theorem over:Rows.fnExactAskedRow.holds Tryz.pinned (OpenSpec.ofChange Rows.fnExactAskedSpec) :=
  OpenClaim.holds_of_wide 5 Tryz.f5 rfl rfl rfl rfl rfl rfl rfl ⟨rfl,rfl,rfl,rfl,rfl⟩ rfl rfl rfl rfl rfl (by kernel_rfl) Tryz.func5 closed
    (of_decide_eq_true (by kernel_rfl)) (by unfold Func.isWrapper;first|(rw [if_pos (by decide +kernel)];kernel_rfl)|(rw [if_neg (by decide +kernel)];exact ⟨rfl,rfl⟩))
    (fun os started H enc _=>lifted os started H enc)
theorem proved:Rows.FnExactAskedSaid:=over
theorem Y1:Rows.FnExactAskedCardSaid :=
  Claim7.holds_tied_plain_at .later [] [.data, .pinned] true (true, "0950fad77c0a03988b7586c4c2318dfbaa1410df6eacbb68d8b4ec4a8d71965c") false proved (fun _ h => by cases h) (by kernel_rfl) (fun _ h => by cases h) fnExactAsked_row_tie rfl ⟨rfl, rfl⟩ (by kernel_rfl) rfl
    (fun f fn hf hfn=>by
      obtain rfl : f = 5 := Option.some.inj ((show Tryz.prog.funcNamed "loop.example/g00969/laws.FnExactAsked" = some 5 by kernel_rfl).symm.trans hf) |>.symm
      obtain rfl:fn=Tryz.f5:=(Option.some.inj (Tryz.func5.symm.trans hfn)).symm
      exact ⟨by kernel_rfl,fun j t ht=>by
        rw [Tryz.params5] at ht
        have hm:t ∈ [54,57,58]:=by simpa using Array.mem_of_getElem? ht
        have hall:([54,57,58].all fun u=>!Tryz.prog.wantsStandIn u)=true:=by kernel_rfl
        exact (show Tryz.prog.wantsStandIn t=false by simpa using List.all_eq_true.1 hall t hm)⟩)
    (by kernel_rfl)
#print axioms Y1
end Go.Proofs.YthejdhjpbpamoaaGreatDoor.fnExactAsked
namespace Go.Proofs.YthejdhjpbpamoaaGreatDoor
/-- The row, under a short name, for the claim. -/
theorem fnExactAsked_holds:Rows.FnExactAskedCardSaid:=fnExactAsked.Y1
end Go.Proofs.YthejdhjpbpamoaaGreatDoor
