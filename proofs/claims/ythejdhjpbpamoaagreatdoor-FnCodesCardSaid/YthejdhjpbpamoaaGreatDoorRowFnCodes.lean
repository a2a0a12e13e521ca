/- The given statement FnCodesCardSaid: whatever arguments come in, the law returns true and leaves its arguments as they were. Conditions: two of the tables of package utf8 lie as the text of the program lays them (the row lists them, the card ties them). -/
import Derived.Test.YthejdhjpbpamoaaGreatDoorRows
import Derived.Test.YthejdhjpbpamoaaGreatDoorPureFnCodes
import Derived.Test.YthejdhjpbpamoaaGreatDoorOpen
import Derived.Test.YthejdhjpbpamoaaGreatDoorDoor
import Derived.Test.YthejdhjpbpamoaaGreatDoorTie
import Derived.Test.YthejdhjpbpamoaaGreatDoorCards
import Derived.WalkKit
import Derived.ProofKit
import Derived.OpenShut
import Derived.ShutString
import Derived.ChangeOld
import Derived.Below
import Derived.SizedLaws
import Derived.Carry
import Derived.LaidMore
import Derived.Lay
import Derived.SevenTiedAt
import Derived.Stop.Joined
namespace Go.Proofs.YthejdhjpbpamoaaGreatDoor.fnCodes
open Go.ChangeShapes Go.WideShapes Go.ChangeAt Go.RowKit Go.Proofs.YthejdhjpbpamoaaGreatDoor.jD Go.Proofs.YthejdhjpbpamoaaGreatDoorW.iw Go.Proofs.YthejdhjpbpamoaaGreatDoor.Opn
open Go.ChangeMaps (open_string shut_string)
set_option linter.unusedVariables false
set_option linter.unusedSimpArgs false
theorem own:ownKnob Tryz.prog.godebug=none:=by kernel_rfl
theorem laidOut:laidOutB Tryz.prog=true:=by kernel_rfl
theorem o5:Opn Tryz.prog 5 (Kd.int .u8) Vq:=(ajH Tryz.underlying5)
set_option maxRecDepth 100000 in
theorem lifted (os:Os) (started:os.Started) (H:Type) (enc:TypeId × Value→H) :
    ReturnsInHanded {} Tryz.checked os 4 .any (fun w args=>(Rows.fnCodesSpec.pre enc Tryz.prog Tryz.f4 Rows.fnCodesRow.domain false w args∧laidMetH Tryz.prog Rows.fnCodesRow.laid w)∧sizedMet enc Tryz.prog Tryz.f4 (OpenSpec.ofChange Rows.fnCodesSpec) false w args) (Rows.fnCodesSpec.post enc Tryz.prog Tryz.f4 false true false false):=by
  refine akh (C:=Tryz.checked) (L:=Rows.fnCodesRow.laid) own started (by kernel_rfl) Tryz.func4
    (ChangeSpec.witness_shaped (enc:=enc) (C:=Tryz.checked) (os:=os) (X:=fun w _=>laidMetH Tryz.prog Rows.fnCodesRow.laid w) false (World.laidAll Tryz.prog os Rows.fnCodesRow.laid) #[.slice none 0 0] 8 (World.laidAll_os _ _ _)
      (World.shaped_of_ZipB (by kernel_rfl) (by kernel_rfl)) (by kernel_rfl) (by kernel_rfl) (by kernel_rfl)
      (by rw [MakeChecks.laidMetH_plain _ _ _ (by kernel_rfl)];exact laidMet_laidAll _ (by kernel_rfl) (by kernel_rfl))) ?_
  intro W base args ds gs before hval0 hW hcnd hsz0 ade _
  have ac9:iK W:=cell_of_shapedOpen_int (P:=Tryz.prog) (g:=0) (t:=3) (zero:=#[.int .i64 0]) ade (of_decide_eq_true (by kernel_rfl)) (by kernel_rfl) rfl (by kernel_rfl) (by kernel_rfl) Tryz.underlying3
  have hsz:(DataW.weightsEach Tryz.prog (Tryz.f4.params.toList++Rows.fnCodesSpec.plain.varTypes Tryz.prog) (ds++gs)).all (·≤reachBytes)=true:=hsz0
  have hval:∀ (j:Nat) t v,Tryz.f4.params[j]?=some t→args[j]?=some v→Value.okWide Tryz.prog W .any base t v:=hval0
  have hW':=hW
  obtain ⟨p,q,hA0,hV,rfl,hfz,hnd⟩:=hW
  have hA:DataW.TrodAll enc Tryz.prog W 0 (fun _=>true) true Tryz.f4.params.toList args.toList ds p:=hA0
  rw [Tryz.params4] at hA hval hsz
  obtain ⟨v0,aAI,d0,ds0,p0,q0,hargs,rfl,rfl,h0,r0⟩:=trodAll_cons hA
  obtain ⟨rfl,rfl,rfl⟩:=trodAll_nil r0
  obtain rfl:args=#[v0]:=by cases args;simp_all
  obtain ⟨rfl,rfl⟩:=trodVars_none hV
  have k0:=h0
  have ajs:∀ x ∈ p0,x.block < W.heap.size:=by obtain ⟨m,hm⟩:=k0;exact DataW.trod_lt m _ _ _ hm
  obtain ⟨A0,n0,c0,rfl⟩:=okWide_slice Tryz.underlying22 (hval 0 22 v0 rfl rfl)
  obtain ⟨l0,⟨B0,e0,hq0,hc0,hr0⟩,w0⟩:=ajG (ajI (B:=1) Tryz.underlying22 (by kernel_rfl) (by kernel_rfl) o5) hsz (j:=0) (t:=22) rfl rfl h0
  simp only [Value.cells,List.cons.injEq,Value.slice.injEq,and_true] at hq0
  obtain ⟨rfl,rfl,rfl⟩:=hq0
  obtain ⟨k,hk⟩:=Go.Proofs.YthejdhjpbpamoaaGreatDoor.Pure.FnCodes l0 w0
  clear hA0 hval0 hsz0 hsz
  refine (ni.calls k _ _ l0 true W ac9 hr0 hc0 hk).mono fun e W' ⟨he,ach⟩=>?_
  have bel:Below W.heap.size W W':=ach
  subst he
  exact ⟨_,rfl,_,_,_,[],_,[],hW',trodAll_mk1 (shut_bool Tryz.underlying4 _),(trodAll_cons_mk (Below.trod laidOut (by kernel_rfl) (of_decide_eq_true (by kernel_rfl)) k0 bel ajs) trodAll_mk0),rfl,bel.frame _,fun h=>by cases h⟩
set_option maxHeartbeats 0 in
theorem closed:joinedFacts Tryz.pinned.checked.prog 4 Tryz.f4 Rows.fnCodesSpec Rows.fnCodesRow=true:=by
  unfold joinedFacts
  simp only [Bool.and_eq_true]
  repeat' apply And.intro
  all_goals (as_aux_lemma=>kernel_rfl)
theorem over:Rows.fnCodesRow.holds Tryz.pinned (OpenSpec.ofChange Rows.fnCodesSpec) :=
  OpenClaim.holds_of_wide 4 Tryz.f4 rfl rfl rfl rfl rfl rfl rfl ⟨rfl,rfl,rfl,rfl,rfl⟩ rfl rfl rfl rfl rfl (by kernel_rfl) Tryz.func4 closed
    (of_decide_eq_true (by kernel_rfl)) (by unfold Func.isWrapper;first|(rw [if_pos (by decide +kernel)];kernel_rfl)|(rw [if_neg (by decide +kernel)];exact ⟨rfl,rfl⟩))
    (fun os started H enc _=>lifted os started H enc)
theorem proved:Rows.FnCodesSaid:=over
theorem W_:Rows.FnCodesCardSaid :=
  Claim7.holds_tied_plain_at .later [] [.data, .pinned] true (true, "0950fad77c0a03988b7586c4c2318dfbaa1410df6eacbb68d8b4ec4a8d71965c") false proved (fun _ h => by cases h) (by kernel_rfl) (fun _ h => by cases h) fnCodes_row_tie rfl ⟨rfl, rfl⟩ (by kernel_rfl) rfl
    (fun f fn hf hfn=>by
      obtain rfl : f = 4 := Option.some.inj ((show Tryz.prog.funcNamed "loop.example/g00969/laws.FnCodes" = some 4 by kernel_rfl).symm.trans hf) |>.symm
      obtain rfl:fn=Tryz.f4:=(Option.some.inj (Tryz.func4.symm.trans hfn)).symm
      exact ⟨by kernel_rfl,fun j t ht=>by
        rw [Tryz.params4] at ht
        have hm:t ∈ [22]:=by simpa using Array.mem_of_getElem? ht
        have hall:([22].all fun u=>!Tryz.prog.wantsStandIn u)=true:=by kernel_rfl
        exact (show Tryz.prog.wantsStandIn t=false by simpa using List.all_eq_true.1 hall t hm)⟩)
    (by kernel_rfl)
#print axioms W_
end Go.Proofs.YthejdhjpbpamoaaGreatDoor.fnCodes
namespace Go.Proofs.YthejdhjpbpamoaaGreatDoor
/-- The row, under a short name, for the claim. -/
theorem fnCodes_holds:Rows.FnCodesCardSaid:=fnCodes.W_
end Go.Proofs.YthejdhjpbpamoaaGreatDoor
