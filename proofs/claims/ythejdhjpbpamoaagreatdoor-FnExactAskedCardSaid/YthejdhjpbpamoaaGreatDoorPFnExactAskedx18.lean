/- Calls return what the Lean functions beside them compute. Conditions: each theorem's own. -/
import Derived.Test.YthejdhjpbpamoaaGreatDoorPkFnExactAsked
import Derived.Test.YthejdhjpbpamoaaGreatDoorPFnExactAskedx2
namespace Go.Proofs.YthejdhjpbpamoaaGreatDoor.pU
open Go.RowKit Go.Proofs.YthejdhjpbpamoaaGreatDoorW.jk Go.Proofs.YthejdhjpbpamoaaGreatDoorW.qI Go.Proofs.YthejdhjpbpamoaaGreatDoorW.vV Go.Proofs.Tryz
attribute [local go_sem] yN yR yQ yU yP yT yO yS
set_option linter.unusedVariables false
set_option maxHeartbeats 8000000
set_option maxRecDepth 100000
set_option linter.unusedSimpArgs false

def FQ.f (a8:Int) (a5:ByteArray) (a6:ByteArray) (a9:Int) (aa:Int) (a7:ByteArray) (a1:Int):Option (Int):=if (wrap64 (a1 - (a5.size:Int))) < 0 then (some (-1)) else (if (wrap64 ((wrap64 (a1 - (a5.size:Int))) - (a6.size:Int))) < 0 then (some (-1)) else (if (wrap64 ((wrap64 ((wrap64 (a1 - (a5.size:Int))) - (a6.size:Int))) - (a7.size:Int))) < 0 then (some (-1)) else (some (wrap64 ((wrap64 ((wrap64 (a1 - (a5.size:Int))) - (a6.size:Int))) - (a7.size:Int))))))
theorem FQ.calls (ac:Int) (a6:ByteArray) (a7:ByteArray) (ae:Int) (af:Int) (ab:ByteArray) (a1:Int) (r:Int) (w:World) (h:FQ.f ac a6 a7 ae af ab a1=some r) :
  Calls Tryz.prog 28 #[.agg #[ah ac,.string a6,.string a7,ah ae,ah af,.string ab],ah a1] w fun e w'=>e=.returned (ah r)∧Below w.heap.size w w':=by
 have aaV:=underlying58;have HB:=m_ (Below.refl w.heap.size w);unfold FQ.f at h
 have H:=h;clear h;have aH:=m_ H;clear H;go_enter func28,ntmps28
 go_upto_if 11 with (first|((with_reducible refine dJ 2 ?_);refine dO 2 (cs:=#[ah ac,.string a6,.string a7,ah ae,ah af,.string ab]) 58 ?_;intro aO hg w4 hbox hb;obtain ⟨HB,a8,al,am⟩:=jR ay hb hbox hg;clear hb hbox hg;have ao:=mg a8.out))
 (try simp only [fM])
 (try clear ao)
 obtain ⟨H⟩:=aH;revert H;refine fB (fun a9 H=>?_) fun a9 H=>?_
 ·try simp only [aV,aZ,a9]
  obtain rfl:=bQ H;go_wp2
  go_ret
  exact ⟨bK,ay⟩
 try simp only [aV,aZ,a9]
 have an:=m_ H;clear H;have ap:=mg a8.out;go_upto_if 18 with (fail)
 (try clear ap)
 obtain ⟨H⟩:=an;revert H;refine fB (fun aa H=>?_) fun aa H=>?_
 ·try simp only [aV,aZ,aa]
  obtain rfl:=bQ H;go_wp2
  go_ret
  exact ⟨bK,ay⟩
 try simp only [aV,aZ,aa]
 have aK:=m_ H;clear H;have ai:=mg a8.out;go_upto_if 25 with (fail)
 (try clear ai)
 obtain ⟨H⟩:=aK;revert H;refine fB (fun a5 H=>?_) fun a5 H=>?_
 ·try simp only [aV,aZ,a5]
  obtain rfl:=bQ H;go_wp2
  go_ret
  exact ⟨bK,ay⟩
 try simp only [aV,aZ,a5]
 obtain rfl:=bQ H;go_wp2
 go_ret
 exact ⟨bK,ay⟩

def rW.l0:Nat→ByteArray→Int→List (aF)→Option (Int)
 | 0,_,_,_=>none
 | k+1,x1,x5,a5=>if x5 < (a5.length:Int) then (if 0≤x5 then (if ((aB a5 x5).f0).toList=x1.toList then (some x5) else (rW.l0 k x1 (wrap64 (x5+1)) a5)) else (none)) else (some (-1))
def rW.f (k:Nat) (a5:List (aF)) (a1:ByteArray):Option (Int):=rW.l0 k a1 0 a5
theorem rW.calls (k:Nat) (ac:Option Addr) (ae:Nat) (aI:List (aF)) (a1:ByteArray) (r:Int) (w:World) (af:Kd.C aS w ac aI.length aI) (ag:aI.length≤ae) (h:rW.f k aI a1=some r) :
  Calls Tryz.prog 13 #[.agg #[.slice ac aI.length ae],.string a1] w fun e w'=>e=.returned (ah r)∧Below w.heap.size w w':=by
 have nT:=underlying28;have lg:=m_ af;have an:=m_ ag;clear af ag;have HB:=m_ (Below.refl w.heap.size w);unfold rW.f at h
 have H:=h;clear h;have H':=m_ H;clear H;go_enter func13,ntmps13
 go_wp2_with (first|((with_reducible refine dJ 2 ?_);refine dO 2 (cs:=#[.slice ac aI.length ae]) 28 ?_;intro aO hg w3 hbox hb;obtain ⟨HB,a5,ao,ap⟩:=jR ay hb hbox hg;clear hb hbox hg))
 go_loopg [5] k (fun kq v5 w'=>∃ (a6:Int),v5=ah a6∧aA (rW.l0 kq a1 a6 aI=some r)∧aA (kq≤k)∧aA (w'.heap[aO]?=some (.cells #[(.slice ac aI.length ae)] 28))∧aA (Below w.heap.size w w'))
 case atStart=>exact ⟨(0),bC,H',⟨Nat.le_refl _⟩,⟨(au a5)⟩,⟨ay⟩⟩
 case round =>
 clear H';obtain ⟨a6,rfl,HA,gG,a5,HB⟩:=hrel;cases gk with
 | zero=>exact absurd HA.out (by simp [rW.l0])
 | succ k1 =>
 obtain ⟨H⟩:=HA;simp only [rW.l0] at H
 have aq:=m_ H;clear H;have apK:=bZ a5.out;go_upto_if 10 with (fail)
 (try clear apK)
 obtain ⟨H⟩:=aq;revert H;refine fB (fun ab H=>?_) fun ab H=>?_;rotate_left
 ·try simp only [aV,aZ,ab]
  obtain rfl:=bQ H;go_wp2
  go_ret
  exact ⟨bK,ay⟩
 try simp only [aV,aZ,ab]
 obtain ⟨av,H⟩:=gI H;have ar:=m_ H;clear H;have Ej:=bZ a5.out;have aK:0≤(a6:Int):=aX aY;have ai:a6 < (aI.length:Int):=aX aY;obtain ⟨aT,am,a7,a8,a9⟩:=jV lg.out a6 aK ai;cases am;replace a7:=fF HB.out a7;replace a8:=fF HB.out a8;replace a9:=fF HB.out a9;replace aK:=eq_true aK;replace ai:=eq_true ai;go_upto_if 20 with (fail)
 (try clear Ej)
 (try clear a7 a8 a9)
 obtain ⟨H⟩:=ar;revert H;refine eU (fun aH H=>?_) fun aH H=>?_
 ·have aa:=fU aH;have al:=fV aH;clear aH;try simp only [aV,aZ,aa]
  obtain rfl:=bQ H;go_wp2
  go_ret
  exact ⟨bK,ay⟩
 have aa:=fZ aH;have al:=f_ aH;try simp only [aV,aZ,aa]
 have H':=m_ H;clear H;go_wp2
 go_roundg k1
 case measure=>have:=gG.out;omega
 case rel=>exact ⟨(wrap64 (a6+1)),bC,H',⟨oz⟩,⟨(au a5)⟩,⟨ay⟩⟩

def vC.f (a0:Int) (a1:Int) (a2:Int):Option (Bool):=if a0 ≥ a1 then (some (decide (a0≤a2))) else (some false)
theorem vC.calls (a0:Int) (a1:Int) (a2:Int) (r:Bool) (w:World) (h:vC.f a0 a1 a2=some r) :
  Calls Tryz.prog 98 #[ah a0,ah a1,ah a2] w fun e w'=>e=.returned (.bool r)∧pO w w':=by
 unfold vC.f at h
 have H:=h;clear h;revert H;refine fB (fun a5 H=>?_) fun a5 H=>?_
 ·obtain rfl:=bQ H;go_enter func98,ntmps98
  go_wp2
  go_ret
  exact ⟨bC,kL⟩
 obtain rfl:=bQ H;go_enter func98,ntmps98
 go_wp2
 go_ret
 exact ⟨bC,kL⟩

mutual
def jv.j0:Nat→ByteArray→List ByteArray→Bool→Option (List ByteArray × Int)
 | 0,_,_,_=>none
 | k+1,x0,x4,a5=>if a5=true then (some (x4,1)) else (if x0.toList=([47]:List UInt8) then (some (x4,0)) else (jv.l0 k x0 x4 (([]:List ByteArray)) false 1 1))
def jv.l0:Nat→ByteArray→List ByteArray→List ByteArray→Bool→Int→Int→Option (List ByteArray × Int)
 | 0,_,_,_,_,_,_=>none
 | k+1,x0,x4,x5,x6,x7,gZ=>if gZ≤(x0.size:Int) then (if gZ < (x0.size:Int) then (if 0≤gZ then (jv.j2 k x0 x4 x5 x6 x7 gZ ((bt x0 gZ) != 47)) else (none)) else (jv.j2 k x0 x4 x5 x6 x7 gZ false)) else (if x6=true then (some (x4,2)) else (some (x5,0)))
def jv.j2:Nat→ByteArray→List ByteArray→List ByteArray→Bool→Int→Int→Bool→Option (List ByteArray × Int)
 | 0,_,_,_,_,_,_,_=>none
 | k+1,x0,x4,x5,x6,x7,gZ,a7=>if a7=true then (if 0≤gZ then (if gZ < (x0.size:Int) then ((vC.f (wrap64 (bt x0 gZ)) 97 122).bind fun a5=>(if a5=true then (jv.j3 k x0 x4 x5 x6 x7 gZ false) else ((vC.f (wrap64 (bt x0 gZ)) 48 57).bind fun a6=>(jv.j3 k x0 x4 x5 x6 x7 gZ (!a6))))) else (none)) else (none)) else (if x7=gZ then (some (x4,1)) else (if x6=true then (if 0≤x7 then (if x7≤gZ then (if gZ≤(x0.size:Int) then (if x5.length < 8796093022208 then (jv.l0 k x0 x4 (x5++[x0.extract (x7:Int).toNat (gZ:Int).toNat]) true (wrap64 (gZ+1)) (wrap64 (gZ+1))) else (none)) else (none)) else (none)) else (none)) else (if 0≤x7 then (if x7≤gZ then (if gZ≤(x0.size:Int) then (if x5.length < 8796093022208 then (jv.l0 k x0 x4 (x5++[x0.extract (x7:Int).toNat (gZ:Int).toNat]) (decide ((wrap64 (gZ - x7)) > 7)) (wrap64 (gZ+1)) (wrap64 (gZ+1))) else (none)) else (none)) else (none)) else (none))))
def jv.j3:Nat→ByteArray→List ByteArray→List ByteArray→Bool→Int→Int→Bool→Option (List ByteArray × Int)
 | 0,_,_,_,_,_,_,_=>none
 | k+1,x0,x4,x5,x6,x7,gZ,a5=>if a5=true then (some (x4,1)) else (jv.l0 k x0 x4 x5 x6 x7 (wrap64 (gZ+1)))
end
def jv.f (k:Nat) (a0:ByteArray):Option (List ByteArray × Int):=(some (([]:List ByteArray):List ByteArray)).bind fun a5=>(if (a0.size:Int) > 60 then (jv.j0 k a0 a5 true) else (if (a0.size:Int)=0 then (jv.j0 k a0 a5 true) else (if 0 < (a0.size:Int) then (jv.j0 k a0 a5 ((bt a0 0) != 47)) else (none))))
theorem jv.calls (k:Nat) (a0:ByteArray) (r1:List ByteArray) (r2:Int) (w:World) (h:jv.f k a0=some (r1,r2)) :
  Calls Tryz.prog 53 #[.string a0] w fun e w'=>∃ fC:Value,e=.returned (.tuple #[fC,ah r2])∧Kd.R Kd.string 9 w' w.heap.size (fun _=>True) fC r1∧Below w.heap.size w w':=by
 have HB:=m_ (Below.refl w.heap.size w);unfold jv.f at h
 have H:=h;clear h;obtain ⟨a9,ax,H⟩:=uX H;have bz:=m_ H;clear H;go_enter func53,ntmps53
 go_upto_region 2 with (first|((with_reducible refine dJ 9 ?_);(try (refine r_ (by rfl) ?_;dsimp only));refine Kd.AZ Kd.string _ 9 ?hg (N:=9) ?hd (xs:=([]:List ByteArray)) (inner:=[]) (ok:=fun _=>True) (jG:=fun _=>True) ?hr ?hp (fun _ hk=>hk) trivial (Below.refl _ _) (Nat.le_refl _) (by simp) ?_;(case hd=>rfl);(case hg=>rfl);(case hr=>first|(go_simp;done)|(go_simp;rfl));(case hp=>exact (gu.none _ _));intro CZ w3 LJ hb mF mG;clear mF mG;(first|rw [← ax.out] at LJ|(simp only [Int.reduceToNat] at LJ;rw [← ax.out] at LJ));obtain ⟨aH,HB⟩:=p_ (Kd.dR LJ (bU ay)) <| a_ (dV ay hb);clear hb LJ))
 (try simp only [fM])
 go_cut [22] (fun v22 wc=>∃ (kq:Nat) (ag:Bool),v22=.bool ag∧aA (jv.j0 kq a0 a9 ag=some (r1,r2))∧aA (kq≤k)∧aA (Kd.R Kd.string 9 wc w.heap.size (fun _=>True) CZ a9)∧aA (Below w.heap.size w wc))
 case first =>
  obtain ⟨H⟩:=bz;revert H;refine eU (fun c5 H=>?_) fun c5 H=>?_
  ·have ab:=nJ c5;have aO:decide (60 < a0.size)=true:=nJ (by omega);clear c5;try simp only [aV,aZ,ab]
   have H':=m_ H;clear H;go_wp2
   go_meet
   case rel=>exact ⟨_,(true),bC,H',⟨lM⟩,⟨(aN aH)⟩,⟨ay⟩⟩
  have ab:=wQ c5;have aO:decide (60 < a0.size)=false:=wQ (by omega);clear c5;try simp only [aV,aZ,ab]
  revert H;refine eU (fun c6 H=>?_) fun c6 H=>?_
  ·have al:=fU c6;have am:=fV c6;clear c6;have H':=m_ H;clear H;go_wp2
   go_meet
   case rel=>exact ⟨_,(true),bC,H',⟨lM⟩,⟨(aN aH)⟩,⟨ay⟩⟩
  have al:=fZ c6;have am:=f_ c6;obtain ⟨c7,H⟩:=lT H;have av:=nJ c7;have aw:decide (0 < a0.size)=true:=nJ (by omega);clear c7;have H':=m_ H;clear H;have p8:0≤(0:Int):=(by omega);have q8:0 < a0.size:=(by have:(0:Int) < (a0.size:Int):=aX aY;omega);have aCm:∀ h:0 < a0.size,((a0[0]'h).toNat:Int)=bt a0 0:=Hg a0 0;clear p8;have bq:(0 < (a0.size:Int))=True:=eq_true (aX aY);replace q8:=eq_true q8;go_wp2
  go_meet
  case rel=>exact ⟨_,(((bt a0 0) != 47)),bC,H',⟨lM⟩,⟨(aN aH)⟩,⟨ay⟩⟩
 case rest =>
 clear bz;obtain ⟨kq,ag,rfl,HA,uj,uK,HB⟩:=hcut;cases kq with
 | zero=>exact absurd HA.out (by simp [jv.j0])
 | succ Bv =>
 obtain ⟨H⟩:=HA;simp only [jv.j0] at H
 by_cases c9:ag=true
 ·subst c9;rw [if_pos rfl] at H;simp only [gV] at H
  obtain ⟨rfl,rfl⟩:=H;go_wp2
  go_ret2
  exact ⟨_,bK,(aN uK),ay⟩
 replace c9:=Bool.eq_false_iff.mpr c9;subst c9;rw [if_neg iF] at H;revert H;refine eU (fun aT H=>?_) fun aT H=>?_
 ·have aK:=fU aT;have ai:=fV aT;clear aT;simp only [gV] at H
  obtain ⟨rfl,rfl⟩:=H;go_wp2
  go_ret2
  exact ⟨_,bK,(aN uK),ay⟩
 have aK:=fZ aT;have ai:=f_ aT;obtain ⟨b9,an⟩:∃ y_:List ByteArray,y_=(([]:List ByteArray)):=⟨_,rfl⟩;rw [← an] at H;have bD:=m_ an;clear an;have H':=m_ H;clear H;go_wp2_with (first|((with_reducible refine dJ 27 ?_);(try (refine r_ (by rfl) ?_;dsimp only));refine Kd.AZ Kd.string _ 9 ?hg (N:=27) ?hd (xs:=([]:List ByteArray)) (inner:=[]) (ok:=fun _=>True) (jG:=fun _=>True) ?hr ?hp (fun _ hk=>hk) trivial (Below.refl _ _) (Nat.le_refl _) (by simp) ?_;(case hd=>rfl);(case hg=>rfl);(case hr=>first|(go_simp;done)|(go_simp;rfl));(case hp=>exact (gu.none _ _));intro aDb d1 Jp hb mF mG;clear mF mG;(first|rw [← bD.out] at Jp|(simp only [Int.reduceToNat] at Jp;rw [← bD.out] at Jp));obtain ⟨uK,ba,HB⟩:=p_ (Kd.jP (aN uK) (Kd.iY Jp) hb) <| p_ (Kd.dR (Kd.jQ Jp (Kd.jl (aN uK))) (bU ay)) <| a_ (dV ay hb);clear hb Jp))
 go_loopg [5,6,7,8] Bv (fun kq v5 v6 v7 v8 w'=>∃ (a7:List ByteArray) (af:Bool) (a6:Int) (a5:Int),v6=.bool af∧v7=ah a6∧v8=ah a5∧aA (jv.l0 kq a0 a9 a7 af a6 a5=some (r1,r2))∧aA (kq≤Bv)∧aA (Kd.R Kd.string 9 w' w.heap.size (fun ak=>some ak≠(v5:Value).ownBlock) CZ a9)∧aA (Kd.R Kd.string 9 w' w.heap.size (fun ak=>some ak≠(CZ:Value).ownBlock) v5 a7)∧aA (Below w.heap.size w w'))
 case atStart=>exact ⟨(b9),(false),(1),(1),bC,bC,bC,H',⟨Nat.le_refl _⟩,⟨WT⟩,⟨(by (with_reducible repeat (first|apply Kd.bW|apply Kd.bY|apply Kd.bH));exact Kd.bF ba.out (fun _ hk=>hk.2))⟩,⟨ay⟩⟩
 case round =>
 clear H';try clear c9;try clear aT;try clear aK;try clear ai
 obtain ⟨a7,af,a6,a5,rfl,rfl,rfl,HA,kS,uK,a8,HB⟩:=hrel;cases gk with
 | zero=>exact absurd HA.out (by simp [jv.l0])
 | succ k2 =>
 obtain ⟨H⟩:=HA;simp only [jv.l0] at H
 revert H;refine fB (fun ao H=>?_) fun ao H=>?_;rotate_left
 ·by_cases br:af=true
  ·subst br;rw [if_pos rfl] at H;simp only [gV] at H
   obtain ⟨rfl,rfl⟩:=H;go_wp2
   go_ret2
   exact ⟨_,bK,WQ,ay⟩
  replace br:=Bool.eq_false_iff.mpr br;subst br;rw [if_neg iF] at H;simp only [gV] at H
  obtain ⟨rfl,rfl⟩:=H;go_wp2
  go_ret2
  exact ⟨_,bK,(by (with_reducible repeat (first|apply Kd.bW|apply Kd.bY|apply Kd.bH));exact Kd.bF a8.out (fun _ hk=>trivial)),ay⟩
 have b2:=m_ H;clear H;go_upto_region 12 with (fail)
 go_cut [43] (fun v43 wc=>∃ (kq:Nat) (ac:Bool),v43=.bool ac∧aA (jv.j2 kq a0 a9 a7 af a6 a5 ac=some (r1,r2))∧aA (kq≤k2)∧aA (Kd.R Kd.string 9 wc w.heap.size (fun ak=>some ak≠(u5:Value).ownBlock) CZ a9)∧aA (Kd.R Kd.string 9 wc w.heap.size (fun ak=>some ak≠(CZ:Value).ownBlock) u5 a7)∧aA (Below w.heap.size w wc))
 case first =>
  obtain ⟨H⟩:=b2;revert H;refine fB (fun aa H=>?_) fun aa H=>?_;rotate_left
  ·try simp only [aV,aZ,aa]
   have H':=m_ H;clear H;go_wp2
   go_meet
   case rel=>exact ⟨_,(false),bC,H',⟨(by have:=uj.out;have:=kS.out;first|omega|exact Nat.le_refl _)⟩,⟨(aN uK)⟩,⟨(aN a8)⟩,⟨ay⟩⟩
  try simp only [aV,aZ,aa]
  obtain ⟨b1,H⟩:=gI H;have H':=m_ H;clear H;have b7:0≤(a5:Int):=aX aY;have b8:a5 < (a0.size:Int):=aX aY;have aCl:=Hg a0 a5;replace b7:=eq_true b7;replace b8:=eq_true b8;go_wp2
  go_meet
  case rel=>exact ⟨_,(((bt a0 a5) != 47)),bC,H',⟨(by have:=uj.out;have:=kS.out;first|omega|exact Nat.le_refl _)⟩,⟨(aN uK)⟩,⟨(aN a8)⟩,⟨ay⟩⟩
 case rest =>
 clear b2;try clear az;try clear ao
 obtain ⟨kq,ac,rfl,HA,Dj,uK,a8,HB⟩:=hcut;cases kq with
 | zero=>exact absurd HA.out (by simp [jv.j2])
 | succ VT =>
 obtain ⟨H⟩:=HA;simp only [jv.j2] at H
 by_cases bb:ac=true
 ·subst bb;rw [if_pos rfl] at H;have b3:=m_ H;clear H;go_upto_region 13 with (fail)
  go_cut [57] (fun v57 wc=>∃ (kq:Nat) (ae:Bool),v57=.bool ae∧aA (jv.j3 kq a0 a9 a7 af a6 a5 ae=some (r1,r2))∧aA (kq≤VT)∧aA (Kd.R Kd.string 9 wc w.heap.size (fun ak=>some ak≠(u5:Value).ownBlock) CZ a9)∧aA (Kd.R Kd.string 9 wc w.heap.size (fun ak=>some ak≠(CZ:Value).ownBlock) u5 a7)∧aA (Below w.heap.size w wc))
  case first =>
   obtain ⟨H⟩:=b3;obtain ⟨ap,H⟩:=gI H;try simp only [aV,aZ,ap]
   obtain ⟨bc,H⟩:=gI H;obtain ⟨cd,ck,H⟩:=bd_ H;by_cases bd:cd=true
   ·subst bd;rw [if_pos rfl] at H;have H':=m_ H;clear H;have b4:0≤(a5:Int):=aX aY;have b5:a5 < (a0.size:Int):=aX aY;have alX:=Hg a0 a5;replace b4:=eq_true b4;replace b5:=eq_true b5;go_wp2_with (first|((with_reducible refine cu 98 ?_);refine cO (some 48) rfl rfl func98 aC rfl #[ah (wrap64 (bt a0 a5)),ah 97,ah 122] rfl bJ ?_;(with_reducible refine (vC.calls (wrap64 (bt a0 a5)) 97 122 true _ ck.out).mono ?_);rintro e w' ⟨rfl,⟨nd,rfl⟩⟩;refine ⟨_,rfl,?_⟩))
    go_meet
    case rel=>exact ⟨_,(false),bC,H',⟨(by have:=uj.out;have:=kS.out;have:=Dj.out;first|omega|exact Nat.le_refl _)⟩,⟨(aN uK)⟩,⟨(aN a8)⟩,⟨ay⟩⟩
   replace bd:=Bool.eq_false_iff.mpr bd;subst bd;rw [if_neg iF] at H;obtain ⟨be,d0,H⟩:=bd_ H;have H':=m_ H;clear H;have b4:0≤(a5:Int):=aX aY;have b5:a5 < (a0.size:Int):=aX aY;have alX:=Hg a0 a5;replace b4:=eq_true b4;replace b5:=eq_true b5;go_wp2_with (first|((with_reducible refine cu 98 ?_);refine cO (some 48) rfl rfl func98 aC rfl #[ah (wrap64 (bt a0 a5)),ah 97,ah 122] rfl bJ ?_;(with_reducible refine (vC.calls (wrap64 (bt a0 a5)) 97 122 false _ ck.out).mono ?_);rintro e w' ⟨rfl,⟨nd,rfl⟩⟩;refine ⟨_,rfl,?_⟩;have bu:0≤(a5:Int):=aX aY;have bv:a5 < (a0.size:Int):=aX aY;have hx25:=Hg a0 a5;replace bu:=eq_true bu;replace bv:=eq_true bv)|(go_at_call 98;(with_reducible refine (vC.calls (wrap64 (bt a0 a5)) 48 57 be _ d0.out).mono ?_);rintro e w' ⟨rfl,⟨nd,rfl⟩⟩))
   go_meet
   case rel=>exact ⟨_,(!be),bC,H',⟨(by have:=uj.out;have:=kS.out;have:=Dj.out;first|omega|exact Nat.le_refl _)⟩,⟨(aN uK)⟩,⟨(aN a8)⟩,⟨ay⟩⟩
  case rest =>
  clear b3;try clear bb
  obtain ⟨kq,ae,rfl,HA,XC,uK,a8,HB⟩:=hcut;cases kq with
  | zero=>exact absurd HA.out (by simp [jv.j3])
  | succ amm =>
  obtain ⟨H⟩:=HA;simp only [jv.j3] at H
  by_cases bw:ae=true
  ·subst bw;rw [if_pos rfl] at H;simp only [gV] at H
   obtain ⟨rfl,rfl⟩:=H;go_wp2
   go_ret2
   exact ⟨_,bK,WQ,ay⟩
  replace bw:=Bool.eq_false_iff.mpr bw;subst bw;rw [if_neg iF] at H;have H':=m_ H;clear H;go_wp2
  go_roundg amm
  case measure=>have:=uj.out;have:=kS.out;have:=Dj.out;have:=XC.out;omega
  case rel=>exact ⟨(a7),(af),(a6),(wrap64 (a5+1)),bC,bC,bC,H',⟨(by have:=uj.out;have:=kS.out;have:=Dj.out;have:=XC.out;omega)⟩,⟨(aN uK)⟩,⟨(aN a8)⟩,⟨ay⟩⟩
 replace bb:=Bool.eq_false_iff.mpr bb;subst bb;rw [if_neg iF] at H;revert H;refine eU (fun b6 H=>?_) fun b6 H=>?_
 ·have fA:=fU b6;have dL:=fV b6;clear b6;simp only [gV] at H
  obtain ⟨rfl,rfl⟩:=H;go_wp2
  go_ret2
  exact ⟨_,bK,WQ,ay⟩
 have fA:=fZ b6;have dL:=f_ b6;by_cases bx:af=true
 ·subst bx;rw [if_pos rfl] at H;obtain ⟨cl,cm,H⟩:=jF H;obtain ⟨cn,co,H⟩:=jF H;obtain ⟨cp,cq,H⟩:=jF H;obtain ⟨cr,H⟩:=lT H;have bh:=m_ cr;clear cr;obtain ⟨bi,aq⟩:∃ y_:List ByteArray,y_=(a7++[a0.extract (a6:Int).toNat (a5:Int).toNat]):=⟨_,rfl⟩;rw [← aq] at H;have bj:=m_ aq;clear aq;have H':=m_ H;clear H;go_wp2_with (first|((with_reducible refine zu (b:=.append) (xs:=#[.tmp 70,.tmp 75]) rfl ?_);(try (refine r_ (by rfl) ?_;dsimp only));at_builtin;refine Kd.GI Kd.string (w0:=w) w.heap.size rfl (.tmp 70) (.tmp 75) 38 9 (.string ⟨#[]⟩) 16 rfl underlying38 info9 rfl (by decide) (by omega) u5 a7 (a0.extract (a6:Int).toNat (a5:Int).toNat) [.string (a0.extract (a6:Int).toNat (a5:Int).toNat)] (fun ak=>some ak≠(CZ:Value).ownBlock) (fun _=>False) rfl rfl ?vM (fun _ hk=>hk.elim) ?mX ?l7 ?lZ ?l9 ?aL ?_;(case vM=>exact rfl);(case lZ=>exact ay);(case mX=>exact (fun ak hk=>Kd.EW (Kd.jl (aN uK)) ak hk));(case l7=>exact (aN a8));(case l9=>exact (bU ay));(case aL=>have:=bh.out;omega);intro aDc d2 ho hb hg hat;rw [← bj.out] at ho;obtain ⟨uK,HB,bl⟩:=p_ (Kd.qh (ok:=(fun _=>True)) adJ hg hat) <| p_ (hb) <| a_ (ho);clear ho hb hg hat))
  go_roundg VT
  case measure=>have:=uj.out;have:=kS.out;have:=Dj.out;omega
  case rel=>exact ⟨(bi),(true),(wrap64 (a5+1)),(wrap64 (a5+1)),bC,bC,bC,H',⟨(by have:=uj.out;have:=kS.out;have:=Dj.out;omega)⟩,⟨WT⟩,⟨(aN bl)⟩,⟨ay⟩⟩
 replace bx:=Bool.eq_false_iff.mpr bx;subst bx;rw [if_neg iF] at H;obtain ⟨ct,fE,H⟩:=jF H;obtain ⟨cv,cw,H⟩:=jF H;obtain ⟨cx,cy,H⟩:=jF H;obtain ⟨cz,H⟩:=lT H;have bm:=m_ cz;clear cz;obtain ⟨fG,ar⟩:∃ y_:List ByteArray,y_=(a7++[a0.extract (a6:Int).toNat (a5:Int).toNat]):=⟨_,rfl⟩;rw [← ar] at H;have bo:=m_ ar;clear ar;have H':=m_ H;clear H;go_wp2_with (first|((with_reducible refine zu (b:=.append) (xs:=#[.tmp 70,.tmp 75]) rfl ?_);(try (refine r_ (by rfl) ?_;dsimp only));at_builtin;refine Kd.GI Kd.string (w0:=w) w.heap.size rfl (.tmp 70) (.tmp 75) 38 9 (.string ⟨#[]⟩) 16 rfl underlying38 info9 rfl (by decide) (by omega) u5 a7 (a0.extract (a6:Int).toNat (a5:Int).toNat) [.string (a0.extract (a6:Int).toNat (a5:Int).toNat)] (fun ak=>some ak≠(CZ:Value).ownBlock) (fun _=>False) rfl rfl ?vM (fun _ hk=>hk.elim) ?mX ?l7 ?lZ ?l9 ?aL ?_;(case vM=>exact rfl);(case lZ=>exact ay);(case mX=>exact (fun ak hk=>Kd.EW (Kd.jl (aN uK)) ak hk));(case l7=>exact (aN a8));(case l9=>exact (bU ay));(case aL=>have:=bm.out;omega);intro aDd d3 ho hb hg hat;rw [← bo.out] at ho;obtain ⟨uK,HB,bp⟩:=p_ (Kd.qh (ok:=(fun _=>True)) adJ hg hat) <| p_ (hb) <| a_ (ho);clear ho hb hg hat))
 go_roundg VT
 case measure=>have:=uj.out;have:=kS.out;have:=Dj.out;omega
 case rel=>exact ⟨(fG),(decide ((wrap64 (a5 - a6)) > 7)),(wrap64 (a5+1)),(wrap64 (a5+1)),bC,bC,bC,H',⟨(by have:=uj.out;have:=kS.out;have:=Dj.out;omega)⟩,⟨WT⟩,⟨(aN bp)⟩,⟨ay⟩⟩

def vk.l0:Nat→List ByteArray→ByteArray→Int→Option (ByteArray)
 | 0,_,_,_=>none
 | k+1,x0,x3,x4=>if x4 < (x0.length:Int) then (if x3.size+1≤9223372036854775807 then (if 0≤x4 then (if (x3++(⟨#[47]⟩:ByteArray)).size+(qV ByteArray.empty x0 x4).size≤9223372036854775807 then (vk.l0 k x0 ((x3++(⟨#[47]⟩:ByteArray))++(qV ByteArray.empty x0 x4)) (wrap64 (x4+1))) else (none)) else (none)) else (none)) else (some x3)
def vk.f (k:Nat) (l0:List ByteArray):Option (ByteArray):=if (l0.length:Int)=0 then (some (⟨#[47]⟩:ByteArray)) else (vk.l0 k l0 (⟨#[]⟩:ByteArray) 0)
theorem vk.calls (k:Nat) (A0:Option Addr) (c0:Nat) (l0:List ByteArray) (r:ByteArray) (w:World) (hr0:Kd.C Kd.string w A0 l0.length l0) (hc0:l0.length≤c0) (h:vk.f k l0=some r) :
  Calls Tryz.prog 71 #[.slice A0 l0.length c0] w fun e w'=>e=.returned (.string r)∧pO w w':=by
 have HR0:=m_ hr0;have ao:=m_ hc0;clear hr0 hc0;unfold vk.f at h
 have H:=h;clear h;revert H;refine eU (fun c2 H=>?_) fun c2 H=>?_
 ·have a9:=fU c2;have aa:=fV c2;clear c2;obtain rfl:=bQ H;go_enter func71,ntmps71
  go_wp2
  go_ret
  exact ⟨bC,kL⟩
 have a9:=fZ c2;have aa:=f_ c2;have ac:¬ (l0=[]):=fun bI=>c2 (by rw [bI];rfl);have H':=m_ H;clear H;go_enter func71,ntmps71
 go_wp2
 go_loopg [3,4] k (fun kq v3 v4 w'=>∃ (a6:ByteArray) (a5:Int),v3=.string a6∧v4=ah a5∧aA (vk.l0 kq l0 a6 a5=some r)∧aA (kq≤k)∧pO w w')
 case atStart=>exact ⟨((⟨#[]⟩:ByteArray)),(0),bC,bC,H',⟨Nat.le_refl _⟩,kL⟩
 case round =>
 clear H';try clear c2;try clear a9;try clear aa;try clear ac
 obtain ⟨a6,a5,rfl,rfl,HA,gG,⟨m1,rfl⟩⟩:=hrel;cases gk with
 | zero=>exact absurd HA.out (by simp [vk.l0])
 | succ k1 =>
 obtain ⟨H⟩:=HA;simp only [vk.l0] at H
 revert H;refine fB (fun ae H=>?_) fun ae H=>?_;rotate_left
 ·obtain rfl:=bQ H;go_wp2
  go_ret
  exact ⟨bC,kL⟩
 obtain ⟨c4,H⟩:=lT H;have aK:=eq_true c4;have ai:=nJ c4;try have aH:(9223372036854775807 < a6.size+1)=False:=eq_false (Nat.not_lt.2 c4)
 obtain ⟨aO,H⟩:=gI H;obtain ⟨c6,H⟩:=lT H;have al:=eq_true c6;have am:=nJ c6;try have an:(9223372036854775807 < (a6++(⟨#[47]⟩:ByteArray)).size+(qV ByteArray.empty l0 a5).size)=False:=eq_false (Nat.not_lt.2 c6)
 have H':=m_ H;clear H;have a7:0≤(a5:Int):=aX aY;have a8:a5 < (l0.length:Int):=aX aY;obtain ⟨ag,af,ab⟩:=Kd.Aa HR0.out a5 a7 a8;cases af;replace a7:=eq_true a7;replace a8:=eq_true a8;go_wp2
 go_roundg k1
 case measure=>have:=gG.out;omega
 case rel=>exact ⟨((a6++(⟨#[47]⟩:ByteArray))++(qV ByteArray.empty l0 a5)),(wrap64 (a5+1)),bC,bC,H',⟨oz⟩,kL⟩

def vT.f (k:Nat) (a0:ByteArray):Option (ByteArray):=(jv.f k a0).bind fun a5=>(if a5.2=0 then (if (a5.1.length:Int)=0 then (some (⟨#[]⟩:ByteArray)) else (if 0≤(wrap64 ((a5.1.length:Int) - 1)) then (if (wrap64 ((a5.1.length:Int) - 1))≤(a5.1.length:Int) then ((vk.f k (a5.1.take ((wrap64 ((a5.1.length:Int) - 1)):Int).toNat)).bind fun a6=>(some a6)) else (none)) else (none))) else (some (⟨#[]⟩:ByteArray)))
theorem vT.calls (k:Nat) (a0:ByteArray) (r:ByteArray) (w:World) (h:vT.f k a0=some r) :
  Calls Tryz.prog 51 #[.string a0] w fun e w'=>e=.returned (.string r)∧Below w.heap.size w w':=by
 have HB:=m_ (Below.refl w.heap.size w);unfold vT.f at h
 have H:=h;clear h;obtain ⟨⟨a5,ae⟩,A2,H⟩:=bd_ H;revert H;refine eU (fun c3 H=>?_) fun c3 H=>?_;rotate_left
 ·have ai:=fZ c3;have aH:=f_ c3;obtain rfl:=bQ H;go_enter func51,ntmps51
  go_wp2_with (first|((with_reducible refine cu 53 ?_);refine cO (some 7) rfl rfl func53 aC rfl #[.string a0] rfl bJ ?_;(with_reducible refine (jv.calls k a0 a5 ae _ A2.out).mono ?_);rintro e bD ⟨aoO,rfl,ho0,hb⟩;refine ⟨_,rfl,?_⟩;obtain ⟨a6,HB⟩:=p_ (Kd.dR ho0 (bU ay)) <| a_ (dV ay hb);(try clear hb);(try clear ho0)))
  go_ret
  exact ⟨bK,ay⟩
 have ai:=fU c3;have aH:=fV c3;clear c3;have ao:=m_ H;clear H;go_enter func51,ntmps51
 go_upto_if 16 with (first|((with_reducible refine cu 53 ?_);refine cO (some 7) rfl rfl func53 aC rfl #[.string a0] rfl bJ ?_;(with_reducible refine (jv.calls k a0 a5 ae _ A2.out).mono ?_);rintro e w5 ⟨aoO,rfl,ho0,hb⟩;refine ⟨_,rfl,?_⟩;obtain ⟨a6,HB⟩:=p_ (Kd.dR ho0 (bU ay)) <| a_ (dV ay hb);(try clear hb);(try clear ho0);obtain ⟨aO,aK,ar⟩:=Kd.dN a6.out;subst ar))
 (try simp only [fM])
 obtain ⟨H⟩:=ao;revert H;refine eU (fun c7 H=>?_) fun c7 H=>?_
 ·have a7:=fU c7;have al:=fV c7;clear c7;try simp only [aV,aZ,a7]
  obtain rfl:=bQ H;go_wp2
  go_ret
  exact ⟨bK,ay⟩
 have a7:=fZ c7;have al:=f_ c7;have aT:¬ (a5=[]):=fun bI=>c7 (by rw [bI];rfl);try simp only [aV,aZ,a7]
 obtain ⟨jo,sW⟩:∃ mZ:Int,(wrap64 ((a5.length:Int) - 1))=mZ:=⟨_,rfl⟩;replace H:(if 0≤(jo) then (if (jo)≤(a5.length:Int) then ((vk.f k (a5.take ((jo):Int).toNat)).bind fun a8=>(some a8)) else (none)) else (none))=some r:=by first|(rw [sW] at H;exact H)|(simp only [sW] at H ⊢;exact H)
 have Pm:(IntKind.i64.wrap ((a5.length:Int) - 1))=jo:=(aV _).trans sW;obtain ⟨av,aw,H⟩:=jF H;obtain ⟨ap,aq,H⟩:=jF H;obtain ⟨a9,aa⟩:∃ y_:List ByteArray,y_=(a5.take ((jo):Int).toNat):=⟨_,rfl⟩;rw [← aa] at H;have ab:=m_ aa;clear aa;obtain ⟨a8,ax,H⟩:=bd_ H;obtain rfl:=bQ H;have an:((jo):Int)≤((a5.length:Int):Int):=aX aY;obtain ⟨alY,Lp,_,VG,_⟩:=info_parts info9;have LU:a5.length≤aK:=(Kd.dn a6.out).2.1;have Lm:Kd.C Kd.string _ aO a5.length a5:=(Kd.dn a6.out).2.2;have TK:=EP (P:=Tryz.prog) 38 9 .i64 underlying38 Lp aO a5.length aK (jo) (aX aY) an LU;have E_:=Kd.yx (m:=((jo):Int).toNat) Lm (by omega);have af:a9.length=((jo):Int).toNat:=(by rw [ab.out,List.length_take];omega);rw [← ab.out] at E_;rw [← af] at TK;have ac:=m_ E_;have ag:=m_ (show a9.length≤aK from by omega);clear E_ Lm LU Lp VG;have aeR:=m_ af;clear af;have aeO:=m_ (show ((jo):Int).toNat≤a5.length from by omega);replace an:=eq_true an;go_wp2_with (first|((with_reducible refine cu 71 ?_);refine cO (some 22) rfl rfl func71 aC rfl #[.slice aO a9.length aK] rfl bJ ?_;(with_reducible refine (vk.calls k _ _ a9 a8 _ ?jW ag.out ax.out).mono ?_);(case jW=>repeat (first|exact (by repeat (first|(with_reducible exact ac.out)|(with_reducible refine Kd.kM ?_ _)|(with_reducible refine Kd.kR ?_ _)|(with_reducible refine Kd.kQ ?_)|exact ac.out))|(with_reducible refine Kd.kM ?_ _)|(with_reducible refine Kd.kR ?_ _)|(with_reducible refine Kd.kQ ?_)));rintro e w' ⟨rfl,⟨nd,rfl⟩⟩;refine ⟨_,rfl,?_⟩))
 go_ret
 exact ⟨Qq,ay⟩

def F7.f (k:Nat) (a0:ByteArray):Option (ByteArray):=(jv.f k a0).bind fun a5=>(if a5.2=0 then (if (a5.1.length:Int)=0 then (some (⟨#[]⟩:ByteArray)) else (if 0≤(wrap64 ((a5.1.length:Int) - 1)) then (if (wrap64 ((a5.1.length:Int) - 1)) < (a5.1.length:Int) then (some (qV ByteArray.empty a5.1 (wrap64 ((a5.1.length:Int) - 1)))) else (none)) else (none))) else (some (⟨#[]⟩:ByteArray)))
theorem F7.calls (k:Nat) (a0:ByteArray) (r:ByteArray) (w:World) (h:F7.f k a0=some r) :
  Calls Tryz.prog 63 #[.string a0] w fun e w'=>e=.returned (.string r)∧Below w.heap.size w w':=by
 have HB:=m_ (Below.refl w.heap.size w);unfold F7.f at h
 have H:=h;clear h;obtain ⟨⟨a5,a8⟩,A2,H⟩:=bd_ H;revert H;refine eU (fun c3 H=>?_) fun c3 H=>?_;rotate_left
 ·have ac:=fZ c3;have ae:=f_ c3;obtain rfl:=bQ H;go_enter func63,ntmps63
  go_wp2_with (first|((with_reducible refine cu 53 ?_);refine cO (some 7) rfl rfl func53 aC rfl #[.string a0] rfl bJ ?_;(with_reducible refine (jv.calls k a0 a5 a8 _ A2.out).mono ?_);rintro e ao ⟨aoP,rfl,ho0,hb⟩;refine ⟨_,rfl,?_⟩;obtain ⟨a6,HB⟩:=p_ (Kd.dR ho0 (bU ay)) <| a_ (dV ay hb);(try clear hb);(try clear ho0)))
  go_ret
  exact ⟨bK,ay⟩
 have ac:=fU c3;have ae:=fV c3;clear c3;have aK:=m_ H;clear H;go_enter func63,ntmps63
 go_upto_if 16 with (first|((with_reducible refine cu 53 ?_);refine cO (some 7) rfl rfl func53 aC rfl #[.string a0] rfl bJ ?_;(with_reducible refine (jv.calls k a0 a5 a8 _ A2.out).mono ?_);rintro e w5 ⟨aoP,rfl,ho0,hb⟩;refine ⟨_,rfl,?_⟩;obtain ⟨a6,HB⟩:=p_ (Kd.dR ho0 (bU ay)) <| a_ (dV ay hb);(try clear hb);(try clear ho0);obtain ⟨ap,aq,al⟩:=Kd.dN a6.out;subst al))
 (try simp only [fM])
 obtain ⟨H⟩:=aK;revert H;refine eU (fun c7 H=>?_) fun c7 H=>?_
 ·have a7:=fU c7;have af:=fV c7;clear c7;try simp only [aV,aZ,a7]
  obtain rfl:=bQ H;go_wp2
  go_ret
  exact ⟨bK,ay⟩
 have a7:=fZ c7;have af:=f_ c7;have am:¬ (a5=[]):=fun bI=>c7 (by rw [bI];rfl);try simp only [aV,aZ,a7]
 obtain ⟨jo,sW⟩:∃ mZ:Int,(wrap64 ((a5.length:Int) - 1))=mZ:=⟨_,rfl⟩;replace H:(if 0≤(jo) then (if (jo) < (a5.length:Int) then (some (qV ByteArray.empty a5 (jo))) else (none)) else (none))=some r:=by first|(rw [sW] at H;exact H)|(simp only [sW] at H ⊢;exact H)
 have Pm:(IntKind.i64.wrap ((a5.length:Int) - 1))=jo:=(aV _).trans sW;obtain ⟨an,H⟩:=gI H;obtain ⟨aH,H⟩:=gI H;obtain rfl:=bQ H;have a9:0≤((jo):Int):=aX aY;have aa:(jo) < (a5.length:Int):=aX aY;obtain ⟨aO,ag,ab⟩:=Kd.Aa (Kd.dn a6.out).2.2 (jo) a9 aa;cases ag;replace a9:=eq_true a9;replace aa:=eq_true aa;go_wp2
 go_ret
 exact ⟨Qq,ay⟩

def ug.l0:Nat→ByteArray→List ByteArray→Int→List (aF)→Option (List ByteArray)
 | 0,_,_,_,_=>none
 | k+1,x1,x5,x6,a5=>if x6 < (a5.length:Int) then (if 0≤x6 then ((vT.f k ((aB a5 x6).f0)).bind fun a6=>(if a6.toList=x1.toList then (if x1.toList=([]:List UInt8) then (ug.l0 k x1 x5 (wrap64 (x6+1)) a5) else ((F7.f k ((aB a5 x6).f0)).bind fun a7=>(if x5.length < 8796093022208 then (ug.l0 k x1 (x5++[a7]) (wrap64 (x6+1)) a5) else (none)))) else (ug.l0 k x1 x5 (wrap64 (x6+1)) a5))) else (none)) else (some x5)
def ug.f (k:Nat) (a5:List (aF)) (a1:ByteArray):Option (List ByteArray):=ug.l0 k a1 (([]:List ByteArray)) 0 a5
theorem ug.calls (k:Nat) (ao:Option Addr) (aH:Nat) (aI:List (aF)) (a1:ByteArray) (r:List ByteArray) (w:World) (aq:Kd.C aS w ao aI.length aI) (ar:aI.length≤aH) (h:ug.f k aI a1=some r) :
  Calls Tryz.prog 20 #[.agg #[.slice ao aI.length aH],.string a1] w fun e w'=>∃ fC:Value,e=.returned (fC)∧Kd.R Kd.string 9 w' w.heap.size (fun _=>True) fC r∧Below w.heap.size w w':=by
 have nT:=underlying28;have lg:=m_ aq;have be:=m_ ar;clear aq ar;have HB:=m_ (Below.refl w.heap.size w);unfold ug.f at h
 have H:=h;clear h;obtain ⟨b2,aO⟩:∃ y_:List ByteArray,y_=(([]:List ByteArray)):=⟨_,rfl⟩;rw [← aO] at H;have aT:=m_ aO;clear aO;have H':=m_ H;clear H;go_enter func20,ntmps20
 go_wp2_with (first|((with_reducible refine dJ 2 ?_);refine dO 2 (cs:=#[.slice ao aI.length aH]) 28 ?_;intro av hg w3 hbox hb;obtain ⟨HB,a5,fA,dL⟩:=jR ay hb hbox hg;clear hb hbox hg)|((with_reducible refine dJ 7 ?_);refine Kd.AZ Kd.string _ 9 ?hg (N:=7) ?hd (xs:=([]:List ByteArray)) (inner:=[]) (ok:=fun _=>True) (jG:=fun _=>True) ?hr ?hp (fun _ hk=>hk) trivial (Below.refl _ _) (Nat.le_refl _) (by simp) ?_;(case hd=>rfl);(case hg=>rfl);(case hr=>first|(go_simp;done)|(go_simp;rfl));(case hp=>exact (gu.none _ _));intro aDe w4 Ag hb mF mG;clear mF mG;(first|rw [← aT.out] at Ag|(simp only [Int.reduceToNat] at Ag;rw [← aT.out] at Ag));obtain ⟨b3,a5,HB⟩:=p_ (Kd.dR Ag (bU ay)) <| qA (au a5) ay hb;clear hb Ag))
 go_loopg [5,6] k (fun kq v5 v6 w'=>∃ (ac:List ByteArray) (a6:Int),v6=ah a6∧aA (ug.l0 kq a1 ac a6 aI=some r)∧aA (kq≤k)∧aA (Kd.R Kd.string 9 w' w.heap.size (fun _=>True) v5 ac)∧aA (w'.heap[av]?=some (.cells #[(.slice ao aI.length aH)] 28))∧aA (Below w.heap.size w w'))
 case atStart=>exact ⟨(b2),(0),bC,H',⟨Nat.le_refl _⟩,⟨(aN b3)⟩,⟨(au a5)⟩,⟨ay⟩⟩
 case round =>
 clear H';obtain ⟨ac,a6,rfl,HA,gG,aa,a5,HB⟩:=hrel;cases gk with
 | zero=>exact absurd HA.out (by simp [ug.l0])
 | succ k1 =>
 obtain ⟨H⟩:=HA;simp only [ug.l0] at H
 have bh:=m_ H;clear H;have Xt:=bZ a5.out;go_upto_if 12 with (fail)
 (try clear Xt)
 obtain ⟨H⟩:=bh;revert H;refine fB (fun al H=>?_) fun al H=>?_;rotate_left
 ·try simp only [aV,aZ,al]
  obtain rfl:=bQ H;go_wp2
  go_ret
  exact ⟨_,bK,(aN aa),ay⟩
 try simp only [aV,aZ,al]
 obtain ⟨bl,H⟩:=gI H;obtain ⟨aw,bi,H⟩:=bd_ H;revert H;refine eU (fun ax H=>?_) fun ax H=>?_;rotate_left
 ·have b4:=fZ ax;have b5:=f_ ax;have H':=m_ H;clear H;have QJ:=bZ a5.out;have ae:0≤(a6:Int):=aX aY;have af:a6 < (aI.length:Int):=aX aY;obtain ⟨am,bD,a7,a8,a9⟩:=jV lg.out a6 ae af;cases bD;replace a7:=fF HB.out a7;replace a8:=fF HB.out a8;replace a9:=fF HB.out a9;replace ae:=eq_true ae;replace af:=eq_true af;go_wp2_with (first|((with_reducible refine cu 51 ?_);refine cO (some 21) rfl rfl func51 aC rfl #[.string ((aB aI a6).f0)] rfl bJ ?_;(with_reducible refine (vT.calls k1 ((aB aI a6).f0) aw _ bi.out).mono ?_);rintro e fG ⟨rfl,hb⟩;refine ⟨_,rfl,?_⟩;obtain ⟨aa,a5,HB⟩:=p_ (Kd.bG (aN aa) hb) <| qA (au a5) ay hb;(try clear hb)))
  go_roundg k1
  case measure=>have:=gG.out;omega
  case rel=>exact ⟨(ac),(wrap64 (a6+1)),bC,H',⟨oz⟩,⟨(aN aa)⟩,⟨(au a5)⟩,⟨ay⟩⟩
 have b4:=fU ax;have b5:=fV ax;clear ax;have b6:=m_ H;clear H;have Dc:=bZ a5.out;have ae:0≤(a6:Int):=aX aY;have af:a6 < (aI.length:Int):=aX aY;obtain ⟨am,bD,a7,a8,a9⟩:=jV lg.out a6 ae af;cases bD;replace a7:=fF HB.out a7;replace a8:=fF HB.out a8;replace a9:=fF HB.out a9;replace ae:=eq_true ae;replace af:=eq_true af;go_upto_if 27 with (first|((with_reducible refine cu 51 ?_);refine cO (some 21) rfl rfl func51 aC rfl #[.string ((aB aI a6).f0)] rfl bJ ?_;(with_reducible refine (vT.calls k1 ((aB aI a6).f0) aw _ bi.out).mono ?_);rintro e bo ⟨rfl,hb⟩;refine ⟨_,rfl,?_⟩;obtain ⟨aa,a5,HB⟩:=p_ (Kd.bG (aN aa) hb) <| qA (au a5) ay hb;(try clear hb)))
 (try simp only [fM])
 (try clear Dc)
 (try clear a7 a8 a9)
 obtain ⟨H⟩:=b6;revert H;refine eU (fun az H=>?_) fun az H=>?_
 ·have ab:=fU az;have b7:=fV az;clear az;(first|rw [ab]|(simp only [aV,aZ];rw [ab])|rw [show (a1.toList).isEmpty=true from by simpa using ab]|skip)
  have H':=m_ H;clear H;go_wp2
  go_roundg k1
  case measure=>have:=gG.out;omega
  case rel=>exact ⟨(ac),(wrap64 (a6+1)),bC,H',⟨oz⟩,⟨(aN aa)⟩,⟨(au a5)⟩,⟨ay⟩⟩
 have ab:=fZ az;have b7:=f_ az;(first|rw [ab]|(simp only [aV,aZ];rw [ab])|rw [show (a1.toList).isEmpty=false from by simpa using ab]|skip)
 obtain ⟨ap,bm,H⟩:=bd_ H;obtain ⟨bj,H⟩:=lT H;have b8:=m_ bj;clear bj;obtain ⟨b9,an⟩:∃ y_:List ByteArray,y_=(ac++[ap]):=⟨_,rfl⟩;rw [← an] at H;have ba:=m_ an;clear an;have H':=m_ H;clear H;have J9:=bZ a5.out;have b0:0≤(a6:Int):=aX aY;have b1:a6 < (aI.length:Int):=aX aY;obtain ⟨bb,bd,ag,aK,ai⟩:=jV lg.out a6 b0 b1;obtain rfl:am=bb:=(by injection bd);replace ag:=fF HB.out ag;replace aK:=fF HB.out aK;replace ai:=fF HB.out ai;replace b0:=eq_true b0;replace b1:=eq_true b1;go_wp2_with (first|((with_reducible refine cu 63 ?_);refine cO (some 35) rfl rfl func63 aC rfl #[.string ((aB aI a6).f0)] rfl bJ ?_;(with_reducible refine (F7.calls k1 ((aB aI a6).f0) ap _ bm.out).mono ?_);rintro e bp ⟨rfl,hb⟩;refine ⟨_,rfl,?_⟩;obtain ⟨aa,a5,HB⟩:=p_ (Kd.bG (aN aa) hb) <| qA (au a5) ay hb;(try clear hb))|((with_reducible refine zu (b:=.append) (xs:=#[.tmp 28,.tmp 36]) rfl ?_);at_builtin;refine Kd.GI Kd.string (w0:=w) w.heap.size rfl (.tmp 28) (.tmp 36) 38 9 (.string ⟨#[]⟩) 16 rfl underlying38 info9 rfl (by decide) (by omega) u5 ac ap [.string ap] (fun _=>True) (fun _=>False) rfl rfl ?vM (fun _ hk=>hk.elim) ?mX ?l7 ?lZ ?l9 ?aL ?_;(case vM=>exact rfl);(case lZ=>exact ay);(case mX=>exact (fun _ _=>trivial));(case l7=>exact (aN aa));(case l9=>exact (bU ay));(case aL=>have:=b8.out;omega);intro aDf bq ho hb hg hat;rw [← ba.out] at ho;obtain ⟨a5,HB,bc⟩:=p_ (iT (g:=av) (o:=.cells #[.slice (some am) aI.length aH] 28) (au a5) hg (Kd.fD aa.out a5.out (by decide))) <| p_ (hb) <| a_ (ho);clear ho hb hg hat))
 go_roundg k1
 case measure=>have:=gG.out;omega
 case rel=>exact ⟨(b9),(wrap64 (a6+1)),bC,H',⟨oz⟩,⟨(aN bc)⟩,⟨(au a5)⟩,⟨ay⟩⟩

def zO.f (k:Nat) (a6:List (aF)) (a1:ByteArray):Option (Bool):=if a1.toList=([47]:List UInt8) then (some true) else ((rW.f k a6 a1).bind fun a5=>(if a5 ≥ 0 then (if 0≤a5 then (if a5 < (a6.length:Int) then (some ((aB a6 a5).f1)) else (none)) else (none)) else (some false)))
theorem zO.calls (k:Nat) (aa:Option Addr) (ab:Nat) (aI:List (aF)) (a1:ByteArray) (r:Bool) (w:World) (ae:Kd.C aS w aa aI.length aI) (af:aI.length≤ab) (h:zO.f k aI a1=some r) :
  Calls Tryz.prog 54 #[.agg #[.slice aa aI.length ab],.string a1] w fun e w'=>e=.returned (.bool r)∧Below w.heap.size w w':=by
 have nT:=underlying28;have lg:=m_ ae;have ag:=m_ af;clear ae af;have HB:=m_ (Below.refl w.heap.size w);unfold zO.f at h
 have H:=h;clear h;have am:=m_ H;clear H;go_enter func54,ntmps54
 go_upto_if 7 with (first|((with_reducible refine dJ 2 ?_);refine dO 2 (cs:=#[.slice aa aI.length ab]) 28 ?_;intro an hg w4 hbox hb;obtain ⟨HB,a5,ao,ap⟩:=jR ay hb hbox hg;clear hb hbox hg))
 (try simp only [fM])
 obtain ⟨H⟩:=am;revert H;refine eU (fun c5 H=>?_) fun c5 H=>?_
 ·have ac:=fU c5;have aH:=fV c5;clear c5;try simp only [aV,aZ,ac]
  obtain rfl:=bQ H;go_wp2
  go_ret
  exact ⟨bK,ay⟩
 have ac:=fZ c5;have aH:=f_ c5;try simp only [aV,aZ,ac]
 obtain ⟨a9,A6,H⟩:=bd_ H;revert H;refine fB (fun aO H=>?_) fun aO H=>?_;rotate_left
 ·obtain rfl:=bQ H;have Dc:=bZ a5.out;go_wp2_with (first|((with_reducible refine cu 13 ?_);refine cO (some 10) rfl rfl func13 aC rfl #[.agg #[.slice aa aI.length ab],.string a1] rfl bJ ?_;(with_reducible refine (rW.calls k _ _ aI a1 a9 _ qp ag.out A6.out).mono ?_);rintro e av ⟨rfl,hb⟩;refine ⟨_,rfl,?_⟩;obtain ⟨a5,HB⟩:=qA (au a5) ay hb;(try clear hb)))
  go_ret
  exact ⟨bK,ay⟩
 obtain ⟨ar,H⟩:=gI H;obtain ⟨aT,H⟩:=gI H;obtain rfl:=bQ H;have Xn:=bZ a5.out;go_wp2_with (first|((with_reducible refine cu 13 ?_);refine cO (some 10) rfl rfl func13 aC rfl #[.agg #[.slice aa aI.length ab],.string a1] rfl bJ ?_;(with_reducible refine (rW.calls k _ _ aI a1 a9 _ qp ag.out A6.out).mono ?_);rintro e aw ⟨rfl,hb⟩;refine ⟨_,rfl,?_⟩;obtain ⟨a5,HB⟩:=qA (au a5) ay hb;(try clear hb);have Ei:=bZ a5.out;have aK:0≤(a9:Int):=aX aY;have ai:a9 < (aI.length:Int):=aX aY;obtain ⟨aq,al,a6,a7,a8⟩:=jV lg.out a9 aK ai;cases al;replace a6:=fF HB.out a6;replace a7:=fF HB.out a7;replace a8:=fF HB.out a8;replace aK:=eq_true aK;replace ai:=eq_true ai))
 go_ret
 exact ⟨bK,ay⟩

mutual
def rC.j0:Nat→List ByteArray→Int→Bool→List (aF)→Option (Int)
 | 0,_,_,_,_=>none
 | k+1,x5,x6,a6,a5=>if a6=true then (some 0) else (if x6=0 then (rC.l0 k x5 1 a5) else (some x6))
def rC.l0:Nat→List ByteArray→Int→List (aF)→Option (Int)
 | 0,_,_,_=>none
 | k+1,x5,x7,a5=>if x7 < (x5.length:Int) then (if 0≤x7 then (if x7≤(x5.length:Int) then ((vk.f k (x5.take (x7:Int).toNat)).bind fun a6=>((rW.f k a5 a6).bind fun a7=>(if a7 < 0 then (some 3) else ((zO.f k a5 a6).bind fun a8=>(if a8=true then (rC.l0 k x5 (wrap64 (x7+1)) a5) else (some 4)))))) else (none)) else (none)) else (some 3)
end
def rC.f (k:Nat) (a6:List (aF)) (a1:ByteArray):Option (Int):=(jv.f k a1).bind fun a5=>(if a1.toList=([47]:List UInt8) then (rC.j0 k a5.1 a5.2 true a6) else ((rW.f k a6 a1).bind fun a7=>(rC.j0 k a5.1 a5.2 (decide (a7 ≥ 0)) a6)))
theorem rC.calls (k:Nat) (ae:Option Addr) (af:Nat) (aI:List (aF)) (a1:ByteArray) (r:Int) (w:World) (ao:Kd.C aS w ae aI.length aI) (ap:aI.length≤af) (h:rC.f k aI a1=some r) :
  Calls Tryz.prog 26 #[.agg #[.slice ae aI.length af],.string a1] w fun e w'=>e=.returned (ah r)∧Below w.heap.size w w':=by
 have nT:=underlying28;have lg:=m_ ao;have ai:=m_ ap;clear ao ap;have HB:=m_ (Below.refl w.heap.size w);unfold rC.f at h
 have H:=h;clear h;obtain ⟨⟨a6,ax⟩,A3,H⟩:=bd_ H;have ba:=m_ H;clear H;go_enter func26,ntmps26
 go_upto_region 2 with (first|((with_reducible refine dJ 2 ?_);refine dO 2 (cs:=#[.slice ae aI.length af]) 28 ?_;intro aq hg w5 hbox hb;obtain ⟨HB,a5,fA,dL⟩:=jR ay hb hbox hg;clear hb hbox hg)|((with_reducible refine cu 53 ?_);refine cO (some 11) rfl rfl func53 aC rfl #[.string a1] rfl bJ ?_;(with_reducible refine (jv.calls k a1 a6 ax _ A3.out).mono ?_);rintro e w6 ⟨ad4,rfl,ho0,hb⟩;refine ⟨_,rfl,?_⟩;obtain ⟨a9,a5,HB⟩:=p_ (Kd.dR ho0 (bU ay)) <| qA (au a5) ay hb;(try clear hb);(try clear ho0)))
 (try simp only [fM])
 go_cut [21] (fun v21 wc=>∃ (kq:Nat) (aK:Bool),v21=.bool aK∧aA (rC.j0 kq a6 ax aK aI=some r)∧aA (kq≤k)∧aA (Kd.R Kd.string 9 wc w.heap.size (fun _=>True) ad4 a6)∧aA (wc.heap[aq]?=some (.cells #[(.slice ae aI.length af)] 28))∧aA (Below w.heap.size w wc))
 case first =>
  obtain ⟨H⟩:=ba;revert H;refine eU (fun c7 H=>?_) fun c7 H=>?_
  ·have ag:=fU c7;have bD:=fV c7;clear c7;try simp only [aV,aZ,ag]
   have H':=m_ H;clear H;go_wp2
   go_meet
   case rel=>exact ⟨_,(true),bC,H',⟨lM⟩,⟨(aN a9)⟩,⟨(au a5)⟩,⟨ay⟩⟩
  have ag:=fZ c7;have bD:=f_ c7;try simp only [aV,aZ,ag]
  obtain ⟨b3,Ko,H⟩:=bd_ H;have H':=m_ H;clear H;have Ej:=bZ a5.out;go_wp2_with (first|(go_at_call 13;(with_reducible refine (rW.calls k _ _ aI a1 b3 _ qp ai.out Ko.out).mono ?_);rintro e bp ⟨rfl,hb⟩;obtain ⟨a9,a5,HB⟩:=p_ (Kd.bG (aN a9) hb) <| qA (au a5) ay hb;(try clear hb)))
  go_meet
  case rel=>exact ⟨_,(decide (b3 ≥ 0)),bC,H',⟨lM⟩,⟨(aN a9)⟩,⟨(au a5)⟩,⟨ay⟩⟩
 case rest =>
 clear ba;obtain ⟨kq,aK,rfl,HA,Ku,a7,a5,HB⟩:=hcut;cases kq with
 | zero=>exact absurd HA.out (by simp [rC.j0])
 | succ CB =>
 obtain ⟨H⟩:=HA;simp only [rC.j0] at H
 by_cases b4:aK=true
 ·subst b4;rw [if_pos rfl] at H;obtain rfl:=bQ H;go_wp2
  go_ret
  exact ⟨bK,ay⟩
 replace b4:=Bool.eq_false_iff.mpr b4;subst b4;rw [if_neg iF] at H;revert H;refine eU (fun ar H=>?_) fun ar H=>?_;rotate_left
 ·have aT:=fZ ar;have av:=f_ ar;obtain rfl:=bQ H;go_wp2
  go_ret
  exact ⟨bK,ay⟩
 have aT:=fU ar;have av:=fV ar;clear ar;have H':=m_ H;clear H;go_wp2
 go_loopg [7] CB (fun kq v7 w'=>∃ (a8:Int),v7=ah a8∧aA (rC.l0 kq a6 a8 aI=some r)∧aA (kq≤CB)∧aA (Kd.R Kd.string 9 w' w.heap.size (fun _=>True) ad4 a6)∧aA (w'.heap[aq]?=some (.cells #[(.slice ae aI.length af)] 28))∧aA (Below w.heap.size w w'))
 case atStart=>exact ⟨(1),bC,H',⟨Nat.le_refl _⟩,⟨(aN a7)⟩,⟨(au a5)⟩,⟨ay⟩⟩
 case round =>
 clear H';try clear b4;try clear ar;try clear aT;try clear av
 obtain ⟨a8,rfl,HA,kS,a7,a5,HB⟩:=hrel;cases gk with
 | zero=>exact absurd HA.out (by simp [rC.l0])
 | succ k2 =>
 obtain ⟨H⟩:=HA;simp only [rC.l0] at H
 have b5:=m_ H;clear H;obtain ⟨az,al,bb⟩:=Kd.dN a7.out;subst bb;go_upto_if 28 with (fail)
 obtain ⟨H⟩:=b5;revert H;refine fB (fun aa H=>?_) fun aa H=>?_;rotate_left
 ·try simp only [aV,aZ,aa]
  obtain rfl:=bQ H;go_wp2
  go_ret
  exact ⟨bK,ay⟩
 try simp only [aV,aZ,aa]
 obtain ⟨bh,bi,H⟩:=jF H;obtain ⟨bj,bl,H⟩:=jF H;obtain ⟨aH,aO⟩:∃ y_:List ByteArray,y_=(a6.take (a8:Int).toNat):=⟨_,rfl⟩;rw [← aO] at H;have aw:=m_ aO;clear aO;obtain ⟨ab,bm,H⟩:=bd_ H;obtain ⟨am,fG,H⟩:=bd_ H;have b6:=m_ H;clear H;have be:(a8:Int)≤((a6.length:Int):Int):=aX aY;obtain ⟨aCq,aaC,_,alO,_⟩:=info_parts info9;have aaN:a6.length≤al:=(Kd.dn a7.out).2.1;have Zk:Kd.C Kd.string _ az a6.length a6:=(Kd.dn a7.out).2.2;have agE:=EP (P:=Tryz.prog) 38 9 .i64 underlying38 aaC az a6.length al a8 (aX aY) be aaN;have Vz:=Kd.yx (m:=(a8:Int).toNat) Zk (by omega);have b0:aH.length=(a8:Int).toNat:=(by rw [aw.out,List.length_take];omega);rw [← aw.out] at Vz;rw [← b0] at agE;have ND:=m_ Vz;have b7:=m_ (show aH.length≤al from by omega);clear Vz Zk aaN aaC alO;have aqc:=m_ b0;clear b0;have ap':=m_ (show (a8:Int).toNat≤a6.length from by omega);replace be:=eq_true be;go_upto_if 38 with (first|((with_reducible refine cu 71 ?_);refine cO (some 34) rfl rfl func71 aC rfl #[.slice az aH.length al] rfl bJ ?_;(with_reducible refine (vk.calls k2 _ _ aH ab _ ?jW b7.out bm.out).mono ?_);(case jW=>repeat (first|exact WW|(with_reducible refine Kd.kM ?_ _)|(with_reducible refine Kd.kR ?_ _)|(with_reducible refine Kd.kQ ?_)));rintro e w' ⟨rfl,⟨nd,rfl⟩⟩;refine ⟨_,rfl,?_⟩;have apA:=bZ a5.out)|((with_reducible refine cu 13 ?_);refine cO (some 37) rfl rfl func13 aC rfl #[.agg #[.slice ae aI.length af],.string ab] rfl bJ ?_;(with_reducible refine (rW.calls k2 _ _ aI ab am _ ?jW ai.out fG.out).mono ?_);(case jW=>repeat (first|exact (Kd.qP lg.out ay)|(with_reducible refine Kd.kM ?_ _)|(with_reducible refine Kd.kR ?_ _)|(with_reducible refine Kd.kQ ?_)));rintro e bq ⟨rfl,hb⟩;refine ⟨_,rfl,?_⟩;obtain ⟨a7,a5,ND,HB⟩:=p_ (Kd.bG (aN a7) hb) <| p_ (aU (au a5) hb) <| p_ (Kd.qP WW hb) <| a_ (dV ay hb);(try clear hb)))
 (try simp only [fM])
 (try clear apA)
 obtain ⟨H⟩:=b6;revert H;refine fB (fun ac H=>?_) fun ac H=>?_
 ·try simp only [aV,aZ,ac]
  obtain rfl:=bQ H;go_wp2
  go_ret
  exact ⟨bK,ay⟩
 try simp only [aV,aZ,ac]
 obtain ⟨an,bo,H⟩:=bd_ H;have b8:=m_ H;clear H;have Xp:=bZ a5.out;go_upto_if 42 with (first|((with_reducible refine cu 54 ?_);refine cO (some 41) rfl rfl func54 aC rfl #[.agg #[.slice ae aI.length af],.string ab] rfl bJ ?_;(with_reducible refine (zO.calls k2 _ _ aI ab an _ qp ai.out bo.out).mono ?_);rintro e br ⟨rfl,hb⟩;refine ⟨_,rfl,?_⟩;obtain ⟨a7,a5,ND,HB⟩:=p_ (Kd.bG (aN a7) hb) <| p_ (aU (au a5) hb) <| p_ (Kd.qP WW hb) <| a_ (dV ay hb);(try clear hb)))
 (try simp only [fM])
 (try clear Xp)
 obtain ⟨H⟩:=b8;by_cases b9:an=true
 rotate_left
 ·replace b9:=Bool.eq_false_iff.mpr b9;subst b9;rw [if_neg iF] at H;obtain rfl:=bQ H;go_wp2
  go_ret
  exact ⟨bK,ay⟩
 subst b9;rw [if_pos rfl] at H;have H':=m_ H;clear H;go_wp2
 go_roundg k2
 case measure=>have:=Ku.out;have:=kS.out;omega
 case rel=>exact ⟨(wrap64 (a8+1)),bC,H',⟨(by have:=Ku.out;have:=kS.out;omega)⟩,⟨(aN a7)⟩,⟨(au a5)⟩,⟨ay⟩⟩

def rY.f (a5:List (aF)):Option ((List (aF))):=(some (([]:List (aF)):List (aF))).bind fun a6=>(if a6.length+a5.length < 3518437208883 then (some (a6++a5)) else (none))
theorem rY.calls (ab:Option Addr) (ac:Nat) (aI:List (aF)) (r:List (aF)) (w:World) (ae:Kd.C aS w ab aI.length aI) (af:aI.length≤ac) (h:rY.f aI=some r) :
  Calls Tryz.prog 73 #[.agg #[.slice ab aI.length ac]] w fun e w'=>∃ fC:Value,e=.returned (.agg #[fC])∧Kd.R aS 43 w' w.heap.size (fun _=>True) fC r∧Below w.heap.size w w':=by
 have nT:=underlying28;have lg:=m_ ae;have av:=m_ af;clear ae af;have HB:=m_ (Below.refl w.heap.size w);unfold rY.f at h
 have H:=h;clear h;obtain ⟨aH,ag,H⟩:=uX H;obtain ⟨c2,H⟩:=lT H;have ap:=m_ c2;clear c2;obtain ⟨aO,aa⟩:∃ y_:List (aF),y_=(aH++aI):=⟨_,rfl⟩;rw [← aa] at H;have al:=m_ aa;clear aa;obtain rfl:=bQ H;go_enter func73,ntmps73
 go_wp2_with (first|((with_reducible refine dJ 1 ?_);refine dO 1 (cs:=#[.slice ab aI.length ac]) 28 ?_;intro am hg w3 hbox hb;obtain ⟨HB,a5,aw,ax⟩:=jR ay hb hbox hg;clear hb hbox hg)|((with_reducible refine dJ 2 ?_);refine dO 2 (cs:=#[.slice none 0 0]) 28 ?_;intro aK hg w4 hbox hb;obtain ⟨a5,HB,a6,bD,az,a8,a9⟩:=oO (au a5) ay hb hbox hg;clear hb hbox hg)|((with_reducible refine dJ 3 ?_);refine Kd.AZ aS _ 43 ?hg (N:=3) ?hd (xs:=([]:List (aF))) (inner:=[]) (ok:=fun _=>True) (jG:=fun _=>True) ?hr ?hp (fun _ hk=>hk) trivial (Below.refl _ _) (Nat.le_refl _) (by simp) ?_;(case hd=>rfl);(case hg=>rfl);(case hr=>first|(go_simp;done)|(go_simp;rfl));(case hp=>exact (gu.none _ _));intro aoQ w5 vO hb mF mG;clear mF mG;(first|rw [← ag.out] at vO|(simp only [Int.reduceToNat] at vO;rw [← ag.out] at vO));obtain ⟨a7,a5,a6,HB⟩:=p_ (Kd.dR vO (bU ay)) <| Hl (au a5) (au a6) ay hb;clear hb vO;obtain ⟨an,ao⟩:=gy a8 a9;have y7:=bZ a5.out)|((with_reducible refine zu (b:=.append) (xs:=#[.tmp 3,.tmp 5]) rfl ?_);at_builtin;refine Kd.GK aS (w0:=w) w.heap.size rfl (.tmp 3) (.tmp 5) 26 43 (.agg #[(.string ⟨#[]⟩),(.bool false),(.string ⟨#[]⟩)]) 40 rfl underlying26 q_ rfl (by decide) (by omega) aoQ aH aI _ _ _ (fun _=>True) (fun _=>False) rfl rfl ?l7 ?aR (fun _ _ h=>h) (fun _ h=>h.elim) ?mX ?lZ ?l9 ?aL ?_;(case aR=>exact qp);(case lZ=>exact ay);(case mX=>exact (fun _ _=>trivial));(case l7=>exact (aN a7));(case l9=>exact (bU ay));(case aL=>have:=ap.out;omega);intro aDg w9 ho hb hg hat;rw [← al.out] at ho;obtain ⟨a5,a6,HB,ai⟩:=p_ (iT (g:=am) (o:=.cells #[.slice ab aI.length ac] 28) (au a5) hg (Kd.fD a7.out a5.out (by decide))) <| p_ (iT (g:=aK) (o:=.cells #[.slice none 0 0] 28) (au a6) hg (Kd.fD a7.out a6.out (by decide))) <| p_ (hb) <| a_ (ho);clear ho hb hg hat;obtain ⟨aq,ar,aT⟩:=Kd.dN ai.out;subst aT;have Nj:=bZ a6.out))
 refine bodyPost_ret (results_cell_row rfl _ _ aK 28 #[.slice aq aO.length ar] (0,0) _ rfl bf underlying28 rfl aC) rfl ?_;exact ⟨_,bK,(by (with_reducible repeat (first|apply Kd.bW|apply Kd.bY|apply Kd.bH));exact Kd.bF (aJ (Kd.bV ai.out a6.out (by decide))) (fun _ hk=>trivial)),ay⟩

def F6.f (a5:Int) (a8:ByteArray) (a9:ByteArray) (aa:Int) (ab:Int) (a6:ByteArray):Option (Bool):=(vC.f a5 1 11).bind fun a7=>(if a7=true then (some (decide ((a6.size:Int)≤200))) else (some false))
theorem F6.calls (a5:Int) (a7:ByteArray) (a8:ByteArray) (a9:Int) (aa:Int) (ab:ByteArray) (r:Bool) (w:World) (h:F6.f a5 a7 a8 a9 aa ab=some r) :
  Calls Tryz.prog 74 #[.agg #[ah a5,.string a7,.string a8,ah a9,ah aa,.string ab]] w fun e w'=>e=.returned (.bool r)∧Below w.heap.size w w':=by
 have Fb:=underlying45;have HB:=m_ (Below.refl w.heap.size w);unfold F6.f at h
 have H:=h;clear h;obtain ⟨ag,A2,H⟩:=bd_ H;by_cases c3:ag=true
 ·subst c3;rw [if_pos rfl] at H;obtain rfl:=bQ H;go_enter func74,ntmps74
  go_wp2_with (first|((with_reducible refine dJ 1 ?_);(try (refine r_ (by rfl) ?_;dsimp only));refine dO 1 (cs:=#[ah a5,.string a7,.string a8,ah a9,ah aa,.string ab]) 45 ?_;intro ac hg w4 hbox hb;obtain ⟨HB,a6,ae,af⟩:=jR ay hb hbox hg;clear hb hbox hg;have aK:=mg a6.out)|((with_reducible refine cu 98 ?_);refine cO (some 5) rfl rfl func98 aC rfl #[ah a5,ah 1,ah 11] rfl bJ ?_;(with_reducible refine (vC.calls a5 1 11 true _ A2.out).mono ?_);rintro e w' ⟨rfl,⟨nd,rfl⟩⟩;refine ⟨_,rfl,?_⟩))
  go_ret
  exact ⟨bK,ay⟩
 replace c3:=Bool.eq_false_iff.mpr c3;subst c3;rw [if_neg iF] at H;obtain rfl:=bQ H;go_enter func74,ntmps74
 go_wp2_with (first|((with_reducible refine dJ 1 ?_);(try (refine r_ (by rfl) ?_;dsimp only));refine dO 1 (cs:=#[ah a5,.string a7,.string a8,ah a9,ah aa,.string ab]) 45 ?_;intro ac hg w6 hbox hb;obtain ⟨HB,a6,ae,af⟩:=jR ay hb hbox hg;clear hb hbox hg;have ai:=mg a6.out)|((with_reducible refine cu 98 ?_);refine cO (some 5) rfl rfl func98 aC rfl #[ah a5,ah 1,ah 11] rfl bJ ?_;(with_reducible refine (vC.calls a5 1 11 false _ A2.out).mono ?_);rintro e w' ⟨rfl,⟨nd,rfl⟩⟩;refine ⟨_,rfl,?_⟩))
 go_ret
 exact ⟨bK,ay⟩

def oq.f (a0:Int):Option (Int × ByteArray × Int × Bool × List ByteArray):=some (a0,(⟨#[]⟩:ByteArray),0,false,([]:List ByteArray))
theorem oq.calls (a0:Int) (r1:Int) (r2:ByteArray) (r3:Int) (r4:Bool) (r5:List ByteArray) (w:World) (h:oq.f a0=some (r1,r2,r3,r4,r5)) :
  Calls Tryz.prog 75 #[ah a0] w fun e w'=>∃ ad3:Value,e=.returned (.agg #[ah r1,.string r2,ah r3,.bool r4,ad3])∧Kd.R Kd.string 9 w' w.heap.size (fun _=>True) ad3 r5∧Below w.heap.size w w':=by
 have wE:=underlying49;have HB:=m_ (Below.refl w.heap.size w);unfold oq.f at h
 have H:=h;clear h;simp only [gV] at H
 obtain ⟨rfl,rfl,rfl,rfl,rfl⟩:=H;go_enter func75,ntmps75
 go_wp2_with (first|((with_reducible refine dJ 2 ?_);refine dO 2 (cs:=#[ah 0,.string (⟨#[]⟩:ByteArray),ah 0,.bool false,.slice none 0 0]) 49 ?_;intro a5 hg w2 hbox hb;obtain ⟨HB,a6,a7,a8⟩:=jR ay hb hbox hg;clear hb hbox hg;have a9:=jc a6.out))
 refine bodyPost_ret (results_cell_row rfl _ _ a5 49 #[ah a0,.string (⟨#[]⟩:ByteArray),ah 0,.bool false,.slice none 0 0] (0,0) _ rfl bf underlying49 rfl aC) rfl ?_;exact ⟨_,bK,lH,ay⟩

def CX.f (k:Nat) (a5:List (aF)) (a1:ByteArray):Option (Int):=(jv.f k a1).bind fun a6=>(if a6.2=0 then (if a1.toList=([47]:List UInt8) then (some 6) else ((vT.f k a1).bind fun a7=>((rC.f k a5 a7).bind fun a8=>(if a8=0 then ((zO.f k a5 a7).bind fun a9=>(if a9=true then ((rW.f k a5 a1).bind fun aa=>(if aa ≥ 0 then (some 6) else ((ug.f k a5 a7).bind fun ab=>(if (ab.length:Int) ≥ 6 then (some 7) else (some 0))))) else (some 4))) else (some a8))))) else (some a6.2))
theorem CX.calls (k:Nat) (aa:Option Addr) (ab:Nat) (aI:List (aF)) (a1:ByteArray) (r:Int) (w:World) (aK:Kd.C aS w aa aI.length aI) (ai:aI.length≤ab) (h:CX.f k aI a1=some r) :
  Calls Tryz.prog 14 #[.agg #[.slice aa aI.length ab],.string a1] w fun e w'=>e=.returned (ah r)∧Below w.heap.size w w':=by
 have nT:=underlying28;have lg:=m_ aK;have ae:=m_ ai;clear aK ai;have HB:=m_ (Below.refl w.heap.size w);unfold CX.f at h
 have H:=h;clear h;obtain ⟨⟨b0,am⟩,A3,H⟩:=bd_ H;have b5:=m_ H;clear H;go_enter func14,ntmps14
 go_upto_if 14 with (first|((with_reducible refine dJ 2 ?_);refine dO 2 (cs:=#[.slice aa aI.length ab]) 28 ?_;intro b6 hg w5 hbox hb;obtain ⟨HB,a5,b7,b8⟩:=jR ay hb hbox hg;clear hb hbox hg)|((with_reducible refine cu 53 ?_);refine cO (some 10) rfl rfl func53 aC rfl #[.string a1] rfl bJ ?_;(with_reducible refine (jv.calls k a1 b0 am _ A3.out).mono ?_);rintro e w6 ⟨aDh,rfl,ho0,hb⟩;refine ⟨_,rfl,?_⟩;obtain ⟨a6,a5,HB⟩:=p_ (Kd.dR ho0 (bU ay)) <| qA (au a5) ay hb;(try clear hb);(try clear ho0)))
 (try simp only [fM])
 obtain ⟨H⟩:=b5;revert H;refine eU (fun c7 H=>?_) fun c7 H=>?_;rotate_left
 ·have af:=fZ c7;have b1:=f_ c7;try simp only [aV,aZ,af]
  obtain rfl:=bQ H;go_wp2
  go_ret
  exact ⟨bK,ay⟩
 have af:=fU c7;have b1:=fV c7;clear c7;try simp only [aV,aZ,af]
 revert H;refine eU (fun c8 H=>?_) fun c8 H=>?_
 ·have b2:=fU c8;have b3:=fV c8;clear c8;obtain rfl:=bQ H;go_wp2
  go_ret
  exact ⟨bK,ay⟩
 have b2:=fZ c8;have b3:=f_ c8;obtain ⟨ac,A9,H⟩:=bd_ H;obtain ⟨an,b9,H⟩:=bd_ H;have ao:=m_ H;clear H;go_upto_if 23 with (first|((with_reducible refine cu 51 ?_);refine cO (some 19) rfl rfl func51 aC rfl #[.string a1] rfl bJ ?_;(with_reducible refine (vT.calls k a1 ac _ A9.out).mono ?_);rintro e fA ⟨rfl,hb⟩;refine ⟨_,rfl,?_⟩;obtain ⟨a6,a5,HB⟩:=p_ (Kd.bG (aN a6) hb) <| qA (au a5) ay hb;(try clear hb);have Dc:=bZ a5.out)|((with_reducible refine cu 26 ?_);refine cO (some 22) rfl rfl func26 aC rfl #[.agg #[.slice aa aI.length ab],.string ac] rfl bJ ?_;(with_reducible refine (rC.calls k _ _ aI ac an _ qp ae.out b9.out).mono ?_);rintro e dL ⟨rfl,hb⟩;refine ⟨_,rfl,?_⟩;obtain ⟨a6,a5,HB⟩:=p_ (Kd.bG (aN a6) hb) <| qA (au a5) ay hb;(try clear hb)))
 (try simp only [fM])
 (try clear Dc)
 obtain ⟨H⟩:=ao;revert H;refine eU (fun aH H=>?_) fun aH H=>?_;rotate_left
 ·have a7:=fZ aH;have ap:=f_ aH;try simp only [aV,aZ,a7]
  obtain rfl:=bQ H;go_wp2
  go_ret
  exact ⟨bK,ay⟩
 have a7:=fU aH;have ap:=fV aH;clear aH;try simp only [aV,aZ,a7]
 obtain ⟨aq,ba,H⟩:=bd_ H;have ar:=m_ H;clear H;have J9:=bZ a5.out;go_upto_if 27 with (first|((with_reducible refine cu 54 ?_);refine cO (some 30) rfl rfl func54 aC rfl #[.agg #[.slice aa aI.length ab],.string ac] rfl bJ ?_;(with_reducible refine (zO.calls k _ _ aI ac aq _ qp ae.out ba.out).mono ?_);rintro e bh ⟨rfl,hb⟩;refine ⟨_,rfl,?_⟩;obtain ⟨a6,a5,HB⟩:=p_ (Kd.bG (aN a6) hb) <| qA (au a5) ay hb;(try clear hb)))
 (try simp only [fM])
 (try clear J9)
 obtain ⟨H⟩:=ar;by_cases az:aq=true
 rotate_left
 ·replace az:=Bool.eq_false_iff.mpr az;subst az;rw [if_neg iF] at H;obtain rfl:=bQ H;go_wp2
  go_ret
  exact ⟨bK,ay⟩
 subst az;rw [if_pos rfl] at H;obtain ⟨aT,bb,H⟩:=bd_ H;have av:=m_ H;clear H;have QK:=bZ a5.out;go_upto_if 32 with (first|((with_reducible refine cu 13 ?_);refine cO (some 35) rfl rfl func13 aC rfl #[.agg #[.slice aa aI.length ab],.string a1] rfl bJ ?_;(with_reducible refine (rW.calls k _ _ aI a1 aT _ qp ae.out bb.out).mono ?_);rintro e bi ⟨rfl,hb⟩;refine ⟨_,rfl,?_⟩;obtain ⟨a6,a5,HB⟩:=p_ (Kd.bG (aN a6) hb) <| qA (au a5) ay hb;(try clear hb)))
 (try simp only [fM])
 (try clear QK)
 obtain ⟨H⟩:=av;revert H;refine fB (fun a8 H=>?_) fun a8 H=>?_
 ·try simp only [aV,aZ,a8]
  obtain rfl:=bQ H;go_wp2
  go_ret
  exact ⟨bK,ay⟩
 try simp only [aV,aZ,a8]
 obtain ⟨ag,bc,H⟩:=bd_ H;have aw:=m_ H;clear H;have QL:=bZ a5.out;go_upto_if 37 with (first|((with_reducible refine cu 20 ?_);refine cO (some 40) rfl rfl func20 aC rfl #[.agg #[.slice aa aI.length ab],.string ac] rfl bJ ?_;(with_reducible refine (ug.calls k _ _ aI ac ag _ qp ae.out bc.out).mono ?_);rintro e bj ⟨aDi,rfl,ho0,hb⟩;refine ⟨_,rfl,?_⟩;obtain ⟨a6,ax,a5,HB⟩:=p_ (Kd.jP (aN a6) (Kd.iY ho0) hb) <| p_ (Kd.dR (Kd.jQ ho0 (Kd.jl (aN a6))) (bU ay)) <| qA (au a5) ay hb;(try clear hb);(try clear ho0);obtain ⟨bd,be,b4⟩:=Kd.dN ax.out;subst b4))
 (try simp only [fM])
 (try clear QL)
 obtain ⟨H⟩:=aw;revert H;refine eU (fun al H=>?_) fun al H=>?_
 ·have a9:=nJ al;have bD:decide (6≤ag.length)=true:=nJ (by omega);clear al;try simp only [aV,aZ,a9]
  obtain rfl:=bQ H;go_wp2
  go_ret
  exact ⟨bK,ay⟩
 have a9:=wQ al;have bD:decide (6≤ag.length)=false:=wQ (by omega);clear al;try simp only [aV,aZ,a9]
 obtain rfl:=bQ H;go_wp2
 go_ret
 exact ⟨bK,ay⟩

mutual
def jr.l0:Nat→Bool→Int→List (aF)→ByteArray→Bool→ByteArray→List (aF)→Option ((List (aF)))
 | 0,_,_,_,_,_,_,_=>none
 | k+1,x6,x7,a6,a7,a8,a9,a5=>if x7 < (a6.length:Int) then (if x6=true then (jr.j1 k x6 x7 false a6 a7 a8 a9 a5) else (if 0≤x7 then (jr.j1 k x6 x7 (Op.bytesLess a7.toList (((aB a6 x7).f0).toList)) a6 a7 a8 a9 a5) else (none))) else (if x6=true then (some a5) else (if a5.length < 3518437208883 then (some (a5++[(⟨a7,a8,a9⟩:aF)])) else (none)))
def jr.j1:Nat→Bool→Int→Bool→List (aF)→ByteArray→Bool→ByteArray→List (aF)→Option ((List (aF)))
 | 0,_,_,_,_,_,_,_,_=>none
 | k+1,x6,x7,ab,a5,a6,a7,a8,a9=>if ab=true then (if a9.length < 3518437208883 then ((some (a9++[(⟨a6,a7,a8⟩:aF)]:List (aF))).bind fun aa=>(if 0≤x7 then (if x7 < (a5.length:Int) then (if ((aB a5 x7).f0).toList=a6.toList then (jr.l0 k true (wrap64 (x7+1)) a5 a6 a7 a8 aa) else (if aa.length < 3518437208883 then (jr.l0 k true (wrap64 (x7+1)) a5 a6 a7 a8 (aa++[(⟨(aB a5 x7).f0,(aB a5 x7).f1,(aB a5 x7).f2⟩:aF)])) else (none))) else (none)) else (none))) else (none)) else (if 0≤x7 then (if x7 < (a5.length:Int) then (if ((aB a5 x7).f0).toList=a6.toList then (jr.l0 k x6 (wrap64 (x7+1)) a5 a6 a7 a8 a9) else (if a9.length < 3518437208883 then (jr.l0 k x6 (wrap64 (x7+1)) a5 a6 a7 a8 (a9++[(⟨(aB a5 x7).f0,(aB a5 x7).f1,(aB a5 x7).f2⟩:aF)])) else (none))) else (none)) else (none))
end
def jr.f (k:Nat) (a5:List (aF)) (a6:ByteArray) (a7:Bool) (a8:ByteArray):Option ((List (aF))):=jr.l0 k false 0 a5 a6 a7 a8 ([]:List (aF))
def jr.T6:Bool × List (List Nat × List Nat):=(true,[([],[]),([0],[0]),([1],[1]),([2],[2]),([3,2],[2,3]),([2],[2]),([4,5,2],[2,4,5]),([6,2],[2,6]),([7,2],[2,7]),([2],[2]),([9,2],[2,9]),([8,10,2],[2,8,10]),([2,11],[2,11])])
def jr.B6:List Nat:=[0,1,3,7,15,7,63,127,255,7,519,2047,4095]
theorem jr.tab6:kZ .any (opsOf Tryz.f90 6)=jr.T6:=by kernel_rfl
theorem jr.KO:vF jr.T6.2 jr.B6=true:=by kernel_rfl
def jr.T9:Bool × List (List Nat × List Nat):=(true,[([],[]),([0],[0]),([],[]),([1,2],[1,2]),([3],[3]),([4],[4]),([],[]),([6],[6]),([5,7],[5,7])])
def jr.B9:List Nat:=[0,1,0,7,15,31,0,64,255]
theorem jr.MR:kZ .any (opsOf Tryz.f90 9)=jr.T9:=by kernel_rfl
theorem jr.KP:vF jr.T9.2 jr.B9=true:=by kernel_rfl
def jr.T10:Bool × List (List Nat × List Nat):=(true,[([],[]),([0],[0]),([],[]),([2],[2]),([],[]),([3,4],[3,4]),([5],[5]),([6],[6]),([1,7],[1,7]),([0,1,2,3,4,5,6,7,8],[]),([9,8,8,0,1,2,3,4,5,6,7,8],[8,9])])
def jr.B10:List Nat:=[0,1,0,4,0,28,60,124,255,511,1023]
theorem jr.D9:kZ .any (opsOf Tryz.f90 10)=jr.T10:=by kernel_rfl
theorem jr.Du:vF jr.T10.2 jr.B10=true:=by kernel_rfl
theorem jr.calls (k:Nat) (cd:Option Addr) (b2:Nat) (aI:List (aF)) (iW:ByteArray) (iC:Bool) (iM:ByteArray) (r:List (aF)) (w:World) (cw:Kd.C aS w cd aI.length aI) (cx:aI.length≤b2) (h:jr.f k aI iW iC iM=some r) :
  Calls Tryz.prog 90 #[.agg #[.slice cd aI.length b2],.agg #[.string iW,.bool iC,.string iM]] w fun e w'=>∃ fC:Value,e=.returned (.agg #[fC])∧Kd.R aS 43 w' w.heap.size (fun _=>True) fC r∧Below w.heap.size w w':=by
 have nT:=underlying28;have tX:=underlying43;have lg:=m_ cw;have ep:=m_ cx;clear cw cx;have HB:=m_ (Below.refl w.heap.size w);unfold jr.f at h
 have H:=h;clear h;have H':=m_ H;clear H;go_enter func90,ntmps90
 go_wp2_with (first|((with_reducible refine dJ 2 ?_);refine dO 2 (cs:=#[.slice cd aI.length b2]) 28 ?_;intro b0 hg w3 hbox hb;obtain ⟨HB,a7,eq,er⟩:=jR ay hb hbox hg;clear hb hbox hg)|((with_reducible refine dJ 3 ?_);refine dO 3 (cs:=#[.string iW,.bool iC,.string iM]) 43 ?_;intro vH hg w4 hbox hb;obtain ⟨a7,HB,lI,es,et,fA,dL⟩:=oO (au a7) ay hb hbox hg;clear hb hbox hg)|((with_reducible refine dJ 4 ?_);refine dO 4 (cs:=#[.slice none 0 0]) 28 ?_;intro b3 hg w5 hbox hb;obtain ⟨a7,lI,HB,a9,tN,ev,bh,bi,bj,bl⟩:=rP (au a7) (au lI) ay hb hbox hg;clear hb hbox hg)|((with_reducible refine dJ 5 ?_);refine dO 5 (cs:=#[.slice none 0 0]) 28 ?_;intro ac hg w6 hbox hb;obtain ⟨a7,lI,a9,HB,a6,ew,ex,ae,af,ag,aK,ai,aH⟩:=zl (au a7) (au lI) (au a9) ay hb hbox hg;clear hb hbox hg;obtain ⟨aO,al,am,an,ao,ap⟩:=lU af ae aK ag aH ai;have Xn:=bZ a6.out))
 go_loopg [6,7] k (fun kq v6 v7 w'=>∃ (ca:Bool) (a8:Int) (aa:List (aF)) (yu:Value),v6=.bool ca∧v7=ah a8∧aA (jr.l0 kq ca a8 aI iW iC iM aa=some r)∧aA (kq≤k)∧aA (Kd.R aS 43 w' w.heap.size (fun ak=>ak≠vH) yu aa)∧aA (w'.heap[b0]?=some (.cells #[(.slice cd aI.length b2)] 28))∧aA (w'.heap[vH]?=some (.cells #[.string iW,.bool iC,.string iM] 43))∧aA (w'.heap[b3]?=some (.cells #[(.slice none 0 0)] 28))∧aA (w'.heap[ac]?=some (.cells #[yu] 28))∧aA (Below w.heap.size w w'))
 case atStart=>exact ⟨(false),(0),(([]:List (aF))),(.slice none 0 0),bC,bC,H',⟨Nat.le_refl _⟩,⟨lH⟩,⟨bf⟩,⟨bf⟩,⟨bf⟩,⟨bf⟩,⟨ay⟩⟩
 case round =>
 clear H';try clear Xn
 obtain ⟨ca,a8,aa,yu,rfl,rfl,HA,gG,a5,a7,lI,a9,a6,HB⟩:=hrel;cases gk with
 | zero=>exact absurd HA.out (by simp [jr.l0])
 | succ k1 =>
 obtain ⟨H⟩:=HA;simp only [jr.l0] at H
 have pF:=m_ H;clear H;obtain ⟨b4,b5,bs,bu⟩:=iD fA dL bh bi;have QH:=bZ a7.out;go_upto_if 13 with (fail)
 (try clear b4 bs al b5 an bu ap aO am ao)
 (try clear QH)
 obtain ⟨H⟩:=pF;revert H;refine fB (fun bx H=>?_) fun bx H=>?_;rotate_left
 ·try simp only [aV,aZ,bx]
  by_cases e4:ca=true
  ·subst e4;rw [if_pos rfl] at H;obtain rfl:=bQ H;obtain ⟨aO,al,am,an,ao,ap⟩:=lU af ae aK ag aH ai;have aEN:=bZ a6.out;obtain ⟨e6,e7,e8⟩:=Kd.dN a5.out;subst e8;obtain ⟨bu,bs,bv,bw⟩:=iD bi bh bl bj;have aEO:=bZ a9.out;go_wp2
   refine bodyPost_ret (results_cell_row rfl _ _ b3 28 #[.slice e6 aa.length e7] (0,0) _ rfl bf underlying28 rfl aC) rfl ?_;exact ⟨_,bK,(by (with_reducible repeat (first|apply Kd.bW|apply Kd.bY|apply Kd.bH));exact Kd.bF (aJ (Kd.bV a5.out a9.out (by decide))) (fun _ hk=>trivial)),ay⟩
  replace e4:=Bool.eq_false_iff.mpr e4;subst e4;rw [if_neg iF] at H;obtain ⟨ey,H⟩:=lT H;have di:=m_ ey;clear ey;obtain ⟨dj,cp⟩:∃ y_:List (aF),y_=(aa++[(⟨iW,iC,iM⟩:aF)]):=⟨_,rfl⟩;rw [← cp] at H;have dk:=m_ cp;clear cp;obtain rfl:=bQ H;obtain ⟨aO,al,am,an,ao,ap⟩:=lU af ae aK ag aH ai;have apL:=bZ a6.out;obtain ⟨b5,b4,bw,bv⟩:=iD dL fA bj bl;have fg:=qj lI.out;go_wp2_with (first|((with_reducible refine zu (b:=.append) (xs:=#[.tmp 57,.tmp 59]) rfl ?_);at_builtin;refine Kd.GI aS (w0:=w) w.heap.size rfl (.tmp 57) (.tmp 59) 26 43 (.agg #[(.string ⟨#[]⟩),(.bool false),(.string ⟨#[]⟩)]) 40 rfl underlying26 q_ rfl (by decide) (by omega) yu aa (⟨iW,iC,iM⟩:aF) [.string iW,.bool iC,.string iM] (fun ak=>ak≠vH) (fun _=>False) rfl rfl ?vM (fun _ hk=>hk.elim) ?mX ?l7 ?lZ ?l9 ?aL ?_;(case vM=>exact qU _ _ _ (⟨iW,iC,iM⟩:aF));(case lZ=>exact ay);(case mX=>exact Qy);(case l7=>exact (aN a5));(case l9=>exact (bU ay));(case aL=>have:=di.out;omega);intro aDj fm ho hb hg hat;rw [← dk.out] at ho;obtain ⟨a7,lI,a9,a6,HB,cy⟩:=p_ (iT (g:=b0) (o:=.cells #[.slice cd aI.length b2] 28) (au a7) hg (Kd.fD a5.out a7.out (by decide))) <| p_ (iT (g:=vH) (o:=.cells #[.string iW,.bool iC,.string iM] 43) (au lI) hg (Kd.sJ a5.out (fun _ hk=>hk))) <| p_ (iT (g:=b3) (o:=.cells #[.slice none 0 0] 28) (au a9) hg (Kd.fD a5.out a9.out (by decide))) <| p_ (iT (g:=ac) (o:=.cells #[yu] 28) (au a6) hg (Kd.fD a5.out a6.out (by decide))) <| p_ (hb) <| a_ (ho);clear ho hb hg hat;obtain ⟨e9,ea,eb⟩:=Kd.dN cy.out;subst eb;have apN:=bZ a6.out;obtain ⟨bu,bs⟩:=gy bi bh;have aEU:=bZ a9.out))
  refine bodyPost_ret (results_cell_row rfl _ _ b3 28 #[.slice e9 dj.length ea] (0,0) _ rfl bf underlying28 rfl aC) rfl ?_;exact ⟨_,bK,(by (with_reducible repeat (first|apply Kd.bW|apply Kd.bY|apply Kd.bH));exact Kd.bF (aJ (aJ (Kd.bV (Kd.bV cy.out a6.out (by decide)) a9.out (by decide)) (fun _ hk=>hk.1.2))) (fun _ hk=>trivial)),ay⟩
 try simp only [aV,aZ,bx]
 have d2:=m_ H;clear H;go_upto_region 6 with (fail)
 go_cut [28] (fun v28 wc=>∃ (kq:Nat) (cc:Bool),v28=.bool cc∧aA (jr.j1 kq ca a8 cc aI iW iC iM aa=some r)∧aA (kq≤k1)∧aA (Kd.R aS 43 wc w.heap.size (fun ak=>ak≠vH) yu aa)∧aA (wc.heap[b0]?=some (.cells #[(.slice cd aI.length b2)] 28))∧aA (wc.heap[vH]?=some (.cells #[.string iW,.bool iC,.string iM] 43))∧aA (wc.heap[b3]?=some (.cells #[(.slice none 0 0)] 28))∧aA (wc.heap[ac]?=some (.cells #[yu] 28))∧aA (Below w.heap.size w wc))
 case first =>
  obtain ⟨H⟩:=d2;by_cases dl:ca=true
  ·subst dl;rw [if_pos rfl] at H;have H':=m_ H;clear H;try go_wp2
   obtain ⟨a5,a7,lI,a9,a6,HB⟩:=p_ (Kd.bH a5.out) <| yG a7 lI a9 a6 HB;refine iU (n:=13) (S:=fun w'=>True) (ds:=[]) Dw aC rfl rfl trivial (fun hH=>?_);refine kF jr.tab6 jr.KO (fun aP fK=>?_);generalize wr.drew=fo at a5 a7 lI a9 a6 HB hH ⊢;refine bM 0 ?_;refine bM 1 ?_;refine bM 2 ?_;refine lN 3 ?_;refine lN 4 ?_;refine lN 5 ?_;refine lN 6 ?_;refine lN 7 ?_;refine lN 8 ?_;refine lN 9 ?_;refine lN 10 ?_;refine lN 11 ?_;refine bM 12 ?_;refine jd (kC aP.out aC) ?_;try go_wp2
   go_meet
   case rel=>exact ⟨_,(false),bC,H',⟨Qj⟩,⟨(aN a5)⟩,⟨(au a7)⟩,⟨(au lI)⟩,⟨(au a9)⟩,⟨(au a6)⟩,⟨ay⟩⟩
  replace dl:=Bool.eq_false_iff.mpr dl;subst dl;rw [if_neg iF] at H;obtain ⟨cq,H⟩:=gI H;try simp only [aV,aZ,cq]
  have H':=m_ H;clear H;try go_wp2
  obtain ⟨a5,a7,lI,a9,a6,HB⟩:=p_ (Kd.bH a5.out) <| yG a7 lI a9 a6 HB;have fE:0≤(a8:Int):=aX aY;have cv:a8 < (aI.length:Int):=aX aY;obtain ⟨bz,ed,b6,b7,b8⟩:=jV lg.out a8 fE cv;have cg:=b8;have ch:=b7;have ci:=b6;cases ed;replace b6:=fF HB.out b6;replace b7:=fF HB.out b7;replace b8:=fF HB.out b8;replace fE:=eq_true fE;replace cv:=eq_true cv;refine iU (n:=13) (S:=fun w'=>jE w' b0 (.slice (some bz) aI.length b2) <| Nl w' vH (.string iW) (.bool iC) (.string iM) <| uS w' (bz.add ((a8).toNat * 3)) (.string ((aB aI a8).f0)) (.bool ((aB aI a8).f1)) (.string ((aB aI a8).f2))) (ds:=[]) Dw aC rfl rfl ⟨(aQ a7.out 0).trans rfl,NY lI.out ⟨((HB.out.cell (World.block_lt_of_cell? w _ ci)).trans ci),((HB.out.cell (World.block_lt_of_cell? w _ ch)).trans ch),((HB.out.cell (World.block_lt_of_cell? w _ cg)).trans cg)⟩⟩ (fun hH=>?_);refine kF jr.tab6 jr.KO (fun aP fK=>?_);generalize wr.drew=fp at a5 a7 lI a9 a6 HB b6 b7 b8 hH ⊢;refine bM 0 ?_;refine bM 1 ?_;refine bM 2 ?_;refine bM 3 ?_;refine dF 5 21 #[aj,aj,aj,aj,F_,aj,F_,F_,F_,F_,F_,F_,F_] aP ?_;refine dF 9 25 #[aj,aj,aj,aj,F_,aj,F_,F_,F_,aj,F_,F_,F_] aP ?_;refine kE 4 hH ?_;refine bM 6 ?_;refine bM 7 ?_;refine kE 8 hH ?_;refine kE 10 hH ?_;refine bM 11 ?_;refine bM 12 ?_;refine jd (kC aP.out aC) ?_;try go_wp2
  go_meet
  case rel=>exact ⟨_,((Op.bytesLess iW.toList (((aB aI a8).f0).toList))),(by first|rfl|(simp;done)|exact congrArg Value.bool (Ac _ _)|exact congrArg Value.bool (Dv _ _)|(simp only [Value.bool.injEq];first|exact Ac _ _|exact Dv ..)|(simp [*];done)),H',⟨Qj⟩,⟨(aN a5)⟩,⟨(au a7)⟩,⟨(au lI)⟩,⟨(au a9)⟩,⟨(au a6)⟩,⟨ay⟩⟩
 case rest =>
 clear d2;try clear d1;try clear bx
 obtain ⟨kq,cc,rfl,HA,Dk,a5,a7,lI,a9,a6,HB⟩:=hcut;cases kq with
 | zero=>exact absurd HA.out (by simp [jr.j1])
 | succ PG =>
 obtain ⟨H⟩:=HA;simp only [jr.j1] at H
 by_cases e5:cc=true
 rotate_left
 ·replace e5:=Bool.eq_false_iff.mpr e5;subst e5;rw [if_neg iF] at H;obtain ⟨f3,H⟩:=gI H;obtain ⟨f7,H⟩:=gI H;have dm:=m_ H;clear H;try go_wp2
  obtain ⟨a5,a7,lI,a9,a6,HB⟩:=p_ (Kd.bH a5.out) <| yG a7 lI a9 a6 HB;have d3:0≤(a8:Int):=aX aY;have d4:a8 < (aI.length:Int):=aX aY;obtain ⟨aq,ee,b9,ba,bb⟩:=jV lg.out a8 d3 d4;have cj:=bb;have ck:=ba;have cl:=b9;cases ee;replace b9:=fF HB.out b9;replace ba:=fF HB.out ba;replace bb:=fF HB.out bb;replace d3:=eq_true d3;replace d4:=eq_true d4;refine iU (n:=9) (S:=fun w'=>jE w' b0 (.slice (some aq) aI.length b2) <| Nl w' vH (.string iW) (.bool iC) (.string iM) <| uS w' (aq.add ((a8).toNat * 3)) (.string ((aB aI a8).f0)) (.bool ((aB aI a8).f1)) (.string ((aB aI a8).f2))) (ds:=[]) KR aC rfl rfl ⟨(aQ a7.out 0).trans rfl,NY lI.out ⟨((HB.out.cell (World.block_lt_of_cell? w _ cl)).trans cl),((HB.out.cell (World.block_lt_of_cell? w _ ck)).trans ck),((HB.out.cell (World.block_lt_of_cell? w _ cj)).trans cj)⟩⟩ (fun hH=>?_);refine kF jr.MR jr.KP (fun aP fK=>?_);generalize wc.drew=fh at a5 a7 lI a9 a6 HB b9 ba bb hH ⊢;refine bM 0 ?_;refine bM 2 ?_;refine bM 6 ?_;refine kE 1 hH ?_;refine bM 3 ?_;refine bM 4 ?_;refine kE 5 hH ?_;refine kE 7 hH ?_;refine bM 8 ?_;refine jd (kC aP.out aC) ?_;go_upto_if 43 with (fail)
  (try clear b9 ba bb)
  obtain ⟨H⟩:=dm;revert H;refine eU (fun d5 H=>?_) fun d5 H=>?_
  ·have ce:=fU d5;have lJ:=fV d5;clear d5;try simp only [aV,aZ,ce]
   have H':=m_ H;clear H;go_wp2
   go_roundg PG
   case measure=>have:=gG.out;have:=Dk.out;omega
   case rel=>exact ⟨(ca),(wrap64 (a8+1)),(aa),(yu),bC,bC,H',⟨(by have:=gG.out;have:=Dk.out;omega)⟩,⟨(aN a5)⟩,⟨(au a7)⟩,⟨(au lI)⟩,⟨(au a9)⟩,⟨(au a6)⟩,⟨ay⟩⟩
  have ce:=fZ d5;have lJ:=f_ d5;try simp only [aV,aZ,ce]
  obtain ⟨f8,H⟩:=lT H;have dp:=m_ f8;clear f8;obtain ⟨d6,cr⟩:∃ y_:List (aF),y_=(aa++[(⟨(aB aI a8).f0,(aB aI a8).f1,(aB aI a8).f2⟩:aF)]):=⟨_,rfl⟩;rw [← cr] at H;have dq:=m_ cr;clear cr;have H':=m_ H;clear H;try go_wp2
  obtain ⟨a5,a7,lI,a9,a6,HB⟩:=p_ (Kd.bH a5.out) <| yG a7 lI a9 a6 HB;have d7:0≤(a8:Int):=aX aY;have d8:a8 < (aI.length:Int):=aX aY;obtain ⟨dr,ef,bm,fG,bo⟩:=jV lg.out a8 d7 d8;have ar:=bo;have aT:=fG;have av:=bm;obtain rfl:aq=dr:=(by injection ef);replace bm:=fF HB.out bm;replace fG:=fF HB.out fG;replace bo:=fF HB.out bo;replace d7:=eq_true d7;replace d8:=eq_true d8;refine iU (n:=11) (S:=fun w'=>jE w' ac (yu) <| jE w' b0 (.slice (some aq) aI.length b2) <| uS w' (aq.add ((a8).toNat * 3)) (.string ((aB aI a8).f0)) (.bool ((aB aI a8).f1)) (.string ((aB aI a8).f2))) (ds:=[10]) EK aC rfl rfl ⟨(aQ a6.out 0).trans rfl,(aQ a7.out 0).trans rfl,((HB.out.cell (World.block_lt_of_cell? w _ av)).trans av),((HB.out.cell (World.block_lt_of_cell? w _ aT)).trans aT),((HB.out.cell (World.block_lt_of_cell? w _ ar)).trans ar)⟩ (fun hH=>?_);refine kF jr.D9 jr.Du (fun aP fK=>?_);generalize fh.drew=ft at a5 a7 lI a9 a6 HB bm fG bo hH ⊢;refine bM 0 ?_;refine bM 2 ?_;refine bM 4 ?_;refine kE 1 hH ?_;refine kE 3 hH ?_;refine bM 5 ?_;refine kE 6 hH ?_;refine oH 7 (fun K hK=>?_);refine Xd (w1:=?_) (v:=?_) (by rfl) rfl ?_ ?_;rotate_left 2
  ·go_simp
   constructor
   ·rfl
   ·rfl
  refine hK.out _ _ ⟨(aQ (eP a6.out _) 0).trans rfl,(aQ (eP a7.out _) 0).trans rfl,(World.cell?_alloc_lt _ _ _ (World.block_lt_of_cell? _ _ (((HB.out.cell (World.block_lt_of_cell? w _ av)).trans av)))).trans (((HB.out.cell (World.block_lt_of_cell? w _ av)).trans av)),(World.cell?_alloc_lt _ _ _ (World.block_lt_of_cell? _ _ (((HB.out.cell (World.block_lt_of_cell? w _ aT)).trans aT)))).trans (((HB.out.cell (World.block_lt_of_cell? w _ aT)).trans aT)),(World.cell?_alloc_lt _ _ _ (World.block_lt_of_cell? _ _ (((HB.out.cell (World.block_lt_of_cell? w _ ar)).trans ar)))).trans (((HB.out.cell (World.block_lt_of_cell? w _ ar)).trans ar))⟩ (fun hH=>?_);clear hK K;refine gY (some 51) ?_;refine oH 8 (fun K hK=>?_);refine Kd.Ro aS (w0:=w) w.heap.size (by rfl) (.tmp 45) (.tmp 51) 26 43 (.agg #[(.string ⟨#[]⟩),(.bool false),(.string ⟨#[]⟩)]) 40 rfl underlying26 q_ rfl (by decide) (by omega) yu aa (⟨(aB aI a8).f0,(aB aI a8).f1,(aB aI a8).f2⟩:aF) [.string ((aB aI a8).f0),.bool ((aB aI a8).f1),.string ((aB aI a8).f2)] (fun ak=>ak≠vH) (fun _=>False) rfl rfl ?vM (fun _ hk=>hk.elim) ?mX ?l7 ?lZ ?l9 ?aL ?_;(case vM=>exact qU _ _ _ (⟨(aB aI a8).f0,(aB aI a8).f1,(aB aI a8).f2⟩:aF))
  (case lZ=>exact ay)
  (case mX=>exact Qy)
  (case l7=>exact (aN a5))
  (case l9=>exact (bU ay))
  (case aL=>have:=dp.out;omega)
  intro aDm fi ho hb hg hat;rw [← dq.out] at ho;obtain ⟨a7,lI,a9,a6,HB,cz⟩:=p_ (iT (g:=b0) (o:=.cells #[.slice (some aq) aI.length b2] 28) (au a7) hg (Kd.fD a5.out a7.out (by decide))) <| p_ (iT (g:=vH) (o:=.cells #[.string iW,.bool iC,.string iM] 43) (au lI) hg (Kd.sJ a5.out (fun _ hk=>hk))) <| p_ (iT (g:=b3) (o:=.cells #[.slice none 0 0] 28) (au a9) hg (Kd.fD a5.out a9.out (by decide))) <| p_ (iT (g:=ac) (o:=.cells #[yu] 28) (au a6) hg (Kd.fD a5.out a6.out (by decide))) <| p_ (hb) <| a_ (ho);clear ho hb hg hat;obtain ⟨eh,ei,dt⟩:=Kd.dN cz.out;(first|subst dt|(injection dt with eu iE eF;have iJ:=eu.symm;have iK:=eF.symm;clear eu iE eF;subst iJ;subst iK))
  refine hK.out _ _ ⟨(aQ a6.out 0).trans rfl,(aQ a7.out 0).trans rfl,((HB.out.cell (World.block_lt_of_cell? w _ av)).trans av),((HB.out.cell (World.block_lt_of_cell? w _ aT)).trans aT),((HB.out.cell (World.block_lt_of_cell? w _ ar)).trans ar)⟩ (fun hH=>?_);clear hK K;refine gY (some 52) ?_;refine bM 9 ?_;refine zI 10 (fun K hK=>?_);have aBW:fi.cell? ⟨ac,0,none⟩=some (yu):=(aQ a6.out 0).trans rfl;have av2:=cZ a6.out 0;obtain ⟨al,an,ap,aO,am,ao⟩:=lU ae ag ai af aK aH;refine jD (w1:=?_) (by rfl) rfl ?_ ?_;rotate_left
  ·go_simp
   rfl
  refine hK.out _ _ ?_;clear hK K;refine jd (kC aP.out aC) ?_;try go_wp2
  go_roundg PG
  case measure=>have:=gG.out;have:=Dk.out;omega
  case rel=>exact ⟨(ca),(wrap64 (a8+1)),(d6),(.slice eh d6.length ei),bC,bC,H',⟨(by have:=gG.out;have:=Dk.out;omega)⟩,⟨(by (with_reducible repeat (first|apply Kd.bW|apply Kd.bY|apply Kd.bH));exact Kd.bF (aJ (Kd.bV cz.out a6.out (by decide))) (fun _ hk=>hk.1))⟩,⟨bf⟩,⟨bf⟩,⟨bf⟩,⟨bf⟩,⟨ay⟩⟩
 subst e5;rw [if_pos rfl] at H;obtain ⟨fa,H⟩:=lT H;have du:=m_ fa;clear fa;obtain ⟨b1,dv,H⟩:=uX H;obtain ⟨fc,H⟩:=gI H;obtain ⟨fe,H⟩:=gI H;have lC:=m_ H;clear H;obtain ⟨aO,al,am,an,ao,ap⟩:=lU af ae aK ag aH ai;have QM:=bZ a6.out;obtain ⟨b5,b4,bw,bv⟩:=iD dL fA bj bl;have ej:=qj lI.out;try go_wp2_with (first|((with_reducible refine zu (b:=.append) (xs:=#[.tmp 30,.tmp 32]) rfl ?_);at_builtin;refine Kd.GI aS (w0:=w) w.heap.size rfl (.tmp 30) (.tmp 32) 26 43 (.agg #[(.string ⟨#[]⟩),(.bool false),(.string ⟨#[]⟩)]) 40 rfl underlying26 q_ rfl (by decide) (by omega) yu aa (⟨iW,iC,iM⟩:aF) [.string iW,.bool iC,.string iM] (fun ak=>ak≠vH) (fun _=>False) rfl rfl ?vM (fun _ hk=>hk.elim) ?mX ?l7 ?lZ ?l9 ?aL ?_;(case vM=>exact qU _ _ _ (⟨iW,iC,iM⟩:aF));(case lZ=>exact ay);(case mX=>exact Qy);(case l7=>exact (aN a5));(case l9=>exact (bU ay));(case aL=>have:=du.out;omega);intro aDk d9 ho hb hg hat;rw [← dv.out] at ho;obtain ⟨a7,lI,a9,a6,HB,ab⟩:=p_ (iT (g:=b0) (o:=.cells #[.slice cd aI.length b2] 28) (au a7) hg (Kd.fD a5.out a7.out (by decide))) <| p_ (iT (g:=vH) (o:=.cells #[.string iW,.bool iC,.string iM] 43) (au lI) hg (Kd.sJ a5.out (fun _ hk=>hk))) <| p_ (iT (g:=b3) (o:=.cells #[.slice none 0 0] 28) (au a9) hg (Kd.fD a5.out a9.out (by decide))) <| p_ (iT (g:=ac) (o:=.cells #[yu] 28) (au a6) hg (Kd.fD a5.out a6.out (by decide))) <| p_ (hb) <| a_ (ho);clear ho hb hg hat;obtain ⟨kG,kH,ek⟩:=Kd.dN ab.out;subst ek;have apE:=bZ a6.out))
 have dH:aA (Kd.R aS 43 (d9.setCell ⟨ac,0,none⟩ (.slice kG b1.length kH)) w.heap.size (fun ak=>ak≠vH) (.slice kG b1.length kH) b1):=⟨(by (with_reducible repeat (first|apply Kd.bW|apply Kd.bY|apply Kd.bH));exact Kd.bF (aJ (Kd.bV ab.out a6.out (by decide))) (fun _ hk=>hk.1))⟩;have ng:aA ((d9.setCell ⟨ac,0,none⟩ (.slice kG b1.length kH)).heap[b0]?=some (.cells #[.slice cd aI.length b2] 28)):=⟨bf⟩;have ni:aA ((d9.setCell ⟨ac,0,none⟩ (.slice kG b1.length kH)).heap[vH]?=some (.cells #[.string iW,.bool iC,.string iM] 43)):=⟨bf⟩;have ny:aA ((d9.setCell ⟨ac,0,none⟩ (.slice kG b1.length kH)).heap[b3]?=some (.cells #[.slice none 0 0] 28)):=⟨bf⟩;have nC:aA ((d9.setCell ⟨ac,0,none⟩ (.slice kG b1.length kH)).heap[ac]?=some (.cells #[.slice kG b1.length kH] 28)):=⟨bf⟩;have nD:aA (Below w.heap.size w (d9.setCell ⟨ac,0,none⟩ (.slice kG b1.length kH))):=⟨ay⟩;(try clear ab)
 (try clear a7)
 (try clear lI)
 (try clear a9)
 (try clear a6)
 (try clear HB)
 generalize (d9.setCell ⟨ac,0,none⟩ (.slice kG b1.length kH))=fj at dH ng ni ny nC nD ⊢;have ab:=dH;have a7:=ng;have lI:=ni;have a9:=ny;have a6:=nC;have HB:=nD;clear dH ng ni ny nC nD;obtain ⟨ab,a7,lI,a9,a6,HB⟩:=p_ (Kd.bH ab.out) <| yG a7 lI a9 a6 HB;have da:0≤(a8:Int):=aX aY;have db:a8 < (aI.length:Int):=aX aY;obtain ⟨aw,el,bc,bd,be⟩:=jV lg.out a8 da db;have cm:=be;have cn:=bd;have co:=bc;cases el;replace bc:=fF HB.out bc;replace bd:=fF HB.out bd;replace be:=fF HB.out be;replace da:=eq_true da;replace db:=eq_true db;refine iU (n:=9) (S:=fun w'=>jE w' b0 (.slice (some aw) aI.length b2) <| Nl w' vH (.string iW) (.bool iC) (.string iM) <| uS w' (aw.add ((a8).toNat * 3)) (.string ((aB aI a8).f0)) (.bool ((aB aI a8).f1)) (.string ((aB aI a8).f2))) (ds:=[]) KR aC rfl rfl ⟨(aQ a7.out 0).trans rfl,NY lI.out ⟨((HB.out.cell (World.block_lt_of_cell? w _ co)).trans co),((HB.out.cell (World.block_lt_of_cell? w _ cn)).trans cn),((HB.out.cell (World.block_lt_of_cell? w _ cm)).trans cm)⟩⟩ (fun hH=>?_);refine kF jr.MR jr.KP (fun aP fK=>?_);generalize fj.drew=fk at ab a7 lI a9 a6 HB bc bd be hH ⊢;refine bM 0 ?_;refine bM 2 ?_;refine bM 6 ?_;refine kE 1 hH ?_;refine bM 3 ?_;refine bM 4 ?_;refine kE 5 hH ?_;refine kE 7 hH ?_;refine bM 8 ?_;refine jd (kC aP.out aC) ?_;go_upto_if 43 with (fail)
 (try clear b4 al b5 bw an bv ap aO am ao)
 (try clear ej)
 (try clear bc bd be)
 obtain ⟨H⟩:=lC;revert H;refine eU (fun dd H=>?_) fun dd H=>?_
 ·have cf:=fU dd;have dx:=fV dd;clear dd;try simp only [aV,aZ,cf]
  have H':=m_ H;clear H;go_wp2
  go_roundg PG
  case measure=>have:=gG.out;have:=Dk.out;omega
  case rel=>exact ⟨(true),(wrap64 (a8+1)),(b1),(.slice kG b1.length kH),bC,bC,H',⟨(by have:=gG.out;have:=Dk.out;omega)⟩,⟨(aN ab)⟩,⟨(au a7)⟩,⟨(au lI)⟩,⟨(au a9)⟩,⟨(au a6)⟩,⟨ay⟩⟩
 have cf:=fZ dd;have dx:=f_ dd;try simp only [aV,aZ,cf]
 obtain ⟨ff,H⟩:=lT H;have dy:=m_ ff;clear ff;obtain ⟨de,ct⟩:∃ y_:List (aF),y_=(b1++[(⟨(aB aI a8).f0,(aB aI a8).f1,(aB aI a8).f2⟩:aF)]):=⟨_,rfl⟩;rw [← ct] at H;have dz:=m_ ct;clear ct;have H':=m_ H;clear H;try go_wp2
 obtain ⟨ab,a7,lI,a9,a6,HB⟩:=p_ (Kd.bH ab.out) <| yG a7 lI a9 a6 HB;have df:0≤(a8:Int):=aX aY;have dg:a8 < (aI.length:Int):=aX aY;obtain ⟨e0,em,bp,bq,br⟩:=jV lg.out a8 df dg;have ax:=br;have bD:=bq;have az:=bp;obtain rfl:aw=e0:=(by injection em);replace bp:=fF HB.out bp;replace bq:=fF HB.out bq;replace br:=fF HB.out br;replace df:=eq_true df;replace dg:=eq_true dg;refine iU (n:=11) (S:=fun w'=>jE w' ac (.slice kG b1.length kH) <| jE w' b0 (.slice (some aw) aI.length b2) <| uS w' (aw.add ((a8).toNat * 3)) (.string ((aB aI a8).f0)) (.bool ((aB aI a8).f1)) (.string ((aB aI a8).f2))) (ds:=[10]) EK aC rfl rfl ⟨(aQ a6.out 0).trans rfl,(aQ a7.out 0).trans rfl,((HB.out.cell (World.block_lt_of_cell? w _ az)).trans az),((HB.out.cell (World.block_lt_of_cell? w _ bD)).trans bD),((HB.out.cell (World.block_lt_of_cell? w _ ax)).trans ax)⟩ (fun hH=>?_);refine kF jr.D9 jr.Du (fun aP fK=>?_);generalize fk.drew=fu at ab a7 lI a9 a6 HB bp bq br hH ⊢;refine bM 0 ?_;refine bM 2 ?_;refine bM 4 ?_;refine kE 1 hH ?_;refine kE 3 hH ?_;refine bM 5 ?_;refine kE 6 hH ?_;refine oH 7 (fun K hK=>?_);refine Xd (w1:=?_) (v:=?_) (by rfl) rfl ?_ ?_;rotate_left 2
 ·go_simp
  constructor
  ·rfl
  ·rfl
 refine hK.out _ _ ⟨(aQ (eP a6.out _) 0).trans rfl,(aQ (eP a7.out _) 0).trans rfl,(World.cell?_alloc_lt _ _ _ (World.block_lt_of_cell? _ _ (((HB.out.cell (World.block_lt_of_cell? w _ az)).trans az)))).trans (((HB.out.cell (World.block_lt_of_cell? w _ az)).trans az)),(World.cell?_alloc_lt _ _ _ (World.block_lt_of_cell? _ _ (((HB.out.cell (World.block_lt_of_cell? w _ bD)).trans bD)))).trans (((HB.out.cell (World.block_lt_of_cell? w _ bD)).trans bD)),(World.cell?_alloc_lt _ _ _ (World.block_lt_of_cell? _ _ (((HB.out.cell (World.block_lt_of_cell? w _ ax)).trans ax)))).trans (((HB.out.cell (World.block_lt_of_cell? w _ ax)).trans ax))⟩ (fun hH=>?_);clear hK K;refine gY (some 51) ?_;refine oH 8 (fun K hK=>?_);refine Kd.Ro aS (w0:=w) w.heap.size (by rfl) (.tmp 45) (.tmp 51) 26 43 (.agg #[(.string ⟨#[]⟩),(.bool false),(.string ⟨#[]⟩)]) 40 rfl underlying26 q_ rfl (by decide) (by omega) (.slice kG b1.length kH) b1 (⟨(aB aI a8).f0,(aB aI a8).f1,(aB aI a8).f2⟩:aF) [.string ((aB aI a8).f0),.bool ((aB aI a8).f1),.string ((aB aI a8).f2)] (fun ak=>ak≠vH) (fun _=>False) rfl rfl ?vM (fun _ hk=>hk.elim) ?mX ?l7 ?lZ ?l9 ?aL ?_;(case vM=>exact qU _ _ _ (⟨(aB aI a8).f0,(aB aI a8).f1,(aB aI a8).f2⟩:aF))
 (case lZ=>exact ay)
 (case mX=>exact Qy)
 (case l7=>exact (aN ab))
 (case l9=>exact (bU ay))
 (case aL=>have:=dy.out;omega)
 intro aDl fl ho hb hg hat;rw [← dz.out] at ho;obtain ⟨a7,lI,a9,a6,HB,d0⟩:=p_ (iT (g:=b0) (o:=.cells #[.slice (some aw) aI.length b2] 28) (au a7) hg (Kd.fD ab.out a7.out (by decide))) <| p_ (iT (g:=vH) (o:=.cells #[.string iW,.bool iC,.string iM] 43) (au lI) hg (Kd.sJ ab.out (fun _ hk=>hk))) <| p_ (iT (g:=b3) (o:=.cells #[.slice none 0 0] 28) (au a9) hg (Kd.fD ab.out a9.out (by decide))) <| p_ (iT (g:=ac) (o:=.cells #[.slice kG b1.length kH] 28) (au a6) hg (Kd.fD ab.out a6.out (by decide))) <| p_ (hb) <| a_ (ho);clear ho hb hg hat;obtain ⟨en,eo,e3⟩:=Kd.dN d0.out;(first|subst e3|(injection e3 with eu iE eF;have iJ:=eu.symm;have iK:=eF.symm;clear eu iE eF;subst iJ;subst iK))
 refine hK.out _ _ ⟨(aQ a6.out 0).trans rfl,(aQ a7.out 0).trans rfl,((HB.out.cell (World.block_lt_of_cell? w _ az)).trans az),((HB.out.cell (World.block_lt_of_cell? w _ bD)).trans bD),((HB.out.cell (World.block_lt_of_cell? w _ ax)).trans ax)⟩ (fun hH=>?_);clear hK K;refine gY (some 52) ?_;refine bM 9 ?_;refine zI 10 (fun K hK=>?_);have aaR:fl.cell? ⟨ac,0,none⟩=some (.slice kG b1.length kH):=(aQ a6.out 0).trans rfl;have Z8:=cZ a6.out 0;refine jD (w1:=?_) (by rfl) rfl ?_ ?_;rotate_left
 ·go_simp
  rfl
 refine hK.out _ _ ?_;clear hK K;refine jd (kC aP.out aC) ?_;try go_wp2
 go_roundg PG
 case measure=>have:=gG.out;have:=Dk.out;omega
 case rel=>exact ⟨(true),(wrap64 (a8+1)),(de),(.slice en de.length eo),bC,bC,H',⟨(by have:=gG.out;have:=Dk.out;omega)⟩,⟨(by (with_reducible repeat (first|apply Kd.bW|apply Kd.bY|apply Kd.bH));exact Kd.bF (aJ (Kd.bV d0.out a6.out (by decide))) (fun _ hk=>hk.1))⟩,⟨bf⟩,⟨bf⟩,⟨bf⟩,⟨bf⟩,⟨ay⟩⟩

end Go.Proofs.YthejdhjpbpamoaaGreatDoor.pU
