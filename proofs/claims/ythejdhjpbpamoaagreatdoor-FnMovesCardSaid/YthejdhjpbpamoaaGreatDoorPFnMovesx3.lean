/- Contracts of Go functions: each call returns what the Lean function beside it computes. Conditions: as each theorem states them. -/
import Derived.Test.YthejdhjpbpamoaaGreatDoorPkFnMoves
import Derived.Test.YthejdhjpbpamoaaGreatDoorPFnMovesx1
namespace Go.Proofs.YthejdhjpbpamoaaGreatDoor.jM
open Go.RowKit Go.Proofs.YthejdhjpbpamoaaGreatDoorW.iK Go.Proofs.YthejdhjpbpamoaaGreatDoorW.lX Go.Proofs.YthejdhjpbpamoaaGreatDoorW.oV Go.Proofs.Tryz
attribute [local go_sem] qI qM qL qP qK qO qJ qN   -- for this text's walks alone
set_option linter.unusedVariables false
set_option maxHeartbeats 8000000
set_option maxRecDepth 100000
set_option linter.unusedSimpArgs false

def mZ.f (a0:Int) (a1:Int) (a2:Int):Option (Bool):=if a0 ≥ a1 then (some (decide (a0≤a2))) else (some false)
theorem mZ.calls (a0:Int) (a1:Int) (a2:Int) (r:Bool) (w:World) (h:mZ.f a0 a1 a2=some r) :
  Calls Tryz.prog 98 #[ah a0,ah a1,ah a2] w fun e w'=>e=.returned (.bool r)∧nH w w':=by
 unfold mZ.f at h
 have H:=h
 clear h
 revert H;refine gI (fun a5 H=>?_) fun a5 H=>?_
 ·obtain rfl:=cZ H
  go_enter func98,ntmps98
  go_wp2
  go_ret
  exact ⟨bg,jS⟩
 obtain rfl:=cZ H
 go_enter func98,ntmps98
 go_wp2
 go_ret
 exact ⟨bg,jS⟩

mutual
def jm.j0:Nat→ByteArray→List ByteArray→Bool→Option (List ByteArray × Int)
 | 0,_,_,_=>none
 | k+1,x0,x4,a5=>if a5=true then (some (x4,1)) else (if x0.toList=([47]:List UInt8) then (some (x4,0)) else (jm.l0 k x0 x4 (([]:List ByteArray)) false 1 1))
def jm.l0:Nat→ByteArray→List ByteArray→List ByteArray→Bool→Int→Int→Option (List ByteArray × Int)
 | 0,_,_,_,_,_,_=>none
 | k+1,x0,x4,x5,x6,x7,h_=>if h_≤(x0.size:Int) then (if h_ < (x0.size:Int) then (if 0≤h_ then (jm.j2 k x0 x4 x5 x6 x7 h_ ((bt x0 h_) != 47)) else (none)) else (jm.j2 k x0 x4 x5 x6 x7 h_ false)) else (if x6=true then (some (x4,2)) else (some (x5,0)))
def jm.j2:Nat→ByteArray→List ByteArray→List ByteArray→Bool→Int→Int→Bool→Option (List ByteArray × Int)
 | 0,_,_,_,_,_,_,_=>none
 | k+1,x0,x4,x5,x6,x7,h_,a7=>if a7=true then (if 0≤h_ then (if h_ < (x0.size:Int) then ((mZ.f (wrap64 (bt x0 h_)) 97 122).bind fun a5=>(if a5=true then (jm.j3 k x0 x4 x5 x6 x7 h_ false) else ((mZ.f (wrap64 (bt x0 h_)) 48 57).bind fun a6=>(jm.j3 k x0 x4 x5 x6 x7 h_ (!a6))))) else (none)) else (none)) else (if x7=h_ then (some (x4,1)) else (if x6=true then (if 0≤x7 then (if x7≤h_ then (if h_≤(x0.size:Int) then (if x5.length < 8796093022208 then (jm.l0 k x0 x4 (x5++[x0.extract (x7:Int).toNat (h_:Int).toNat]) true (wrap64 (h_+1)) (wrap64 (h_+1))) else (none)) else (none)) else (none)) else (none)) else (if 0≤x7 then (if x7≤h_ then (if h_≤(x0.size:Int) then (if x5.length < 8796093022208 then (jm.l0 k x0 x4 (x5++[x0.extract (x7:Int).toNat (h_:Int).toNat]) (decide ((wrap64 (h_ - x7)) > 7)) (wrap64 (h_+1)) (wrap64 (h_+1))) else (none)) else (none)) else (none)) else (none))))
def jm.j3:Nat→ByteArray→List ByteArray→List ByteArray→Bool→Int→Int→Bool→Option (List ByteArray × Int)
 | 0,_,_,_,_,_,_,_=>none
 | k+1,x0,x4,x5,x6,x7,h_,a5=>if a5=true then (some (x4,1)) else (jm.l0 k x0 x4 x5 x6 x7 (wrap64 (h_+1)))
end
def jm.f (k:Nat) (a0:ByteArray):Option (List ByteArray × Int):=(some (([]:List ByteArray):List ByteArray)).bind fun a5=>(if (a0.size:Int) > 60 then (jm.j0 k a0 a5 true) else (if (a0.size:Int)=0 then (jm.j0 k a0 a5 true) else (if 0 < (a0.size:Int) then (jm.j0 k a0 a5 ((bt a0 0) != 47)) else (none))))
theorem jm.calls (k:Nat) (a0:ByteArray) (r1:List ByteArray) (r2:Int) (w:World) (h:jm.f k a0=some (r1,r2)) :
  Calls Tryz.prog 53 #[.string a0] w fun e w'=>∃ gQ:Value,e=.returned (.tuple #[gQ,ah r2])∧Kd.R Kd.string 9 w' w.heap.size (fun _=>True) gQ r1∧Below w.heap.size w w':=by
 have HB:=m_ (Below.refl w.heap.size w)
 unfold jm.f at h
 have H:=h
 clear h
 obtain ⟨a9,ax,H⟩:=uU H
 have bz:=m_ H
 clear H
 go_enter func53,ntmps53
 go_upto_region 2 with (first|((with_reducible refine dG 9 ?_);(try (refine oh (by rfl) ?_;dsimp only));refine Kd.qV Kd.string _ 9 ?hg (N:=9) ?hd (xs:=([]:List ByteArray)) (inner:=[]) (ok:=fun _=>True) (iT:=fun _=>True) ?hr ?hp (fun _ hk=>hk) trivial (Below.refl _ _) (Nat.le_refl _) (by simp) ?_;(case hd=>rfl);(case hg=>rfl);(case hr=>first|(go_simp;done)|(go_simp;rfl));(case hp=>exact (bM.none _ _));intro AQ w3 yO hb jc jd;clear jc jd;(first|rw [← ax.out] at yO|(simp only [Int.reduceToNat] at yO;rw [← ax.out] at yO));obtain ⟨aN,HB⟩:=p_ (Kd.dK yO (dO ay)) <| a_ (dI ay hb);clear hb yO))
 (try simp only [Act.put,List.setIfInBounds_toArray,List.set_cons_zero,List.set_cons_succ])
 go_cut [22] (fun v22 wc=>∃ (kq:Nat) (ag:Bool),v22=.bool ag∧aA (jm.j0 kq a0 a9 ag=some (r1,r2))∧aA (kq≤k)∧aA (Kd.R Kd.string 9 wc w.heap.size (fun _=>True) AQ a9)∧aA (Below w.heap.size w wc))
 case first =>
  obtain ⟨H⟩:=bz
  revert H;refine fJ (fun c5 H=>?_) fun c5 H=>?_
  ·have ab:=lC c5
   have aT:decide (60 < a0.size)=true:=lC (by omega)
   clear c5
   try simp only [bI,bY,ab]
   have H':=m_ H
   clear H
   go_wp2
   go_meet
   case rel=>exact ⟨_,(true),bg,H',⟨kH⟩,⟨(aG aN)⟩,⟨ay⟩⟩
  have ab:=qE c5
  have aT:decide (60 < a0.size)=false:=qE (by omega)
  clear c5
  try simp only [bI,bY,ab]
  revert H;refine fJ (fun c6 H=>?_) fun c6 H=>?_
  ·have al:=gZ c6
   have am:=g_ c6
   clear c6
   have H':=m_ H
   clear H
   go_wp2
   go_meet
   case rel=>exact ⟨_,(true),bg,H',⟨kH⟩,⟨(aG aN)⟩,⟨ay⟩⟩
  have al:=gU c6
  have am:=gV c6
  obtain ⟨c7,H⟩:=lG H
  have av:=lC c7
  have aw:decide (0 < a0.size)=true:=lC (by omega)
  clear c7
  have H':=m_ H
  clear H
  have p8:0≤(0:Int):=(by omega)
  have q8:0 < a0.size:=(by have:(0:Int) < (a0.size:Int):=bC bD;omega)
  have ah3:∀ h:0 < a0.size,((a0[0]'h).toNat:Int)=bt a0 0:=EH a0 0
  clear p8
  have bq:(0 < (a0.size:Int))=True:=eq_true (bC bD)
  replace q8:=eq_true q8
  go_wp2
  go_meet
  case rel=>exact ⟨_,(((bt a0 0) != 47)),bg,H',⟨kH⟩,⟨(aG aN)⟩,⟨ay⟩⟩
 case rest =>
 clear bz
 obtain ⟨kq,ag,rfl,HA,yj,rP,HB⟩:=hcut
 cases kq with
 | zero=>exact absurd HA.out (by simp [jm.j0])
 | succ JX =>
 obtain ⟨H⟩:=HA
 simp only [jm.j0] at H
 by_cases c9:ag=true
 ·subst c9
  rw [if_pos rfl] at H
  simp only [Option.some.injEq,Prod.mk.injEq] at H
  obtain ⟨rfl,rfl⟩:=H
  go_wp2
  go_ret2
  exact ⟨_,b_,(aG rP),ay⟩
 replace c9:=Bool.eq_false_iff.mpr c9
 subst c9
 rw [if_neg iO] at H
 revert H;refine fJ (fun bP H=>?_) fun bP H=>?_
 ·have aP:=gZ bP
  have ai:=g_ bP
  clear bP
  simp only [Option.some.injEq,Prod.mk.injEq] at H
  obtain ⟨rfl,rfl⟩:=H
  go_wp2
  go_ret2
  exact ⟨_,b_,(aG rP),ay⟩
 have aP:=gU bP
 have ai:=gV bP
 obtain ⟨b9,an⟩:∃ y_:List ByteArray,y_=(([]:List ByteArray)):=⟨_,rfl⟩
 rw [← an] at H
 have dw:=m_ an
 clear an
 have H':=m_ H
 clear H
 go_wp2_with (first|((with_reducible refine dG 27 ?_);(try (refine oh (by rfl) ?_;dsimp only));refine Kd.qV Kd.string _ 9 ?hg (N:=27) ?hd (xs:=([]:List ByteArray)) (inner:=[]) (ok:=fun _=>True) (iT:=fun _=>True) ?hr ?hp (fun _ hk=>hk) trivial (Below.refl _ _) (Nat.le_refl _) (by simp) ?_;(case hd=>rfl);(case hg=>rfl);(case hr=>first|(go_simp;done)|(go_simp;rfl));(case hp=>exact (bM.none _ _));intro aiC d1 EU hb jc jd;clear jc jd;(first|rw [← dw.out] at EU|(simp only [Int.reduceToNat] at EU;rw [← dw.out] at EU));obtain ⟨rP,ba,HB⟩:=p_ (Kd.iY (aG rP) (Kd.iW EU) hb) <| p_ (Kd.dK (Kd.iZ EU (Kd.iD (aG rP))) (dO ay)) <| a_ (dI ay hb);clear hb EU))
 go_loopg [5,6,7,8] JX (fun kq v5 v6 v7 v8 w'=>∃ (a7:List ByteArray) (af:Bool) (a6:Int) (a5:Int),v6=.bool af∧v7=ah a6∧v8=ah a5∧aA (jm.l0 kq a0 a9 a7 af a6 a5=some (r1,r2))∧aA (kq≤JX)∧aA (Kd.R Kd.string 9 w' w.heap.size (fun aF=>some aF≠(v5:Value).ownBlock) AQ a9)∧aA (Kd.R Kd.string 9 w' w.heap.size (fun aF=>some aF≠(AQ:Value).ownBlock) v5 a7)∧aA (Below w.heap.size w w'))
 case atStart=>exact ⟨(b9),(false),(1),(1),bg,bg,bg,H',⟨Nat.le_refl _⟩,⟨P5⟩,⟨(by (with_reducible repeat (first|apply Kd.dR|apply Kd.dS|apply Kd.bK));exact Kd.bW ba.out (fun _ hk=>hk.2))⟩,⟨ay⟩⟩
 case round =>
 clear H'
 try clear c9;try clear bP;try clear aP;try clear ai
 obtain ⟨a7,af,a6,a5,rfl,rfl,rfl,HA,jv,rP,a8,HB⟩:=hrel
 cases gk with
 | zero=>exact absurd HA.out (by simp [jm.l0])
 | succ k2 =>
 obtain ⟨H⟩:=HA
 simp only [jm.l0] at H
 revert H;refine gI (fun ao H=>?_) fun ao H=>?_
 rotate_left
 ·by_cases br:af=true
  ·subst br
   rw [if_pos rfl] at H
   simp only [Option.some.injEq,Prod.mk.injEq] at H
   obtain ⟨rfl,rfl⟩:=H
   go_wp2
   go_ret2
   exact ⟨_,b_,PX,ay⟩
  replace br:=Bool.eq_false_iff.mpr br
  subst br
  rw [if_neg iO] at H
  simp only [Option.some.injEq,Prod.mk.injEq] at H
  obtain ⟨rfl,rfl⟩:=H
  go_wp2
  go_ret2
  exact ⟨_,b_,(by (with_reducible repeat (first|apply Kd.dR|apply Kd.dS|apply Kd.bK));exact Kd.bW a8.out (fun _ hk=>trivial)),ay⟩
 have b2:=m_ H
 clear H
 go_upto_region 12 with (fail)
 go_cut [43] (fun v43 wc=>∃ (kq:Nat) (ac:Bool),v43=.bool ac∧aA (jm.j2 kq a0 a9 a7 af a6 a5 ac=some (r1,r2))∧aA (kq≤k2)∧aA (Kd.R Kd.string 9 wc w.heap.size (fun aF=>some aF≠(u5:Value).ownBlock) AQ a9)∧aA (Kd.R Kd.string 9 wc w.heap.size (fun aF=>some aF≠(AQ:Value).ownBlock) u5 a7)∧aA (Below w.heap.size w wc))
 case first =>
  obtain ⟨H⟩:=b2
  revert H;refine gI (fun aa H=>?_) fun aa H=>?_
  rotate_left
  ·try simp only [bI,bY,aa]
   have H':=m_ H
   clear H
   go_wp2
   go_meet
   case rel=>exact ⟨_,(false),bg,H',⟨(by have:=yj.out;have:=jv.out;first|omega|exact Nat.le_refl _)⟩,⟨(aG rP)⟩,⟨(aG a8)⟩,⟨ay⟩⟩
  try simp only [bI,bY,aa]
  obtain ⟨b1,H⟩:=fU H
  have H':=m_ H
  clear H
  have b7:0≤(a5:Int):=bC bD
  have b8:a5 < (a0.size:Int):=bC bD
  have ah2:=EH a0 a5
  replace b7:=eq_true b7
  replace b8:=eq_true b8
  go_wp2
  go_meet
  case rel=>exact ⟨_,(((bt a0 a5) != 47)),bg,H',⟨(by have:=yj.out;have:=jv.out;first|omega|exact Nat.le_refl _)⟩,⟨(aG rP)⟩,⟨(aG a8)⟩,⟨ay⟩⟩
 case rest =>
 clear b2
 try clear az;try clear ao
 obtain ⟨kq,ac,rfl,HA,AU,rP,a8,HB⟩:=hcut
 cases kq with
 | zero=>exact absurd HA.out (by simp [jm.j2])
 | succ OD =>
 obtain ⟨H⟩:=HA
 simp only [jm.j2] at H
 by_cases bb:ac=true
 ·subst bb
  rw [if_pos rfl] at H
  have b3:=m_ H
  clear H
  go_upto_region 13 with (fail)
  go_cut [57] (fun v57 wc=>∃ (kq:Nat) (ae:Bool),v57=.bool ae∧aA (jm.j3 kq a0 a9 a7 af a6 a5 ae=some (r1,r2))∧aA (kq≤OD)∧aA (Kd.R Kd.string 9 wc w.heap.size (fun aF=>some aF≠(u5:Value).ownBlock) AQ a9)∧aA (Kd.R Kd.string 9 wc w.heap.size (fun aF=>some aF≠(AQ:Value).ownBlock) u5 a7)∧aA (Below w.heap.size w wc))
  case first =>
   obtain ⟨H⟩:=b3
   obtain ⟨ap,H⟩:=fU H
   try simp only [bI,bY,ap]
   obtain ⟨bc,H⟩:=fU H
   obtain ⟨cd,ck,H⟩:=bd_ H
   by_cases bd:cd=true
   ·subst bd
    rw [if_pos rfl] at H
    have H':=m_ H
    clear H
    have b4:0≤(a5:Int):=bC bD
    have b5:a5 < (a0.size:Int):=bC bD
    have aaA:=EH a0 a5
    replace b4:=eq_true b4
    replace b5:=eq_true b5
    go_wp2_with (first|((with_reducible refine bU 98 ?_);refine bV (some 48) rfl rfl func98 aB rfl #[ah (wrap64 (bt a0 a5)),ah 97,ah 122] rfl aW ?_;(with_reducible refine (mZ.calls (wrap64 (bt a0 a5)) 97 122 true _ ck.out).mono ?_);rintro e w' ⟨rfl,⟨nd,rfl⟩⟩;refine ⟨_,rfl,?_⟩))
    go_meet
    case rel=>exact ⟨_,(false),bg,H',⟨(by have:=yj.out;have:=jv.out;have:=AU.out;first|omega|exact Nat.le_refl _)⟩,⟨(aG rP)⟩,⟨(aG a8)⟩,⟨ay⟩⟩
   replace bd:=Bool.eq_false_iff.mpr bd
   subst bd
   rw [if_neg iO] at H
   obtain ⟨be,d0,H⟩:=bd_ H
   have H':=m_ H
   clear H
   have b4:0≤(a5:Int):=bC bD
   have b5:a5 < (a0.size:Int):=bC bD
   have aaA:=EH a0 a5
   replace b4:=eq_true b4
   replace b5:=eq_true b5
   go_wp2_with (first|((with_reducible refine bU 98 ?_);refine bV (some 48) rfl rfl func98 aB rfl #[ah (wrap64 (bt a0 a5)),ah 97,ah 122] rfl aW ?_;(with_reducible refine (mZ.calls (wrap64 (bt a0 a5)) 97 122 false _ ck.out).mono ?_);rintro e w' ⟨rfl,⟨nd,rfl⟩⟩;refine ⟨_,rfl,?_⟩;have bu:0≤(a5:Int):=bC bD;have bv:a5 < (a0.size:Int):=bC bD;have hx25:=EH a0 a5;replace bu:=eq_true bu;replace bv:=eq_true bv)|(go_at_call 98;(with_reducible refine (mZ.calls (wrap64 (bt a0 a5)) 48 57 be _ d0.out).mono ?_);rintro e w' ⟨rfl,⟨nd,rfl⟩⟩))
   go_meet
   case rel=>exact ⟨_,(!be),bg,H',⟨(by have:=yj.out;have:=jv.out;have:=AU.out;first|omega|exact Nat.le_refl _)⟩,⟨(aG rP)⟩,⟨(aG a8)⟩,⟨ay⟩⟩
  case rest =>
  clear b3
  try clear bb
  obtain ⟨kq,ae,rfl,HA,Qx,rP,a8,HB⟩:=hcut
  cases kq with
  | zero=>exact absurd HA.out (by simp [jm.j3])
  | succ aa7 =>
  obtain ⟨H⟩:=HA
  simp only [jm.j3] at H
  by_cases bw:ae=true
  ·subst bw
   rw [if_pos rfl] at H
   simp only [Option.some.injEq,Prod.mk.injEq] at H
   obtain ⟨rfl,rfl⟩:=H
   go_wp2
   go_ret2
   exact ⟨_,b_,PX,ay⟩
  replace bw:=Bool.eq_false_iff.mpr bw
  subst bw
  rw [if_neg iO] at H
  have H':=m_ H
  clear H
  go_wp2
  go_roundg aa7
  case measure=>have:=yj.out;have:=jv.out;have:=AU.out;have:=Qx.out;omega
  case rel=>exact ⟨(a7),(af),(a6),(wrap64 (a5+1)),bg,bg,bg,H',⟨(by have:=yj.out;have:=jv.out;have:=AU.out;have:=Qx.out;omega)⟩,⟨(aG rP)⟩,⟨(aG a8)⟩,⟨ay⟩⟩
 replace bb:=Bool.eq_false_iff.mpr bb
 subst bb
 rw [if_neg iO] at H
 revert H;refine fJ (fun b6 H=>?_) fun b6 H=>?_
 ·have fF:=gZ b6
  have dM:=g_ b6
  clear b6
  simp only [Option.some.injEq,Prod.mk.injEq] at H
  obtain ⟨rfl,rfl⟩:=H
  go_wp2
  go_ret2
  exact ⟨_,b_,PX,ay⟩
 have fF:=gU b6
 have dM:=gV b6
 by_cases bx:af=true
 ·subst bx
  rw [if_pos rfl] at H
  obtain ⟨cl,cm,H⟩:=kT H
  obtain ⟨cn,co,H⟩:=kT H
  obtain ⟨cp,cq,H⟩:=kT H
  obtain ⟨cr,H⟩:=lG H
  have bh:=m_ cr
  clear cr
  obtain ⟨bi,aq⟩:∃ y_:List ByteArray,y_=(a7++[a0.extract (a6:Int).toNat (a5:Int).toNat]):=⟨_,rfl⟩
  rw [← aq] at H
  have bj:=m_ aq
  clear aq
  have H':=m_ H
  clear H
  go_wp2_with (first|((with_reducible refine wW (b:=.append) (xs:=#[.tmp 70,.tmp 75]) rfl ?_);(try (refine oh (by rfl) ?_;dsimp only));at_builtin;refine Kd.CS Kd.string (w0:=w) w.heap.size rfl (.tmp 70) (.tmp 75) 38 9 (.string ⟨#[]⟩) 16 rfl underlying38 info9 rfl (by decide) (by omega) u5 a7 (a0.extract (a6:Int).toNat (a5:Int).toNat) [.string (a0.extract (a6:Int).toNat (a5:Int).toNat)] (fun aF=>some aF≠(AQ:Value).ownBlock) (fun _=>False) rfl rfl ?rD (fun _ hk=>hk.elim) ?kS ?ku ?lu ?kC ?aL ?_;(case rD=>exact rfl);(case lu=>exact ay);(case kS=>exact (fun aF hk=>Kd.C_ (Kd.iD (aG rP)) aF hk));(case ku=>exact (aG a8));(case kC=>exact (dO ay));(case aL=>have:=bh.out;omega);intro aiD d2 ho hb hg hat;rw [← bj.out] at ho;obtain ⟨rP,HB,bl⟩:=p_ (Kd.nZ (ok:=(fun _=>True)) Xq hg hat) <| p_ (hb) <| a_ (ho);clear ho hb hg hat))
  go_roundg OD
  case measure=>have:=yj.out;have:=jv.out;have:=AU.out;omega
  case rel=>exact ⟨(bi),(true),(wrap64 (a5+1)),(wrap64 (a5+1)),bg,bg,bg,H',⟨(by have:=yj.out;have:=jv.out;have:=AU.out;omega)⟩,⟨P5⟩,⟨(aG bl)⟩,⟨ay⟩⟩
 replace bx:=Bool.eq_false_iff.mpr bx
 subst bx
 rw [if_neg iO] at H
 obtain ⟨ct,jg,H⟩:=kT H
 obtain ⟨cv,cw,H⟩:=kT H
 obtain ⟨cx,cy,H⟩:=kT H
 obtain ⟨cz,H⟩:=lG H
 have bm:=m_ cz
 clear cz
 obtain ⟨fK,ar⟩:∃ y_:List ByteArray,y_=(a7++[a0.extract (a6:Int).toNat (a5:Int).toNat]):=⟨_,rfl⟩
 rw [← ar] at H
 have bo:=m_ ar
 clear ar
 have H':=m_ H
 clear H
 go_wp2_with (first|((with_reducible refine wW (b:=.append) (xs:=#[.tmp 70,.tmp 75]) rfl ?_);(try (refine oh (by rfl) ?_;dsimp only));at_builtin;refine Kd.CS Kd.string (w0:=w) w.heap.size rfl (.tmp 70) (.tmp 75) 38 9 (.string ⟨#[]⟩) 16 rfl underlying38 info9 rfl (by decide) (by omega) u5 a7 (a0.extract (a6:Int).toNat (a5:Int).toNat) [.string (a0.extract (a6:Int).toNat (a5:Int).toNat)] (fun aF=>some aF≠(AQ:Value).ownBlock) (fun _=>False) rfl rfl ?rD (fun _ hk=>hk.elim) ?kS ?ku ?lu ?kC ?aL ?_;(case rD=>exact rfl);(case lu=>exact ay);(case kS=>exact (fun aF hk=>Kd.C_ (Kd.iD (aG rP)) aF hk));(case ku=>exact (aG a8));(case kC=>exact (dO ay));(case aL=>have:=bm.out;omega);intro aiE d3 ho hb hg hat;rw [← bo.out] at ho;obtain ⟨rP,HB,bp⟩:=p_ (Kd.nZ (ok:=(fun _=>True)) Xq hg hat) <| p_ (hb) <| a_ (ho);clear ho hb hg hat))
 go_roundg OD
 case measure=>have:=yj.out;have:=jv.out;have:=AU.out;omega
 case rel=>exact ⟨(fK),(decide ((wrap64 (a5 - a6)) > 7)),(wrap64 (a5+1)),(wrap64 (a5+1)),bg,bg,bg,H',⟨(by have:=yj.out;have:=jv.out;have:=AU.out;omega)⟩,⟨P5⟩,⟨(aG bp)⟩,⟨ay⟩⟩

def tu.l0:Nat→List ByteArray→ByteArray→Int→Option (ByteArray)
 | 0,_,_,_=>none
 | k+1,x0,x3,x4=>if x4 < (x0.length:Int) then (if x3.size+1≤9223372036854775807 then (if 0≤x4 then (if (x3++(⟨#[47]⟩:ByteArray)).size+(pW ByteArray.empty x0 x4).size≤9223372036854775807 then (tu.l0 k x0 ((x3++(⟨#[47]⟩:ByteArray))++(pW ByteArray.empty x0 x4)) (wrap64 (x4+1))) else (none)) else (none)) else (none)) else (some x3)
def tu.f (k:Nat) (l0:List ByteArray):Option (ByteArray):=if (l0.length:Int)=0 then (some (⟨#[47]⟩:ByteArray)) else (tu.l0 k l0 (⟨#[]⟩:ByteArray) 0)
theorem tu.calls (k:Nat) (A0:Option Addr) (c0:Nat) (l0:List ByteArray) (r:ByteArray) (w:World) (hr0:Kd.C Kd.string w A0 l0.length l0) (hc0:l0.length≤c0) (h:tu.f k l0=some r) :
  Calls Tryz.prog 71 #[.slice A0 l0.length c0] w fun e w'=>e=.returned (.string r)∧nH w w':=by
 have HR0:=m_ hr0
 have ao:=m_ hc0
 clear hr0 hc0
 unfold tu.f at h
 have H:=h
 clear h
 revert H;refine fJ (fun c2 H=>?_) fun c2 H=>?_
 ·have a9:=gZ c2
  have aa:=g_ c2
  clear c2
  obtain rfl:=cZ H
  go_enter func71,ntmps71
  go_wp2
  go_ret
  exact ⟨bg,jS⟩
 have a9:=gU c2
 have aa:=gV c2
 have ac:¬ (l0=[]):=fun dV=>c2 (by rw [dV];rfl)
 have H':=m_ H
 clear H
 go_enter func71,ntmps71
 go_wp2
 go_loopg [3,4] k (fun kq v3 v4 w'=>∃ (a6:ByteArray) (a5:Int),v3=.string a6∧v4=ah a5∧aA (tu.l0 kq l0 a6 a5=some r)∧aA (kq≤k)∧nH w w')
 case atStart=>exact ⟨((⟨#[]⟩:ByteArray)),(0),bg,bg,H',⟨Nat.le_refl _⟩,jS⟩
 case round =>
 clear H'
 try clear c2;try clear a9;try clear aa;try clear ac
 obtain ⟨a6,a5,rfl,rfl,HA,iq,⟨m1,rfl⟩⟩:=hrel
 cases gk with
 | zero=>exact absurd HA.out (by simp [tu.l0])
 | succ k1 =>
 obtain ⟨H⟩:=HA
 simp only [tu.l0] at H
 revert H;refine gI (fun ae H=>?_) fun ae H=>?_
 rotate_left
 ·obtain rfl:=cZ H
  go_wp2
  go_ret
  exact ⟨bg,jS⟩
 obtain ⟨c4,H⟩:=lG H
 have aP:=eq_true c4
 have ai:=lC c4
 try have aN:(9223372036854775807 < a6.size+1)=False:=eq_false (Nat.not_lt.2 c4)
 obtain ⟨aT,H⟩:=fU H
 obtain ⟨c6,H⟩:=lG H
 have al:=eq_true c6
 have am:=lC c6
 try have an:(9223372036854775807 < (a6++(⟨#[47]⟩:ByteArray)).size+(pW ByteArray.empty l0 a5).size)=False:=eq_false (Nat.not_lt.2 c6)
 have H':=m_ H
 clear H
 have a7:0≤(a5:Int):=bC bD
 have a8:a5 < (l0.length:Int):=bC bD
 obtain ⟨ag,af,ab⟩:=Kd.yw HR0.out a5 a7 a8
 cases af
 replace a7:=eq_true a7
 replace a8:=eq_true a8
 go_wp2
 go_roundg k1
 case measure=>have:=iq.out;omega
 case rel=>exact ⟨((a6++(⟨#[47]⟩:ByteArray))++(pW ByteArray.empty l0 a5)),(wrap64 (a5+1)),bg,bg,H',⟨nT⟩,jS⟩

def uK.f (k:Nat) (a0:ByteArray):Option (ByteArray):=(jm.f k a0).bind fun a5=>(if a5.2=0 then (if (a5.1.length:Int)=0 then (some (⟨#[]⟩:ByteArray)) else (if 0≤(wrap64 ((a5.1.length:Int) - 1)) then (if (wrap64 ((a5.1.length:Int) - 1))≤(a5.1.length:Int) then ((tu.f k (a5.1.take ((wrap64 ((a5.1.length:Int) - 1)):Int).toNat)).bind fun a6=>(some a6)) else (none)) else (none))) else (some (⟨#[]⟩:ByteArray)))
theorem uK.calls (k:Nat) (a0:ByteArray) (r:ByteArray) (w:World) (h:uK.f k a0=some r) :
  Calls Tryz.prog 51 #[.string a0] w fun e w'=>e=.returned (.string r)∧Below w.heap.size w w':=by
 have HB:=m_ (Below.refl w.heap.size w)
 unfold uK.f at h
 have H:=h
 clear h
 obtain ⟨⟨a5,ae⟩,A2,H⟩:=bd_ H
 try dsimp -simprocs only at H
 revert H;refine fJ (fun c3 H=>?_) fun c3 H=>?_
 rotate_left
 ·have ai:=gU c3
  have aN:=gV c3
  obtain rfl:=cZ H
  go_enter func51,ntmps51
  go_wp2_with (first|((with_reducible refine bU 53 ?_);refine bV (some 7) rfl rfl func53 aB rfl #[.string a0] rfl aW ?_;(with_reducible refine (jm.calls k a0 a5 ae _ A2.out).mono ?_);rintro e dw ⟨acY,rfl,ho0,hb⟩;refine ⟨_,rfl,?_⟩;obtain ⟨a6,HB⟩:=p_ (Kd.dK ho0 (dO ay)) <| a_ (dI ay hb);(try clear hb);(try clear ho0)))
  go_ret
  exact ⟨b_,ay⟩
 have ai:=gZ c3
 have aN:=g_ c3
 clear c3
 have ao:=m_ H
 clear H
 go_enter func51,ntmps51
 go_upto_if 16 with (first|((with_reducible refine bU 53 ?_);refine bV (some 7) rfl rfl func53 aB rfl #[.string a0] rfl aW ?_;(with_reducible refine (jm.calls k a0 a5 ae _ A2.out).mono ?_);rintro e w5 ⟨acY,rfl,ho0,hb⟩;refine ⟨_,rfl,?_⟩;obtain ⟨a6,HB⟩:=p_ (Kd.dK ho0 (dO ay)) <| a_ (dI ay hb);(try clear hb);(try clear ho0);obtain ⟨aT,aP,ar⟩:=Kd.dJ a6.out;subst ar))
 (try simp only [Act.put,List.setIfInBounds_toArray,List.set_cons_zero,List.set_cons_succ])
 obtain ⟨H⟩:=ao
 revert H;refine fJ (fun c7 H=>?_) fun c7 H=>?_
 ·have a7:=gZ c7
  have al:=g_ c7
  clear c7
  try simp only [bI,bY,a7]
  obtain rfl:=cZ H
  go_wp2
  go_ret
  exact ⟨b_,ay⟩
 have a7:=gU c7
 have al:=gV c7
 have bP:¬ (a5=[]):=fun dV=>c7 (by rw [dV];rfl)
 try simp only [bI,bY,a7]
 obtain ⟨jl,qF⟩:∃ mQ:Int,(wrap64 ((a5.length:Int) - 1))=mQ:=⟨_,rfl⟩
 replace H:(if 0≤(jl) then (if (jl)≤(a5.length:Int) then ((tu.f k (a5.take ((jl):Int).toNat)).bind fun a8=>(some a8)) else (none)) else (none))=some r:=by first|(rw [qF] at H;exact H)|(simp only [qF] at H ⊢;exact H)
 have JJ:(IntKind.i64.wrap ((a5.length:Int) - 1))=jl:=(bI _).trans qF
 obtain ⟨av,aw,H⟩:=kT H
 obtain ⟨ap,aq,H⟩:=kT H
 obtain ⟨a9,aa⟩:∃ y_:List ByteArray,y_=(a5.take ((jl):Int).toNat):=⟨_,rfl⟩
 rw [← aa] at H
 have ab:=m_ aa
 clear aa
 obtain ⟨a8,ax,H⟩:=bd_ H
 obtain rfl:=cZ H
 have an:((jl):Int)≤((a5.length:Int):Int):=bC bD
 obtain ⟨aaB,GU,_,Oo,_⟩:=info_parts info9
 have Hw:a5.length≤aP:=(Kd.bZ a6.out).2.1
 have GR:Kd.C Kd.string _ aT a5.length a5:=(Kd.bZ a6.out).2.2
 have N_:=EM (P:=Tryz.prog) 38 9 .i64 underlying38 GU aT a5.length aP (jl) (bC bD) an Hw
 have Dl:=Kd.xC (m:=((jl):Int).toNat) GR (by omega)
 have af:a9.length=((jl):Int).toNat:=(by rw [ab.out,List.length_take];omega)
 rw [← ab.out] at Dl
 rw [← af] at N_
 have ac:=m_ Dl
 have ag:=m_ (show a9.length≤aP from by omega)
 clear Dl GR Hw GU Oo
 have X_:=m_ af
 clear af
 have X7:=m_ (show ((jl):Int).toNat≤a5.length from by omega)
 replace an:=eq_true an
 go_wp2_with (first|((with_reducible refine bU 71 ?_);refine bV (some 22) rfl rfl func71 aB rfl #[.slice aT a9.length aP] rfl aW ?_;(with_reducible refine (tu.calls k _ _ a9 a8 _ ?kG ag.out ax.out).mono ?_);(case kG=>repeat (first|exact (by repeat (first|(with_reducible exact ac.out)|(with_reducible refine Kd.jJ ?_ _)|(with_reducible refine Kd.jL ?_ _)|(with_reducible refine Kd.jK ?_)|exact ac.out))|(with_reducible refine Kd.jJ ?_ _)|(with_reducible refine Kd.jL ?_ _)|(with_reducible refine Kd.jK ?_)));rintro e w' ⟨rfl,⟨nd,rfl⟩⟩;refine ⟨_,rfl,?_⟩))
 go_ret
 exact ⟨KQ,ay⟩

def DY.f (k:Nat) (a0:ByteArray):Option (ByteArray):=(jm.f k a0).bind fun a5=>(if a5.2=0 then (if (a5.1.length:Int)=0 then (some (⟨#[]⟩:ByteArray)) else (if 0≤(wrap64 ((a5.1.length:Int) - 1)) then (if (wrap64 ((a5.1.length:Int) - 1)) < (a5.1.length:Int) then (some (pW ByteArray.empty a5.1 (wrap64 ((a5.1.length:Int) - 1)))) else (none)) else (none))) else (some (⟨#[]⟩:ByteArray)))
theorem DY.calls (k:Nat) (a0:ByteArray) (r:ByteArray) (w:World) (h:DY.f k a0=some r) :
  Calls Tryz.prog 63 #[.string a0] w fun e w'=>e=.returned (.string r)∧Below w.heap.size w w':=by
 have HB:=m_ (Below.refl w.heap.size w)
 unfold DY.f at h
 have H:=h
 clear h
 obtain ⟨⟨a5,a8⟩,A2,H⟩:=bd_ H
 try dsimp -simprocs only at H
 revert H;refine fJ (fun c3 H=>?_) fun c3 H=>?_
 rotate_left
 ·have ac:=gU c3
  have ae:=gV c3
  obtain rfl:=cZ H
  go_enter func63,ntmps63
  go_wp2_with (first|((with_reducible refine bU 53 ?_);refine bV (some 7) rfl rfl func53 aB rfl #[.string a0] rfl aW ?_;(with_reducible refine (jm.calls k a0 a5 a8 _ A2.out).mono ?_);rintro e ao ⟨v183,rfl,ho0,hb⟩;refine ⟨_,rfl,?_⟩;obtain ⟨a6,HB⟩:=p_ (Kd.dK ho0 (dO ay)) <| a_ (dI ay hb);(try clear hb);(try clear ho0)))
  go_ret
  exact ⟨b_,ay⟩
 have ac:=gZ c3
 have ae:=g_ c3
 clear c3
 have aP:=m_ H
 clear H
 go_enter func63,ntmps63
 go_upto_if 16 with (first|((with_reducible refine bU 53 ?_);refine bV (some 7) rfl rfl func53 aB rfl #[.string a0] rfl aW ?_;(with_reducible refine (jm.calls k a0 a5 a8 _ A2.out).mono ?_);rintro e w5 ⟨v183,rfl,ho0,hb⟩;refine ⟨_,rfl,?_⟩;obtain ⟨a6,HB⟩:=p_ (Kd.dK ho0 (dO ay)) <| a_ (dI ay hb);(try clear hb);(try clear ho0);obtain ⟨ap,aq,al⟩:=Kd.dJ a6.out;subst al))
 (try simp only [Act.put,List.setIfInBounds_toArray,List.set_cons_zero,List.set_cons_succ])
 obtain ⟨H⟩:=aP
 revert H;refine fJ (fun c7 H=>?_) fun c7 H=>?_
 ·have a7:=gZ c7
  have af:=g_ c7
  clear c7
  try simp only [bI,bY,a7]
  obtain rfl:=cZ H
  go_wp2
  go_ret
  exact ⟨b_,ay⟩
 have a7:=gU c7
 have af:=gV c7
 have am:¬ (a5=[]):=fun dV=>c7 (by rw [dV];rfl)
 try simp only [bI,bY,a7]
 obtain ⟨jl,qF⟩:∃ mQ:Int,(wrap64 ((a5.length:Int) - 1))=mQ:=⟨_,rfl⟩
 replace H:(if 0≤(jl) then (if (jl) < (a5.length:Int) then (some (pW ByteArray.empty a5 (jl))) else (none)) else (none))=some r:=by first|(rw [qF] at H;exact H)|(simp only [qF] at H ⊢;exact H)
 have JJ:(IntKind.i64.wrap ((a5.length:Int) - 1))=jl:=(bI _).trans qF
 obtain ⟨an,H⟩:=fU H
 obtain ⟨aN,H⟩:=fU H
 obtain rfl:=cZ H
 have a9:0≤((jl):Int):=bC bD
 have aa:(jl) < (a5.length:Int):=bC bD
 obtain ⟨aT,ag,ab⟩:=Kd.yw (Kd.bZ a6.out).2.2 (jl) a9 aa
 cases ag
 replace a9:=eq_true a9
 replace aa:=eq_true aa
 go_wp2
 go_ret
 exact ⟨KQ,ay⟩

end Go.Proofs.YthejdhjpbpamoaaGreatDoor.jM
