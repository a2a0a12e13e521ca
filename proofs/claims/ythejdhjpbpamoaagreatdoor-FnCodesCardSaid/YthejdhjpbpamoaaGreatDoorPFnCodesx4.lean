/- Contracts of Go functions: each call returns what the Lean function beside it computes. Conditions: as each theorem states them. -/
import Derived.Test.YthejdhjpbpamoaaGreatDoorPkFnCodes
import Derived.Test.YthejdhjpbpamoaaGreatDoorPFnCodesx1
import Derived.Test.YthejdhjpbpamoaaGreatDoorPFnCodesx3
namespace Go.Proofs.YthejdhjpbpamoaaGreatDoor.jD
open Go.RowKit Go.Proofs.YthejdhjpbpamoaaGreatDoorW.iw Go.Proofs.YthejdhjpbpamoaaGreatDoorW.lH Go.Proofs.YthejdhjpbpamoaaGreatDoorW.oO Go.Proofs.Tryz
attribute [local go_sem] qw qB qA qF qy qE qx qC   -- for this text's walks alone
set_option linter.unusedVariables false
set_option maxHeartbeats 8000000
set_option maxRecDepth 100000
set_option linter.unusedSimpArgs false

mutual
def oH.j0:Nat→ByteArray→Bool→List (aF)→Option (Int)
 | 0,_,_,_=>none
 | k+1,x1,a7,a6=>if a7=true then (some 0) else ((lS.f k x1).bind fun a5=>(if a5.2=0 then (oH.l0 k a5.1 1 a6) else (some a5.2)))
def oH.l0:Nat→List ByteArray→Int→List (aF)→Option (Int)
 | 0,_,_,_=>none
 | k+1,x5,x7,a5=>if x7 < (x5.length:Int) then (if 0≤x7 then (if x7≤(x5.length:Int) then ((y9.f (x5.take (x7:Int).toNat)).bind fun a7=>((ug.f a5 a7).bind fun a6=>(if a6 < 0 then (some 3) else (if 0≤a6 then (if a6 < (a5.length:Int) then (if ((aC a5 a6).f1=true) then (oH.l0 k x5 (wrap64 (x7+1)) a5) else (some 4)) else (none)) else (none))))) else (none)) else (none)) else (some 3)
end
def oH.f (k:Nat) (a5:List (aF)) (a1:ByteArray):Option (Int):=if a1.toList=([47]:List UInt8) then (oH.j0 k a1 true a5) else ((ug.f a5 a1).bind fun a6=>(oH.j0 k a1 (decide (a6 ≥ 0)) a5))
theorem oH.calls (k:Nat) (ag:Option Addr) (aK:Nat) (aI:List (aF)) (a1:ByteArray) (r:Int) (w:World) (jV:iK w) (ap:Kd.C aU w ag aI.length aI) (aq:aI.length≤aK) (h:oH.f k aI a1=some r) :
  Calls Tryz.prog 25 #[.agg #[.slice ag aI.length aK],.string a1] w fun e w'=>e=.returned (ah r)∧Below w.heap.size w w':=by
 have mF:=underlying28
 have lq:=m_ ap
 have ar:=m_ aq
 clear ap aq
 have HD:=m_ jV
 clear jV
 have HB:=m_ (Below.refl w.heap.size w)
 unfold oH.f at h
 have H:=h
 clear h
 have bd:=m_ H
 clear H
 go_enter func25,ntmps25
 go_upto_region 1 with (first|((with_reducible refine dJ 2 ?_);refine dO 2 (cs:=#[.slice ag aI.length aK]) 28 ?_;intro aQ hg w4 hbox hb;obtain ⟨HB,a5,bj,bl⟩:=kL au hb hbox hg;clear hb hbox hg))
 (try simp only [Act.put,List.setIfInBounds_toArray,List.set_cons_zero,List.set_cons_succ])
 go_cut [16] (fun v16 wc=>∃ (kq:Nat) (aN:Bool),v16=.bool aN∧aA (oH.j0 kq a1 aN aI=some r)∧aA (kq≤k)∧aA (wc.heap[aQ]?=some (.cells #[(.slice ag aI.length aK)] 28))∧aA (Below w.heap.size w wc))
 case first =>
  obtain ⟨H⟩:=bd
  revert H;refine fH (fun c5 H=>?_) fun c5 H=>?_
  ·have ai:=fZ c5
   have ax:=f_ c5
   clear c5
   try simp only [aY,bf,ai]
   have H':=m_ H
   clear H
   go_wp2
   go_meet
   case rel=>exact ⟨_,(true),bg,H',⟨kC⟩,⟨(ak a5)⟩,⟨au⟩⟩
  have ai:=fP c5
  have ax:=fQ c5
  try simp only [aY,bf,ai]
  obtain ⟨b4,A6,H⟩:=bd_ H
  have H':=m_ H
  clear H
  have UN:=dh a5.out
  go_wp2_with (first|(go_at_call 17;(with_reducible refine (ug.calls _ _ aI a1 b4 _ pY ar.out A6.out).mono ?_);rintro e w8 ⟨rfl,hb⟩;obtain ⟨a5,HB⟩:=o_ (ak a5) au hb;(try clear hb)))
  go_meet
  case rel=>exact ⟨_,(decide (b4 ≥ 0)),bg,H',⟨kC⟩,⟨(ak a5)⟩,⟨au⟩⟩
 case rest =>
 clear bd
 obtain ⟨kq,aN,rfl,HA,HJ2,a5,HB⟩:=hcut
 cases kq with
 | zero=>exact absurd HA.out (by simp [oH.j0])
 | succ BG =>
 obtain ⟨H⟩:=HA
 simp only [oH.j0] at H
 by_cases c9:aN=true
 ·subst c9
  rw [if_pos rfl] at H
  obtain rfl:=dF H
  go_wp2
  go_ret
  exact ⟨bM,au⟩
 replace c9:=Bool.eq_false_iff.mpr c9
 subst c9
 rw [if_neg iI] at H
 obtain ⟨⟨a6,b5⟩,bw,H⟩:=bd_ H
 have b6:=m_ H
 clear H
 go_upto_if 23 with (first|((with_reducible refine bT 57 ?_);refine bU (some 19) rfl rfl func57 aB rfl #[.string a1] rfl aX ?_;(with_reducible refine (lS.calls BG a1 a6 b5 _ (iK.below HD.out au) bw.out).mono ?_);rintro e ca ⟨akM,rfl,ho0,hb⟩;refine ⟨_,rfl,?_⟩;obtain ⟨b7,a5,HB⟩:=p_ (Kd.dI ho0 (cZ au)) <| o_ (ak a5) au hb;(try clear hb);(try clear ho0)))
 (try simp only [Act.put,List.setIfInBounds_toArray,List.set_cons_zero,List.set_cons_succ])
 obtain ⟨H⟩:=b6
 revert H;refine fH (fun aW H=>?_) fun aW H=>?_
 rotate_left
 ·have a9:=fP aW
  have av:=fQ aW
  try simp only [aY,bf,a9]
  obtain rfl:=dF H
  go_wp2
  go_ret
  exact ⟨bM,au⟩
 have a9:=fZ aW
 have av:=f_ aW
 clear aW
 try simp only [aY,bf,a9]
 have H':=m_ H
 clear H
 go_wp2
 go_loopg [7] BG (fun kq v7 w'=>∃ (a7:Int),v7=ah a7∧aA (oH.l0 kq a6 a7 aI=some r)∧aA (kq≤BG)∧aA (Kd.R Kd.string 9 w' w.heap.size (fun _=>True) akM a6)∧aA (w'.heap[aQ]?=some (.cells #[(.slice ag aI.length aK)] 28))∧aA (Below w.heap.size w w'))
 case atStart=>exact ⟨(1),bg,H',⟨Nat.le_refl _⟩,⟨(aJ b7)⟩,⟨(ak a5)⟩,⟨au⟩⟩
 case round =>
 clear H'
 try clear c9;try clear aW;try clear a9;try clear av
 obtain ⟨a7,rfl,HA,jM,dn,a5,HB⟩:=hrel
 cases gk with
 | zero=>exact absurd HA.out (by simp [oH.l0])
 | succ k2 =>
 obtain ⟨H⟩:=HA
 simp only [oH.l0] at H
 have b8:=m_ H
 clear H
 obtain ⟨bH,ao,be⟩:=Kd.dK dn.out
 subst be
 go_upto_if 28 with (fail)
 obtain ⟨H⟩:=b8
 revert H;refine gJ (fun ae H=>?_) fun ae H=>?_
 rotate_left
 ·try simp only [aY,bf,ae]
  obtain rfl:=dF H
  go_wp2
  go_ret
  exact ⟨bM,au⟩
 try simp only [aY,bf,ae]
 obtain ⟨bm,fB,H⟩:=jE H
 obtain ⟨bo,bp,H⟩:=jE H
 obtain ⟨al,am⟩:∃ y_:List ByteArray,y_=(a6.take (a7:Int).toNat):=⟨_,rfl⟩
 rw [← am] at H
 have aw:=m_ am
 clear am
 obtain ⟨an,bx,H⟩:=bd_ H
 obtain ⟨a8,bz,H⟩:=bd_ H
 have b9:=m_ H
 clear H
 try go_wp2
 obtain ⟨dn,a5,HB⟩:=p_ (Kd.aZ dn.out) <| acV a5 HB
 have bh:(a7:Int)≤((a6.length:Int):Int):=bF bG
 obtain ⟨ayH,YM,_,aiP,_⟩:=info_parts info9
 have YU:a6.length≤ao:=(Kd.dN dn.out).2.1
 have Xy:Kd.C Kd.string _ bH a6.length a6:=(Kd.dN dn.out).2.2
 have adh:=Dl (P:=Tryz.prog) 38 9 .i64 underlying38 YM bH a6.length ao a7 (bF bG) bh YU
 have SY:=Kd.xu (m:=(a7:Int).toNat) Xy (by omega)
 have az:al.length=(a7:Int).toNat:=(by rw [aw.out,List.length_take];omega)
 rw [← aw.out] at SY
 rw [← az] at adh
 have Iz:=m_ SY
 have ba:=m_ (show al.length≤ao from by omega)
 clear SY Xy YU YM aiP
 have alJ:=m_ az
 clear az
 have alG:=m_ (show (a7:Int).toNat≤a6.length from by omega)
 replace bh:=eq_true bh
 refine iT (n:=7) (S:=fun w'=>w'.cell? ⟨aQ,0,none⟩=some (.slice ag aI.length aK)) (ds:=[]) Ll aB rfl rfl ((aP a5.out 0).trans rfl) (fun hH=>?_)
 generalize wr.drew=cc at dn a5 HB Iz hH ⊢
 refine sN (i:=1) (N:=some 32) #[F_,aj,F_,F_,F_,F_,F_] aB ?_
 refine sN (i:=2) (N:=some 33) #[F_,aj,aj,F_,F_,F_,F_] aB ?_
 refine sN (i:=3) (N:=some 34) #[F_,aj,aj,aj,F_,F_,F_] aB ?_
 refine lI (i:=0) (N:=some 31) (v:=?_) (a':=?_) #[aj,aj,aj,aj,F_,F_,F_] rfl rfl aB (fun _ _ _ h=>h) (Or.inl ⟨(by rfl),?_⟩) hH ?_ ?_
 rotate_left
 ·intro w' s0
  go_simp
  with_reducible rfl
 rotate_left
 ·simp only [Act.put,List.setIfInBounds_toArray,List.set_cons_zero,List.set_cons_succ,aY,bf]
  rfl
 refine fD (i:=4) (N:=some 35) Lm rfl rfl aB (by decide) (fun K hK=>?_)
 refine i_ func70 aB rfl #[.slice bH al.length ao] (by rfl) rfl rfl aX ?_
 with_reducible refine (y9.calls _ _ al an _ ?kX ba.out bx.out).mono ?_
 (case kX=>repeat (first|exact Us|(with_reducible refine Kd.jO ?_ _)|(with_reducible refine Kd.jT ?_ _)|(with_reducible refine Kd.jS ?_)))
 rintro e cd ⟨rfl,hb⟩
 refine ⟨_,rfl,?_⟩
 obtain ⟨dn,a5,Iz,HB⟩:=p_ (Kd.dw (aJ dn) hb) <| p_ (bZ (ak a5) hb) <| p_ (Kd.pJ Us hb) <| a_ (dP au hb)
 (try clear hb)
 refine hK.out _ _ ((aP a5.out 0).trans rfl) (fun hH=>?_)
 clear hK K
 refine eX (some 35) ?_
 refine fD (i:=5) (N:=some 36) Lp rfl rfl aB (by decide) (fun K hK=>?_)
 refine i_ func17 aB rfl #[.agg #[.slice ag aI.length aK],.string an] (by rfl) rfl rfl aX ?_
 with_reducible refine (ug.calls _ _ aI an a8 _ pY ar.out bz.out).mono ?_
 rintro e ce ⟨rfl,hb⟩
 refine ⟨_,rfl,?_⟩
 obtain ⟨dn,a5,Iz,HB⟩:=p_ (Kd.dw (aJ dn) hb) <| p_ (bZ (ak a5) hb) <| p_ (Kd.pJ Us hb) <| a_ (dP au hb)
 (try clear hb)
 refine hK.out _ _ ((aP a5.out 0).trans rfl) (fun hH=>?_)
 clear hK K
 refine eX (some 36) ?_
 refine sN (i:=6) (N:=some 8) Lr aB ?_
 refine iP aB ?_
 go_upto_if 37 with (fail)
 obtain ⟨H⟩:=b9
 revert H;refine gJ (fun af H=>?_) fun af H=>?_
 ·try simp only [aY,bf,af]
  obtain rfl:=dF H
  go_wp2
  go_ret
  exact ⟨bM,au⟩
 try simp only [aY,bf,af]
 obtain ⟨br,H⟩:=gK H
 obtain ⟨bu,H⟩:=gK H
 have bb:=m_ H
 clear H
 have Ku:=dh a5.out
 have b0:0≤(a8:Int):=bF bG
 have b1:a8 < (aI.length:Int):=bF bG
 obtain ⟨bv,bi,aa,ab,ac⟩:=kY lq.out a8 b0 b1
 cases bi
 replace aa:=iQ HB.out aa
 replace ab:=iQ HB.out ab
 replace ac:=iQ HB.out ac
 replace b0:=eq_true b0
 replace b1:=eq_true b1
 go_upto_if 40 with (fail)
 (try clear Ku)
 (try clear aa ab ac)
 obtain ⟨H⟩:=bb
 obtain ⟨VF,Qm⟩:∃ IK:Bool,IK=((aC aI a8).f1):=⟨_,rfl⟩
 replace H:(if (VF=true) then (oH.l0 k2 a6 (wrap64 (a7+1)) aI) else (some 4))=some r:=by rw [← Qm] at H;exact H
 have abL:=m_ Qm
 clear Qm
 (try rw [← abL.out])
 by_cases bc:(VF=true)
 rotate_left
 ·replace bc:=Bool.eq_false_iff.mpr bc
  subst bc
  rw [if_neg iI] at H
  obtain rfl:=dF H
  go_wp2
  go_ret
  exact ⟨bM,au⟩
 subst bc
 rw [if_pos rfl] at H
 have H':=m_ H
 clear H
 go_wp2
 go_roundg k2
 case measure=>have:=HJ2.out;have:=jM.out;omega
 case rel=>exact ⟨(wrap64 (a7+1)),bg,H',⟨(by have:=HJ2.out;have:=jM.out;omega)⟩,⟨(aJ dn)⟩,⟨(ak a5)⟩,⟨au⟩⟩

theorem n_:Flat.wR aU kM:=⟨fun w base ok x=>qp w base ok x,fun w x cs h=>JJ h⟩
theorem acU (p:aF→Bool) (g:Nat) (lb:Array Value) (eg:∀ args w,(callFunc g args).run Tryz.prog w=.ok (.enter g args) w) (gb:Nat) (ob:Obj)
  (hp:∀ (x:aF) (W:World),W.heap[gb]?=some ob→Calls Tryz.prog g (#[.agg (kM x).toArray]++lb) W fun e w'=>e=.returned (.bool (p x))∧Below W.heap.size W w')
  (dU:Nat→Prop) (je:Value) (l0:List aF) (w0 w:World) (hB:Below w0.heap.size w0 w) (ho0:Kd.R aU 43 w w0.heap.size dU je l0) (hbig:l0.length≤9223372036854775807) (hcl:w.heap[gb]?=some ob) (hne:some gb≠je.ownBlock) :
  Calls Tryz.prog 111 #[je,.func (.func g) #[] lb] w fun e w'=>∃ eP:Value,e=.returned eP∧Kd.R aU 43 w' w0.heap.size (fun ay=>(dU ay∨w.heap.size≤ay)) eP (l0.filter fun y=>!p y)∧Below w0.heap.size w0 w'∧Kept w w' (fun ay=>dU ay):=by
 obtain ⟨A,c,rfl,hnc,hC⟩:=Kd.KQ ho0
 have hIF:=MZ p g lb eg A c l0 w hC hbig (fun W x hW=>(hp x W (bZ hcl hW)).mono fun e w' hq=>⟨hq.1,hW.trans (hq.2.mono hW.size)⟩)
 have HB:=m_ hB
 have HO:=m_ ho0
 have uf:=underlying43
 rcases Flat.Y_ p default l0 0 with ⟨e1,hall⟩|⟨a,b,c',hl,e1,hb,ha⟩
 ·have e2:Lib.idxBy (fun _ y=>p y) l0 default = -1:=e1
  rw [e2] at hIF
  rw [hall]
  clear e1 e2 hall hC ho0 hp hB hcl hne
  go_enter func111,ntmps111
  go_wp2_with (go_at_call 60;refine hIF.mono ?_;rintro e w1 ⟨rfl,hb⟩)
  go_ret
  exact ⟨_,rfl,Kd.bn (Kd.dw HO.out hb) (fun _ h=>.inl h),dP HB.out hb,Kept.of_below hb _⟩
 ·have e2:Lib.idxBy (fun _ y=>p y) l0 default=((a.length:Nat):Int):=e1.trans (by rw [Nat.zero_add])
  rw [e2] at hIF
  have hpos:0 < l0.length:=by rw [hl];simp;omega
  have hst:=Flat.wO.start (c:=c') hb ha
  rw [← hl] at hst
  obtain ⟨g0,cap,hv,hbg,hlt,cells,hh⟩:=Kd.yQ ho0 hpos
  injection hv with hv1 _ hv2
  subst hv1;subst hv2
  have ail:gb≠g0:=fun e=>hne (by rw [e];rfl)
  have HST:=m_ hst
  have U2:=m_ hcl
  have HP:=m_ hp
  have U3:=m_ (ho0.1 g0 rfl)
  have hne1:(((a.length:Nat):Int) == -1)=false:=beq_eq_false_iff_ne.2 (by omega)
  have hal:a.length < l0.length:=by rw [hl];simp
  have HL:=m_ hal
  clear e1 e2 hl hb ha hp hst hC hcl hB ho0 hh hne
  go_enter func111,ntmps111
  go_wp2_with (go_at_call 60;refine hIF.mono ?_;rintro e w1 ⟨rfl,hb⟩)
  go_loopg [5,6,7] l0.length (fun gg s5 s6 _ wr=>∃ (i j:Nat) (l:List aF),s5=ah i∧s6=ah j∧l0.length - j≤gg∧aA (Flat.wO p l0 i j l)∧aA (Kd.R aU 43 wr w0.heap.size (fun ay=>(dU ay∨w.heap.size≤ay)) (.slice (some ⟨g0,0,none⟩) l0.length c) l)∧aA (Below w0.heap.size w0 wr)∧aA (Kept w wr (fun ay=>dU ay))∧aA (wr.heap[gb]?=some ob))
  case atStart=>exact ⟨a.length,a.length+1,l0,rfl,(by have:=HL.out;go_num),(by omega),HST,⟨Kd.bn (Kd.dw HO.out hb) (fun _ h=>.inl h)⟩,⟨dP HB.out hb⟩,⟨Kept.of_below hb _⟩,⟨bZ U2.out hb⟩⟩
  case round =>
  obtain ⟨i,j,l,rfl,rfl,hgg,HI,HR,HB1,HK,OB⟩:=hrel
  have hij:=HI.out.lt
  have hjn:=HI.out.le
  have hll:=HI.out.len
  clear HST U2 HO HB
  by_cases hjl:j < l0.length
  rotate_left
  ·have hjz:¬ ((j:Int) < (l0.length:Int)):=by omega
   have hje:j=l0.length:=by omega
   have hci:¬ (c=i):=by omega
   have hin:i≤l0.length:=by omega
   have hcl:∀ ty,(Builtin.clear_ #[26] ty #[.slice (some ⟨g0,i * 3,none⟩) (l0.length - i) (c - i)]).run Tryz.prog wr=.ok (.tuple #[]) (wr.setCells g0 (i * 3) ((List.replicate (l0.length - i) z43).flatMap kM)):=fun ty=>Flat.aki n_ (by decide) HR.out 26 ty _ z43 rfl underlying26 Tryz.zeroValue43 i (l0.length - i) (c - i) (by omega) (by omega)
   go_wp2
   go_ret
   have hS:=Flat.Vm n_ HR.out i (List.replicate (l0.length - i) z43) (by rw [List.length_replicate];omega)
   have hT:=Kd.abX (m:=i) hS.1 (by simp [List.length_take,List.length_drop];omega)
   rw [List.append_assoc,List.take_left' (by simp [List.length_take];omega)] at hT
   have hD:=HI.out
   rw [hje] at hD
   rw [hD.done] at hT
   refine ⟨_,rfl,hT,ZI HB1.out (some g0) HB1.out.size hS.2 (fun k hk=>?_),Kept.BJ hS.2 HK.out (fun k hk=>?_)⟩
   ·obtain rfl:=dF hk
    exact hbg
   ·obtain rfl:=dF hk
    exact .inl U3.out
  have hjz:(j:Int) < (l0.length:Int):=by omega
  have hx:=HI.out.at_ hjl (by omega)
  have hR:=HR.out
  obtain ⟨x,hxe⟩:∃ x,x=l0[j]:=⟨_,rfl⟩
  have alY:wr.cell? ⟨g0,j * 3,none⟩=some (.string x.f0):=by rw [hxe,← hx];exact Flat.Bd n_ hR j (by omega) 0 _ rfl
  have alZ:wr.cell? ⟨g0,j * 3+1,none⟩=some (.bool x.f1):=by rw [hxe,← hx];exact Flat.Bd n_ hR j (by omega) 1 _ rfl
  have al0:wr.cell? ⟨g0,j * 3+2,none⟩=some (.string x.f2):=by rw [hxe,← hx];exact Flat.Bd n_ hR j (by omega) 2 _ rfl
  have hcall:∀ W',Below wr.heap.size wr W'→W'.heap[wr.heap.size]?=some (.cells #[.string x.f0,.bool x.f1,.string x.f2] 43)→Calls Tryz.prog g (#[.agg #[.string x.f0,.bool x.f1,.string x.f2]]++lb) W' fun e w'=>e=.returned (.bool (p x))∧Below wr.heap.size wr w'∧w'.heap[wr.heap.size]?=some (.cells #[.string x.f0,.bool x.f1,.string x.f2] 43):=fun W' hW hx=>(HP.out x W' (bZ OB.out hW)).mono fun e w' hq=>⟨hq.1,Pn hW hW.size hq.2,bZ hx hq.2⟩
  have OW:=m_ hxe
  clear hxe hx hR
  cases hq:p x with
  | false =>
   rw [hq] at hcall
   go_wp2_with (go_at_fn g;refine (hcall _ ?hbl ?hbx).mono ?_;(case hbl=>exact mY (Below.refl _ _) _);(case hbx=>exact heap_alloc_new ..);rintro e w1 ⟨rfl,hb1,hbx⟩;have hv0:w1.cell? ⟨wr.heap.size,0,none⟩=some (.string x.f0):=(aP hbx 0).trans rfl;have hv1:w1.cell? ⟨wr.heap.size,1,none⟩=some (.bool x.f1):=(aP hbx 1).trans rfl;have hv2:w1.cell? ⟨wr.heap.size,2,none⟩=some (.string x.f2):=(aP hbx 2).trans rfl;have HR1:=m_ (Kd.dw HR.out hb1);have HB2:=m_ hb1;have hi0:=Flat.Bd n_ HR1.out i (by omega) 0 _ rfl;have hi1:=Flat.Bd n_ HR1.out i (by omega) 1 _ rfl;have hi2:=Flat.Bd n_ HR1.out i (by omega) 2 _ rfl;have hf0:=Flat.O7 n_ HR1.out (i * 3);have hf1:=Flat.O7 n_ HR1.out (i * 3+1);have hf2:=Flat.O7 n_ HR1.out (i * 3+2);clear hbx hb1;(try simp only [show aU.sz=3 from rfl,Nat.add_zero] at hi0 hi1 hi2))
   go_roundg (l0.length - (j+1))
   case measure=>omega
   case rel =>
   have hS:=Flat.Vm n_ HR1.out i [x] (by show i+1≤l.length;omega)
   refine ⟨i+1,j+1,l.take i++[x]++l.drop (i+1),(by go_num),(by go_num),(by omega),⟨?_⟩,⟨hS.1⟩,⟨ZI (Pn HB1.out HB1.out.size HB2.out) (some g0) (Nat.le_trans HB1.out.size HB2.out.size) hS.2 (fun k hk=>?_)⟩,⟨Kept.BJ hS.2 (Kept.below HK.out HB2.out) (fun k hk=>?_)⟩,⟨iy (bZ OB.out HB2.out) hS.2 (fun e=>ail (dF e))⟩⟩
   ·rw [OW.out]
    exact HI.out.keep hjl (by rw [← OW.out];exact hq)
   ·obtain rfl:=dF hk
    exact hbg
   ·obtain rfl:=dF hk
    exact .inl U3.out
  | true =>
   rw [hq] at hcall
   go_wp2_with (go_at_fn g;refine (hcall _ ?hbl ?hbx).mono ?_;(case hbl=>exact mY (Below.refl _ _) _);(case hbx=>exact heap_alloc_new ..);rintro e w1 ⟨rfl,hb1,hbx⟩;have HB2:=m_ hb1;clear hbx hb1)
   go_roundg (l0.length - (j+1))
   case measure=>omega
   case rel=>exact ⟨i,j+1,l,rfl,(by go_num),(by omega),⟨HI.out.skip hjl (by rw [← OW.out];exact hq)⟩,⟨Kd.dw HR.out HB2.out⟩,⟨dP HB1.out HB2.out⟩,⟨Kept.below HK.out HB2.out⟩,⟨bZ OB.out HB2.out⟩⟩
def J3.f (l0:List aF) (qm:ByteArray):Option (List aF):=if l0.length≤9223372036854775807 then some (l0.filter fun y=>!Aj.p qm y) else none
theorem J3.calls (dU:Nat→Prop) (je:Value) (l0:List aF) (a6:Nat) (a5:ByteArray) (r:List aF) (w0 w:World) (hB:Below w0.heap.size w0 w) (ho0:Kd.R aU 43 w w0.heap.size dU je l0) (a7:w.heap[a6]?=some (.cells #[.string a5] 9)) (h:J3.f l0 a5=some r) :
  Calls Tryz.prog 111 #[je,.func (.func 112) #[] #[.pointer (some ⟨a6,0,none⟩)]] w fun e w'=>∃ eP:Value,e=.returned eP∧Kd.R aU 43 w' w0.heap.size (fun ay=>(dU ay∨w.heap.size≤ay)) eP r∧Below w0.heap.size w0 w'∧Kept w w' (fun ay=>dU ay):=by
 unfold J3.f at h
 split at h
 case isFalse=>cases h
 case isTrue hl =>
 obtain rfl:=dF h
 exact acU (fun y=>Aj.p a5 y) 112 #[.pointer (some ⟨a6,0,none⟩)] (fun args W=>Dn func112 rfl rfl args W) a6 (.cells #[.string a5] 9) (fun x W hx=>Aj x a6 a5 W hx) dU je l0 w0 w hB ho0 hl a7 (Kd.fV ho0 a7 (by decide))

def u_.f (a5:List (aF)) (a1:ByteArray):Option ((List (aF))):=(Ec.f a5).bind fun a6=>((J3.f a6 a1).bind fun a7=>(some a7))
theorem u_.calls (aK:Option Addr) (ai:Nat) (aI:List (aF)) (a1:ByteArray) (r:List (aF)) (w:World) (aN:Kd.C aU w aK aI.length aI) (aQ:aI.length≤ai) (h:u_.f aI a1=some r) :
  Calls Tryz.prog 64 #[.agg #[.slice aK aI.length ai],.string a1] w fun e w'=>∃ eP:Value,e=.returned (.agg #[eP])∧Kd.R aU 43 w' w.heap.size (fun _=>True) eP r∧Below w.heap.size w w':=by
 have mF:=underlying28
 have lq:=m_ aN
 have ap:=m_ aQ
 clear aN aQ
 have HB:=m_ (Below.refl w.heap.size w)
 unfold u_.f at h
 have H:=h
 clear h
 obtain ⟨ag,A3,H⟩:=bd_ H
 obtain ⟨aq,A4,H⟩:=bd_ H
 obtain rfl:=dF H
 go_enter func64,ntmps64
 go_wp2_with (first|((with_reducible refine dJ 2 ?_);refine dO 2 (cs:=#[.slice aK aI.length ai]) 28 ?_;intro b5 hg w5 hbox hb;obtain ⟨HB,a5,b6,ar⟩:=kL au hb hbox hg;clear hb hbox hg)|((with_reducible refine dJ 3 ?_);refine dO 3 (cs:=#[.string a1]) 9 ?_;intro al hg w6 hbox hb;obtain ⟨a5,HB,a6,b7,aW,a9,aa⟩:=pq (ak a5) au hb hbox hg;clear hb hbox hg)|((with_reducible refine dJ 4 ?_);refine dO 4 (cs:=#[.slice none 0 0]) 28 ?_;intro av hg w7 hbox hb;obtain ⟨a5,a6,HB,a7,b8,aw,ab,ac,ae,af⟩:=pU (ak a5) (ak a6) au hb hbox hg;clear hb hbox hg;obtain ⟨ax,bH,b9,ba⟩:=g_ a9 aa ab ac;have UF:=dh a5.out)|((with_reducible refine bT 94 ?_);refine bU (some 7) rfl rfl func94 aB rfl #[.slice aK aI.length ai] rfl aX ?_;(with_reducible refine (Ec.calls _ _ aI ag _ pY ap.out A3.out).mono ?_);rintro e bb ⟨azg,rfl,ho0,hb⟩;refine ⟨_,rfl,?_⟩;obtain ⟨a8,a5,a6,a7,HB⟩:=p_ (Kd.dI ho0 (cZ au)) <| lD (ak a5) (ak a6) (ak a7) au hb;(try clear hb);(try clear ho0);obtain ⟨an,ao,b1⟩:=Kd.dK a8.out;subst b1)|((with_reducible refine bT 111 ?_);refine bU (some 9) rfl rfl func111 aB rfl #[.slice an ag.length ao,.func (.func 112) #[] #[.pointer (some ⟨al,0,none⟩)]] rfl aX ?_;(with_reducible refine (J3.calls (fun ay=>some ay=(.slice an ag.length ao:Value).ownBlock) (.slice an ag.length ao) ag al a1 aq w _ ?kX (Kd.tV rfl a8.out) ?oI A4.out).mono ?_);(case kX=>repeat (first|(with_reducible first|exact HB.out|apply mY|apply qN|apply lC|refine iF ?_ ar.out|refine iF ?_ aW.out|refine iF ?_ aw.out)|exact HB.out));(case oI=>(with_reducible repeat (first|refine mW ?_ _|refine iD ?_|refine kU ?_ _));exact a6.out);rintro e bc ⟨v218,rfl,ho0,hb,hkp⟩;refine ⟨_,rfl,?_⟩;obtain ⟨a5,a6,a7,am,HB⟩:=p_ (vW (ak a5) hkp (fun hs_=>(fun e_=>(Kd.fV a8.out a5.out (by decide)) e_) hs_)) <| p_ (vW (ak a6) hkp (fun hs_=>(fun e_=>(Kd.fV a8.out a6.out (by decide)) e_) hs_)) <| p_ (vW (ak a7) hkp (fun hs_=>(fun e_=>(Kd.fV a8.out a7.out (by decide)) e_) hs_)) <| p_ (Kd.bn (ok':=fun ay=>True) ho0 (fun ay mZ=>trivial)) <| a_ (hb);(try clear hb);(try clear hkp);(try clear ho0);obtain ⟨b2,b3,b4⟩:=Kd.dK am.out;subst b4;obtain ⟨az,b0⟩:=gB af ae;have Ol:=dh a7.out))
 refine bodyPost_ret (results_cell_row rfl _ _ av 28 #[.slice b2 aq.length b3] (0,0) _ rfl aT underlying28 rfl aB) rfl ?_
 exact ⟨_,bM,(by (with_reducible repeat (first|apply Kd.dB|apply Kd.dD|apply Kd.aZ));exact Kd.bn (aH (Kd.bQ am.out a7.out (by decide))) (fun _ hk=>trivial)),au⟩

theorem ai5 (dU:Nat→Prop) (je:Value) (l0:List aF) (o9:Nat→Prop) (vb vc:Nat) (y:aF) (w0 w:World) (hB:Below w0.heap.size w0 w) (ho0:Kd.R aU 43 w w0.heap.size dU je l0) (ho2:Kd.R aU 43 w w0.heap.size o9 (.slice (some ⟨vb,0,none⟩) 1 vc) [y]) (hbig:(l0.length+1) * 40≤140737488355328) :
  Calls Tryz.prog 66 #[je,ah l0.length,.slice (some ⟨vb,0,none⟩) 1 vc] w fun e w'=>∃ eP:Value,e=.returned eP∧Kd.R aU 43 w' w0.heap.size (fun ay=>((dU ay∨o9 ay)∨w.heap.size≤ay)) eP (l0++[y])∧Below w0.heap.size w0 w'∧Kept w w' (fun ay=>dU ay∨o9 ay):=by
 have U_:=m_ (Kd.dN ho2).2.2
 have HO:=m_ (Kd.bn (ok':=fun ay=>((dU ay∨o9 ay)∨w.heap.size≤ay)) ho0 (fun k h=>.inl (.inl h)))
 have HG:=m_ ho0.1
 have HB:=m_ hB
 have HL:=m_ hbig
 rcases Flat.Vo ho0 with ⟨rfl,hn⟩|⟨g,c,rfl,hnc,hcm⟩
 ·obtain rfl:=List.eq_nil_of_length_eq_zero hn
  clear ho0 ho2 hB hbig hn
  go_enter func66,ntmps66
  go_wp2_with ((with_reducible refine xH (b:=.append) (xs:=#[.tmp 23,.tmp 24]) rfl ?_);at_builtin;refine Kd.EL aU (w0:=w0) w0.heap.size rfl (.tmp 23) (.tmp 24) 26 43 (.agg #[(.string ⟨#[]⟩),(.bool false),(.string ⟨#[]⟩)]) 40 rfl underlying26 pV rfl (by decide) (by omega) _ [] [y] _ _ _ _ (fun _=>False) rfl rfl HO.out U_.out ?aM (fun _ h=>h.elim) (fun k h=>.inr h) HB.out HB.out.size HL.out ?_;(case aM=>intro x cs h;have h:=JJ h;subst h;exact qp _ _ _ x);intro v1 w1 hR hB1 hg hat)
  go_ret
  exact ⟨_,rfl,hR,hB1,Kept.BJ hg (Kept.refl _ _) (fun k hk=>.inl (.inl (HG.out k hk)))⟩
 ·clear ho0 ho2 hB hbig
  go_enter func66,ntmps66
  go_wp2_with ((with_reducible refine xH (b:=.append) (xs:=#[.tmp 23,.tmp 24]) rfl ?_);at_builtin;refine Kd.EL aU (w0:=w0) w0.heap.size rfl (.tmp 23) (.tmp 24) 26 43 (.agg #[(.string ⟨#[]⟩),(.bool false),(.string ⟨#[]⟩)]) 40 rfl underlying26 pV rfl (by decide) (by omega) _ l0 [y] _ _ _ _ (fun _=>False) rfl rfl HO.out U_.out ?aM (fun _ h=>h.elim) (fun k h=>.inr h) HB.out HB.out.size HL.out ?_;(case aM=>intro x cs h;have h:=JJ h;subst h;exact qp _ _ _ x);intro v1 w1 hR hB1 hg hat)
  all_goals (go_ret;exact ⟨_,rfl,hR,hB1,Kept.BJ hg (Kept.refl _ _) (fun k hk=>.inl (.inl (HG.out k hk)))⟩)
theorem ai7 (g c i vb vc n:Nat) (l0:List aF) (y:aF) (w0 w:World) (dU o9:Nat→Prop) (hn:l0.length=n) (hi:i < n) (hroom:n+1≤c) (hvb:vb≠g) (hB:Below w0.heap.size w0 w) (ho0:Kd.R aU 43 w w0.heap.size dU (.slice (some ⟨g,0,none⟩) n c) l0) (ho2:Kd.R aU 43 w w0.heap.size o9 (.slice (some ⟨vb,0,none⟩) 1 vc) [y]) :
  Calls Tryz.prog 66 #[.slice (some ⟨g,0,none⟩) n c,ah i,.slice (some ⟨vb,0,none⟩) 1 vc] w fun e w'=>∃ eP:Value,e=.returned eP∧Kd.R aU 43 w' w0.heap.size (fun ay=>((dU ay∨o9 ay)∨w.heap.size≤ay)) eP (l0.take i++[y]++l0.drop i)∧Below w0.heap.size w0 w'∧Kept w w' (fun ay=>dU ay∨o9 ay):=by
 obtain ⟨hbg,hok,_,hnc,hcm,cur,hh,hcs,ht⟩:=Flat.IE n_ ho0
 obtain ⟨hbv,_,_,aiU,aiV,zX,Aq,Ti,hvt⟩:=Flat.IE n_ ho2
 change cur.size=c * 3 at hcs
 change zX.size=vc * 3 at Ti
 change cur.toList.take (n * 3)=_ at ht
 change zX.toList.take (1 * 3)=kM y++[] at hvt
 rw [List.append_nil] at hvt
 have hc63:c≤9223372036854775807:=by simp only [maxLen] at hcm;omega
 have mixed:Tryz.prog.follows .mixedOrders=true:=by kernel_rfl
 have hsz:(Tryz.prog.info? 43).map (·.size)=some 3:=by
  obtain ⟨i0,hi0,h0,h1,h2⟩:=info_parts pV
  rw [hi0];simp [h1]
 have hYl:(kM y).length=3:=rfl
 have hDl:((l0.drop i).flatMap kM).length=(n - i) * 3:=by rw [Flat.yX n_.len,List.length_drop,hn];rfl
 have hDe:=Flat.Xq (enc:=kM) (sz:=3) n_.len l0 i (by omega)
 have hone:∀ (xs:List aF),∀ v ∈ xs.flatMap kM,v.oneCell'=true:=fun xs v hv=>by
  obtain ⟨x,_,hx⟩:=List.mem_flatMap.1 hv
  exact n_.one x v hx
 have hcell:∀ (W:World),W.heap[g]?=some (.cells cur 43 (0,0))→∀ j v,((l0.drop i).flatMap kM)[j]?=some v→W.cell? ((⟨g,i * 3,none⟩:Addr).add j)=some v:=fun W hW j v hj=>by
  rw [Addr.add_lit,aP hW,← Array.getElem?_toList]
  rw [hDe,← ht,List.getElem?_drop,List.getElem?_take] at hj
  split at hj
  ·exact hj
  ·cases hj
 have hsome:∀ j,j < c * 3→(w.cell? ⟨g,j,none⟩).isSome=true:=fun j hj=>by
  rw [aP hh];simp;omega
 have hfz:∀ j,w.frozen? ⟨g,j,none⟩=false:=fun j=>bP hh j
 have Jz:∀ (W:World),W.heap[vb]?=some (.cells zX 43 (0,0))→∀ j v,(kM y)[j]?=some v→W.cell? ((⟨vb,0,none⟩:Addr).add j)=some v:=fun W hW j v hj=>by
  rw [Addr.add_lit,Nat.zero_add,aP hW,← Array.getElem?_toList]
  rw [← hvt,List.getElem?_take] at hj
  split at hj
  ·exact hj
  ·cases hj
 have hov:∀ lb cb,(callFunc 113 #[.slice (some ⟨vb,0,none⟩) 1 vc,.slice (some ⟨g,(i+1) * 3,none⟩) lb cb]).run Tryz.prog w=.ok (.value (.bool false)) w:=fun lb cb=>by
  rw [run_callFunc_extern func113 aB aB aB (e:=Extern.SlicesOverlaps.overlaps #[26,26] #[4]) aB,
   Lib.run_overlaps_apart w 26 4 43 underlying26 3 Tryz.sizeOf43 ⟨vb,0,none⟩ ⟨g,(i+1) * 3,none⟩ 1 vc lb cb hvb 43 43 zX.size cur.size (by simp [World.shape?,Aq]) (by simp [World.shape?,hh]) (by omega) (bP Aq _) (bP Aq _)]
  rfl
 have hz1:¬ ((1:Int)=0):=by omega
 have hz2:¬ ((i:Int)=(n:Int)):=by omega
 have hw1:IntKind.i64.wrap ((i:Int)+(1:Int))=(i:Int)+(1:Int):=by rw [IntKind.wrap_i64];omega
 have hw2:IntKind.i64.wrap ((n:Int)+(1:Int))=(n:Int)+(1:Int):=by rw [IntKind.wrap_i64];omega
 have hb1:(0:Int)≤(i:Int)+(1:Int):=by omega
 have hin:i≤n:=by omega
 have htn:((i:Int)+(1:Int)).toNat=i+1:=by omega
 have hb2:¬ (c=i+1):=by omega
 have hb3:(i:Int)≤(n:Int)+(1:Int):=by omega
 have hb4:¬ (c=i):=by omega
 have hcp1:∀ ty dc sc,(Builtin.copy_ #[26,26] ty #[.slice (some ⟨g,(i+1) * 3,none⟩) (n - i) dc,.slice (some ⟨g,i * 3,none⟩) (n+1 - i) sc]).run Tryz.prog w.drew=.ok (goInt ((n - i:Nat):Int)) (w.drew.setCells g ((i+1) * 3) ((l0.drop i).flatMap kM)):=fun ty dc sc =>
  Flat.NH w.drew 26 26 ty 43 g ((i+1) * 3) (n - i) dc ⟨g,i * 3,none⟩ (n+1 - i) sc 3 (n - i) _ underlying26 hsz (by simp only [Nat.min_def];split <;> omega) hDl
   (hcell w.drew hh) (fun j hj=>hsome _ (by omega)) (fun j hj=>hfz _) (hone _)
 obtain ⟨W1,hW1⟩:∃ W1,W1=w.drew.setCells g ((i+1) * 3) ((l0.drop i).flatMap kM):=⟨_,rfl⟩
 obtain ⟨I9,h1,s1,_⟩:=AU ((l0.drop i).flatMap kM) ((i+1) * 3) w.drew cur hh (by rw [hDl];omega)
 rw [← hW1] at h1
 have hv1:W1.heap[vb]?=some (.cells zX 43 (0,0)):=by rw [hW1,Eb _ _ _ hvb];exact Aq
 have hcp2:∀ (W:World),(∀ x,W.cell? x=W1.cell? x)→(∀ x,W.frozen? x=W1.frozen? x)→∀ ty dc,(Builtin.copy_ #[26,26] ty #[.slice (some ⟨g,i * 3,none⟩) (n+1 - i) dc,.slice (some ⟨vb,0,none⟩) 1 vc]).run Tryz.prog W=.ok (goInt ((1:Nat):Int)) (W.setCells g (i * 3) (kM y)):=fun W hWc hWf ty dc =>
  Flat.NH W 26 26 ty 43 g (i * 3) (n+1 - i) dc ⟨vb,0,none⟩ 1 vc 3 1 _ underlying26 hsz (by simp only [Nat.min_def];split <;> omega) hYl
   (fun j v hj=>by rw [hWc];exact Jz W1 hv1 j v hj) (fun j hj=>by rw [hWc,aP h1];rw [hYl] at hj;simp;omega) (fun j hj=>by rw [hWf];exact bP h1 _) (n_.one y)
 have HI:=m_ (Flat.ai_ n_ hn (W:=w.drew) hh hcs ht i (by omega) hroom y)
 have HW:=m_ hW1
 have HH:=m_ (And.intro hB (And.intro hbg (And.intro hok (And.intro hcm hn))))
 rw [← hW1] at hcp1
 clear hh Aq ht hvt hcell Jz hsome hfz ho0 ho2 hone hDe h1 hv1 hW1 hsz hB
 go_enter func66,ntmps66
 go_wp2_with (simp only [hov])
 go_region_law_o (refine step_copy_runI rfl _ _ 26 26 rfl _ _ (by simp [Act.eval,Act.put]) (by simp [Act.eval,Act.put]) (hcp1 _ _ _) ?_)
 go_wp2_with (at_builtin;refine wpList_copy_runI _ rfl _ _ 26 26 rfl _ _ rfl rfl (hcp2 _ (fun _=>rfl) (fun _=>rfl) _ _) ?_)
 go_ret
 obtain ⟨xE,h2,s2,t2⟩:=HI.out
 obtain ⟨hB,hbg,hok,hcm,hn⟩:=HH.out
 rw [HW.out]
 refine ⟨_,rfl,Flat.Vp n_ hbg (.inl (.inl hok)) (by simp [List.length_take,List.length_drop];omega) hroom hcm h2 s2 t2,?_,?_⟩
 ·exact Flat.Le (Flat.Le hB.drew hbg _ _) hbg _ _
 ·exact Flat.Nk (Flat.Nk (Kept.drew (Kept.refl _ _)) (.inl (.inl hok)) _ _) (.inl (.inl hok)) _ _
theorem ai6 (g c i vb vc n:Nat) (l0:List aF) (y:aF) (w0 w:World) (dU o9:Nat→Prop) (hn:l0.length=n) (hi:i < n) (hroom:c < n+1) (hbig:(n+1) * 40≤140737488355328) (hB:Below w0.heap.size w0 w) (ho0:Kd.R aU 43 w w0.heap.size dU (.slice (some ⟨g,0,none⟩) n c) l0) (ho2:Kd.R aU 43 w w0.heap.size o9 (.slice (some ⟨vb,0,none⟩) 1 vc) [y]) :
  Calls Tryz.prog 66 #[.slice (some ⟨g,0,none⟩) n c,ah i,.slice (some ⟨vb,0,none⟩) 1 vc] w fun e w'=>∃ eP:Value,e=.returned eP∧Kd.R aU 43 w' w0.heap.size (fun ay=>((dU ay∨o9 ay)∨w.heap.size≤ay)) eP (l0.take i++[y]++l0.drop i)∧Below w0.heap.size w0 w'∧Kept w w' (fun ay=>dU ay∨o9 ay):=by
 obtain ⟨hbg,hok,_,hnc,hcm,cur,hh,hcs,ht⟩:=Flat.IE n_ ho0
 obtain ⟨hbv,_,_,aiU,aiV,zX,Aq,Ti,hvt⟩:=Flat.IE n_ ho2
 change cur.size=c * 3 at hcs
 change zX.size=vc * 3 at Ti
 change cur.toList.take (n * 3)=_ at ht
 change zX.toList.take (1 * 3)=kM y++[] at hvt
 rw [List.append_nil] at hvt
 have hc63:c≤9223372036854775807:=by simp only [maxLen] at hcm;omega
 have mixed:Tryz.prog.follows .mixedOrders=true:=by kernel_rfl
 obtain ⟨i0,hi0,hz0,hzs,hzb⟩:=info_parts pV
 have hsz:(Tryz.prog.info? 43).map (·.size)=some 3:=by rw [hi0];simp [hzs]
 have hYl:(kM y).length=3:=rfl
 have hDl:((l0.drop i).flatMap kM).length=(n - i) * 3:=by rw [Flat.yX n_.len,List.length_drop,hn];rfl
 have hDe:=Flat.Xq (enc:=kM) (sz:=3) n_.len l0 i (by omega)
 have hTe:=Flat.Xr (enc:=kM) (sz:=3) n_.len l0 i (by omega)
 have hTl:((l0.take i).flatMap kM).length=i * 3:=by rw [Flat.yX n_.len,List.length_take,hn,Nat.min_eq_left (by omega)];rfl
 have hone:∀ (xs:List aF),∀ v ∈ xs.flatMap kM,v.oneCell'=true:=fun xs v hv=>by
  obtain ⟨x,_,hx⟩:=List.mem_flatMap.1 hv
  exact n_.one x v hx
 have hcell:∀ (W:World),W.heap[g]?=some (.cells cur 43 (0,0))→∀ j v,((l0.drop i).flatMap kM)[j]?=some v→W.cell? ((⟨g,i * 3,none⟩:Addr).add j)=some v:=fun W hW j v hj=>by
  rw [Addr.add_lit,aP hW,← Array.getElem?_toList]
  rw [hDe,← ht,List.getElem?_drop,List.getElem?_take] at hj
  split at hj
  ·exact hj
  ·cases hj
 have hcellT:∀ j v,((l0.take i).flatMap kM)[j]?=some v→w.cell? ((⟨g,0,none⟩:Addr).add j)=some v:=fun j v hj=>by
  rw [Addr.add_lit,Nat.zero_add,aP hh,← Array.getElem?_toList]
  rw [hTe,← ht,List.getElem?_take] at hj
  split at hj
  ·rw [List.getElem?_take] at hj
   split at hj
   ·exact hj
   ·cases hj
  ·cases hj
 have Jz:∀ (W:World),W.heap[vb]?=some (.cells zX 43 (0,0))→∀ j v,(kM y)[j]?=some v→W.cell? ((⟨vb,0,none⟩:Addr).add j)=some v:=fun W hW j v hj=>by
  rw [Addr.add_lit,Nat.zero_add,aP hW,← Array.getElem?_toList]
  rw [← hvt,List.getElem?_take] at hj
  split at hj
  ·exact hj
  ·cases hj
 have hbw:g < w.heap.size:=gu hh
 have hvw:vb < w.heap.size:=gu Aq
 have hkk:(n:Int)+(1:Int) - (i:Int)=((n+1 - i:Nat):Int):=by omega
 have hik:i+(n+1 - i)=n+1:=by omega
 have hold:(Builtin.firstCells i0.size i (.slice (some ⟨g,0,none⟩) i c)).run Tryz.prog w.drew=.ok ((l0.take i).flatMap kM).toArray w.drew:=by
  rw [hzs]
  exact run_firstCells_some w.drew 3 i ⟨g,0,none⟩ i c _ hTl (fun j v hj=>hcellT j v hj)
 have hrz:∀ ty,(Builtin.append_ #[26,3] ty #[.slice (some ⟨g,0,none⟩) i c,ah ((n:Int)+(1:Int) - (i:Int))]).run Tryz.prog w =
   .ok (.slice (some ⟨w.heap.size,0,none⟩) (n+1) (grownCap w (n+1) c 43)) (w.drew.alloc (.cells (((l0.take i).flatMap kM).toArray++Builtin.zeroCells ((.agg #[(.string ⟨#[]⟩),(.bool false),(.string ⟨#[]⟩)]):Value).cells (n+1 - i)++Builtin.zeroCells ((.agg #[(.string ⟨#[]⟩),(.bool false),(.string ⟨#[]⟩)]):Value).cells (grownCap w (n+1) c 43 - (n+1))) 43)):=fun ty=>by
  have h:=Lib.run_append_grow_zeros w 26 3 ty 43 i0 _ .i64 .i64 underlying26 underlying3 hi0 hz0 (some ⟨g,0,none⟩) i c _ hold (n+1 - i) (by omega) (by omega) (by omega) (by omega) (by rw [hzb];omega) (by rw [hzb,hik];exact growslice_fits hroom hbig)
  rw [hik] at h
  rw [hkk]
  exact h
 obtain ⟨G,hG⟩:∃ G,G=grownCap w (n+1) c 43:=⟨_,rfl⟩
 obtain ⟨ROW,hROW⟩:∃ ROW:Array Value,ROW=((l0.take i).flatMap kM).toArray++Builtin.zeroCells ((.agg #[(.string ⟨#[]⟩),(.bool false),(.string ⟨#[]⟩)]):Value).cells (n+1 - i)++Builtin.zeroCells ((.agg #[(.string ⟨#[]⟩),(.bool false),(.string ⟨#[]⟩)]):Value).cells (G - (n+1)):=⟨_,rfl⟩
 rw [← hG] at hrz
 rw [← hROW] at hrz
 have hGn:n+1≤G:=by rw [hG];exact grownCap_ge w _ _ _
 have LJ:G≤maxLen:=by rw [hG];exact grownCap_le_maxLen w (n+1) c 43 (by unfold maxLen;omega)
 have hG63:G≤9223372036854775807:=by unfold maxLen at LJ;omega
 have hRs:ROW.size=G * 3:=by
  rw [hROW]
  simp [Builtin.zeroCells,Value.cells,hTl]
  omega
 have XI:ROW.toList.take (i * 3)=(l0.take i).flatMap kM:=by
  rw [hROW]
  simp only [Array.toList_append,List.append_assoc]
  rw [List.take_left' (by rw [← hTl])]
 obtain ⟨W1,hW1⟩:∃ W1,W1=w.drew.alloc (.cells ROW 43):=⟨_,rfl⟩
 rw [← hW1] at hrz
 have hN:W1.heap[w.heap.size]?=some (.cells ROW 43 (0,0)):=by rw [hW1];exact heap_alloc_new w.drew _
 have XH:W1.heap[g]?=some (.cells cur 43 (0,0)):=by rw [hW1];exact kU (w:=w.drew) hh _
 have hOv:W1.heap[vb]?=some (.cells zX 43 (0,0)):=by rw [hW1];exact kU (w:=w.drew) Aq _
 have hcpA:∀ (W:World),(∀ x,W.cell? x=W1.cell? x)→(∀ x,W.frozen? x=W1.frozen? x)→∀ ty dc,(Builtin.copy_ #[26,26] ty #[.slice (some ⟨w.heap.size,i * 3,none⟩) (n+1 - i) dc,.slice (some ⟨vb,0,none⟩) 1 vc]).run Tryz.prog W=.ok (goInt ((1:Nat):Int)) (W.setCells w.heap.size (i * 3) (kM y)):=fun W hWc hWf ty dc =>
  Flat.NH W 26 26 ty 43 w.heap.size (i * 3) (n+1 - i) dc ⟨vb,0,none⟩ 1 vc 3 1 _ underlying26 hsz (by simp only [Nat.min_def];split <;> omega) hYl
   (fun j v hj=>by rw [hWc];exact Jz W1 hOv j v hj) (fun j hj=>by rw [hWc,aP hN];rw [hYl] at hj;simp;omega) (fun j hj=>by rw [hWf];exact bP hN _) (n_.one y)
 obtain ⟨I9,h1,s1,_⟩:=AU (kM y) (i * 3) W1 ROW hN (by rw [hYl];omega)
 have hbN:g≠w.heap.size:=by omega
 have XG:(W1.setCells w.heap.size (i * 3) (kM y)).heap[g]?=some (.cells cur 43 (0,0)):=by rw [Eb _ _ _ hbN];exact XH
 have hcpB:∀ (W:World),(∀ x,W.cell? x=(W1.setCells w.heap.size (i * 3) (kM y)).cell? x)→(∀ x,W.frozen? x=(W1.setCells w.heap.size (i * 3) (kM y)).frozen? x)→∀ ty dc sc,(Builtin.copy_ #[26,26] ty #[.slice (some ⟨w.heap.size,(i+1) * 3,none⟩) (n - i) dc,.slice (some ⟨g,i * 3,none⟩) (n - i) sc]).run Tryz.prog W=.ok (goInt ((n - i:Nat):Int)) (W.setCells w.heap.size ((i+1) * 3) ((l0.drop i).flatMap kM)):=fun W hWc hWf ty dc sc =>
  Flat.NH W 26 26 ty 43 w.heap.size ((i+1) * 3) (n - i) dc ⟨g,i * 3,none⟩ (n - i) sc 3 (n - i) _ underlying26 hsz (by simp only [Nat.min_def];split <;> omega) hDl
   (fun j v hj=>by rw [hWc];exact hcell _ XG j v hj) (fun j hj=>by rw [hWc,aP h1];rw [hDl] at hj;simp;omega) (fun j hj=>by rw [hWf];exact bP h1 _) (hone _)
 have HI:=m_ (Flat.ai9 n_ hn (W:=W1) hN hRs i (by omega) XI hGn y)
 have hGi:¬ (G=i):=by omega
 have hGim:¬ (G=i+1):=by omega
 have hci:¬ (c=i):=by omega
 subst hW1
 have hE1:∀ x,((w.alloc (.cells ROW 43)).drew).cell? x=(w.drew.alloc (.cells ROW 43)).cell? x:=fun x=>rfl
 have hE2:∀ x,((w.alloc (.cells ROW 43)).drew).frozen? x=(w.drew.alloc (.cells ROW 43)).frozen? x:=fun x=>rfl
 have hF1:∀ x,(((w.alloc (.cells ROW 43)).drew.setCells w.heap.size (i * 3) (kM y)).drew).cell? x=((w.drew.alloc (.cells ROW 43)).setCells w.heap.size (i * 3) (kM y)).cell? x:=fun x=>rfl
 have hF2:∀ x,(((w.alloc (.cells ROW 43)).drew.setCells w.heap.size (i * 3) (kM y)).drew).frozen? x=((w.drew.alloc (.cells ROW 43)).setCells w.heap.size (i * 3) (kM y)).frozen? x:=fun x=>rfl
 have hz1:¬ ((1:Int)=0):=by omega
 have hz2:¬ ((i:Int)=(n:Int)):=by omega
 have hz3:(c:Int) < (n:Int)+(1:Int):=by omega
 have hw1:IntKind.i64.wrap ((i:Int)+(1:Int))=(i:Int)+(1:Int):=by rw [IntKind.wrap_i64];omega
 have hw2:IntKind.i64.wrap ((n:Int)+(1:Int))=(n:Int)+(1:Int):=by rw [IntKind.wrap_i64];omega
 have hb1:(0:Int)≤(i:Int)+(1:Int):=by omega
 have hin:i≤n:=by omega
 have htn:((i:Int)+(1:Int)).toNat=i+1:=by omega
 have hb3:(i:Int)≤(n:Int):=by omega
 have HH:=m_ (And.intro hB (And.intro LJ hn))
 clear hkk hik hold hROW hG XI hRs hN XH hOv h1 XG s1 hcell hcellT Jz hone hDe hTe hTl hh Aq ht hvt hsz ho0 ho2 hB
 go_enter func66,ntmps66
 go_wp2_with (first
  | (at_builtin;refine Lib.wpList_append_run _ rfl _ _ _ _ rfl _ _ rfl rfl _ _ (hrz _) ?_)
  | (at_builtin;refine wpList_copy_runI _ rfl _ _ 26 26 rfl _ _ rfl rfl (hcpA _ hE1 hE2 _ _) ?_)
  | (at_builtin;refine wpList_copy_runI _ rfl _ _ 26 26 rfl _ _ rfl rfl (hcpB _ (fun _=>rfl) (fun _=>rfl) _ _ _) ?_))
 go_region_law_o (refine step_copy_runI rfl _ _ 26 26 rfl (.slice (some ⟨w.heap.size,(i+1) * 3,none⟩) (n - i) (G - (i+1))) (.slice (some ⟨g,i * 3,none⟩) (n - i) (c - i)) (by simp [Act.eval,Act.put]) (by simp [Act.eval,Act.put]) (hcpB _ hF1 hF2 3 (G - (i+1)) (c - i)) ?_)
 go_wp2
 go_ret
 obtain ⟨xE,h2,s2,t2⟩:=HI.out
 obtain ⟨hB,LJ,hn⟩:=HH.out
 have hE:((w.alloc (.cells ROW 43)).drew.setCells w.heap.size (i * 3) (kM y)).drew.setCells w.heap.size ((i+1) * 3) ((l0.drop i).flatMap kM)=(((w.drew.alloc (.cells ROW 43)).setCells w.heap.size (i * 3) (kM y)).setCells w.heap.size ((i+1) * 3) ((l0.drop i).flatMap kM)).drew:=(drew_setCells _ _ _ _).symm
 rw [hE]
 refine ⟨_,rfl,Kd.aZ (Flat.Vp n_ hB.size (.inr (Nat.le_refl _)) (by simp [List.length_take,List.length_drop];omega) (by omega) LJ h2 s2 t2),?_,?_⟩
 ·exact (Flat.Le (Flat.Le (hB.drew.alloc hB.size _) hB.size _ _) hB.size _ _).drew
 ·exact Kept.drew (Flat.Nk (Flat.Nk (Kept.alloc (Kept.drew (Kept.refl _ _)) _) (.inr (Nat.le_refl _)) _ _) (.inr (Nat.le_refl _)) _ _)
theorem ai4 (dU:Nat→Prop) (je:Value) (l0:List aF) (i:Nat) (o9:Nat→Prop) (Ep:Value) (y:aF) (w0 w:World) (hB:Below w0.heap.size w0 w) (ho0:Kd.R aU 43 w w0.heap.size dU je l0) (SS:∀ ay,dU ay→¬ o9 ay) (ho2:Kd.R aU 43 w w0.heap.size o9 Ep [y]) (hi:i≤l0.length) (hbig:(l0.length+1) * 40≤140737488355328) :
  Calls Tryz.prog 66 #[je,ah i,Ep] w fun e w'=>∃ eP:Value,e=.returned eP∧Kd.R aU 43 w' w0.heap.size (fun ay=>((dU ay∨o9 ay)∨w.heap.size≤ay)) eP (l0.take i++[y]++l0.drop i)∧Below w0.heap.size w0 w'∧Kept w w' (fun ay=>dU ay∨o9 ay):=by
 obtain ⟨vb,vc,hv,_,_,_⟩:=Kd.yQ ho2 (by simp)
 have hv2:Ep=.slice (some ⟨vb,0,none⟩) 1 vc:=hv
 subst hv2
 by_cases hin:i=l0.length
 ·subst hin
  rw [List.take_length,List.drop_length,List.append_nil]
  exact ai5 dU je l0 o9 vb vc y w0 w hB ho0 ho2 hbig
 rcases Flat.Vo ho0 with ⟨_,hn⟩|⟨g,c,rfl,hnc,hcm⟩
 ·omega
 by_cases hroom:l0.length+1≤c
 ·exact ai7 g c i vb vc l0.length l0 y w0 w dU o9 rfl (by omega) hroom (fun e=>SS g (ho0.1 g rfl) (e ▸ ho2.1 vb rfl)) hB ho0 ho2
 ·exact ai6 g c i vb vc l0.length l0 y w0 w dU o9 rfl (by omega) (by omega) hbig hB ho0 ho2
def Ee.f (l0:List aF) (a1:Int) (l2:List aF):Option (List aF):=if (0≤a1∧a1≤(l0.length:Int))∧l2.length=1∧(l0.length+1) * 40≤140737488355328 then some (l0.take a1.toNat++l2++l0.drop a1.toNat) else none
theorem Ee.calls (dU:Nat→Prop) (je:Value) (l0:List aF) (a1:Int) (o9:Nat→Prop) (Ep:Value) (l2:List aF) (r:List aF) (w0 w:World) (hB:Below w0.heap.size w0 w) (ho0:Kd.R aU 43 w w0.heap.size dU je l0) (SS:∀ ay,dU ay→¬ o9 ay) (ho2:Kd.R aU 43 w w0.heap.size o9 Ep l2) (awS:∀ ay,o9 ay→¬ dU ay) (h:Ee.f l0 a1 l2=some r) :
  Calls Tryz.prog 66 #[je,ah a1,Ep] w fun e w'=>∃ eP:Value,e=.returned eP∧Kd.R aU 43 w' w0.heap.size (fun ay=>((dU ay∨o9 ay)∨w.heap.size≤ay)) eP r∧Below w0.heap.size w0 w'∧Kept w w' (fun ay=>dU ay∨o9 ay):=by
 unfold Ee.f at h
 split at h
 case isFalse=>cases h
 case isTrue hc =>
 obtain ⟨⟨h0,h1⟩,h2,h3⟩:=hc
 obtain rfl:=dF h
 obtain ⟨y,rfl⟩:=List.length_eq_one_iff.1 h2
 obtain ⟨c,rfl⟩:=Int.eq_ofNat_of_zero_le h0
 exact ai4 dU je l0 c o9 Ep y w0 w hB ho0 SS ho2 (by omega) h3

def Au.f (aa:List (aF)) (a5:ByteArray) (a7:Bool) (a8:ByteArray):Option ((List (aF))):=(u_.f aa a5).bind fun a6=>((J4.f a6 a5 a7 a8).bind fun a9=>(if a9 < 0 then ((Ee.f a6 (a6.length:Int) (([(⟨a5,a7,a8⟩:aF)]:List (aF)))).bind fun ab=>(some ab)) else ((Ee.f a6 a9 (([(⟨a5,a7,a8⟩:aF)]:List (aF)))).bind fun ac=>(some ac))))
theorem Au.calls (b4:Option Addr) (b5:Nat) (aI:List (aF)) (fG:ByteArray) (fE:Bool) (fC:ByteArray) (r:List (aF)) (w:World) (dM:Kd.C aU w b4 aI.length aI) (bh:aI.length≤b5) (h:Au.f aI fG fE fC=some r) :
  Calls Tryz.prog 21 #[.agg #[.slice b4 aI.length b5],.agg #[.string fG,.bool fE,.string fC]] w fun e w'=>∃ eP:Value,e=.returned (.agg #[eP])∧Kd.R aU 43 w' w.heap.size (fun _=>True) eP r∧Below w.heap.size w w':=by
 have mF:=underlying28
 have uf:=underlying43
 have lq:=m_ dM
 have bq:=m_ bh
 clear dM bh
 have HB:=m_ (Below.refl w.heap.size w)
 unfold Au.f at h
 have H:=h
 clear h
 obtain ⟨a9,A3,H⟩:=bd_ H
 obtain ⟨b6,A4,H⟩:=bd_ H
 have ce:=m_ H
 clear H
 go_enter func21,ntmps21
 go_upto_if 16 with (first|((with_reducible refine dJ 2 ?_);refine dO 2 (cs:=#[.slice b4 aI.length b5]) 28 ?_;intro br hg w6 hbox hb;obtain ⟨HB,a5,cf,alp⟩:=kL au hb hbox hg;clear hb hbox hg)|((with_reducible refine dJ 3 ?_);refine dO 3 (cs:=#[.string fG,.bool fE,.string fC]) 43 ?_;intro aa hg w7 hbox hb;obtain ⟨a5,HB,a6,cg,alq,ag,aK⟩:=pq (ak a5) au hb hbox hg;clear hb hbox hg)|((with_reducible refine dJ 4 ?_);refine dO 4 (cs:=#[.slice none 0 0]) 28 ?_;intro b7 hg w8 hbox hb;obtain ⟨a5,a6,HB,a7,ch,alr,ai,aN,aQ,al⟩:=pU (ak a5) (ak a6) au hb hbox hg;clear hb hbox hg;obtain ⟨cj,ck,ap,aq⟩:=g_ ag aK ai aN;have UG:=dh a5.out;obtain ⟨ar,aW⟩:=gB aQ al;have bs:=uw a6.out)|((with_reducible refine bT 64 ?_);refine bU (some 10) rfl rfl func64 aB rfl #[.agg #[.slice b4 aI.length b5],.string fG] rfl aX ?_;(with_reducible refine (u_.calls _ _ aI fG a9 _ ?kX ?wH A3.out).mono ?_);(case kX=>exact pY);(case wH=>exact bq.out);rintro e cp ⟨azh,rfl,ho0,hb⟩;refine ⟨_,rfl,?_⟩;obtain ⟨oN,a5,a6,a7,HB⟩:=p_ (Kd.dI (Kd.vS ho0 (g:=aa) (o:=.cells #[.string fG,.bool fE,.string fC] 43) (ak a6)) (cZ au)) <| lD (ak a5) (ak a6) (ak a7) au hb;(try clear hb);(try clear ho0))|((with_reducible refine dJ 5 ?_);refine dO 5 (cs:=#[.slice none 0 0]) 28 ?_;intro bu hg cq hbox hb;obtain ⟨oN,a5,a6,a7,HB,qJ,ci,als,ab,am,a8,an,ac,ao⟩:=p_ (Kd.dw (aJ oN) hb) <| vI (ak a5) (ak a6) (ak a7) au hb hbox hg;clear hb hbox hg;obtain ⟨b2,b1,bv⟩:=Kd.dK oN.out;subst bv;obtain ⟨av,aw,ax,bH,az,b0⟩:=kJ am ab an a8 ao ac;have Ip:=dh qJ.out)|((with_reducible refine bT 60 ?_);refine bU (some 14) rfl rfl func60 aB rfl #[.slice b2 a9.length b1,.func (.func 65) #[] #[.pointer (some ⟨aa,0,none⟩)]] rfl aX ?_;(with_reducible refine (J4.calls _ _ a9 aa fG fE fC b6 _ ?kX ?wH ?oI A4.out).mono ?_);(case kX=>refine (Kd.dN (e:=43) (base:=w.heap.size) (ok:=fun ay=>(True∧ay≠aa)) (n:=a9.length) (c:=b1) ?_).2.2;exact aax);(case wH=>exact (Kd.dN oN.out).2.1);(case oI=>(with_reducible repeat (first|refine mW ?_ _|refine iD ?_|refine kU ?_ _));refine yT ?_ a8.out _;(with_reducible repeat (first|refine mW ?_ _|refine iD ?_|refine kU ?_ _));exact a6.out);rintro e cr ⟨rfl,hb⟩;refine ⟨_,rfl,?_⟩;obtain ⟨oN,a5,a6,a7,qJ,HB⟩:=p_ (Kd.dw aax hb) <| p_ (bZ (g:=br) (o:=.cells #[.slice b4 aI.length b5] 28) (nO a5.out ab.out) hb) <| p_ (bZ (g:=aa) (o:=.cells #[.string fG,.bool fE,.string fC] 43) (nO a6.out a8.out) hb) <| p_ (bZ (g:=b7) (o:=.cells #[.slice none 0 0] 28) (nO a7.out ac.out) hb) <| p_ (bZ (g:=bu) (o:=.cells #[.slice b2 a9.length b1] 28) (yB qJ.out) hb) <| a_ (dP au hb);(try clear hb);(try clear hk)))
 (try simp only [Act.put,List.setIfInBounds_toArray,List.set_cons_zero,List.set_cons_succ])
 (try clear ap aw ar bH aq aW b0 av ax az)
 (try clear UG)
 (try clear bs)
 (try clear Ip)
 (try clear UG)
 (try clear Ip)
 obtain ⟨H⟩:=ce
 revert H;refine gJ (fun b3 H=>?_) fun b3 H=>?_
 rotate_left
 ·try simp only [aY,bf,b3]
  obtain ⟨b8,b9⟩:∃ y_:List (aF),y_=(([(⟨fG,fE,fC⟩:aF)]:List (aF))):=⟨_,rfl⟩
  rw [← b9] at H
  have bi:=m_ b9
  clear b9
  obtain ⟨be,cl,H⟩:=bd_ H
  obtain rfl:=dF H
  obtain ⟨av,aw,ax,bH,az,b0⟩:=kJ am ab an a8 ao ac
  have aBe:=dh qJ.out
  obtain ⟨ba,bb,ar,aW⟩:=g_ aK ag aQ al
  have cm:=uw a6.out
  go_wp2_with (first|((with_reducible refine dJ 24 ?_);refine Kd.sU aU _ 43 ?hg (N:=24) ?hd (xs:=([(⟨fG,fE,fC⟩:aF)]:List (aF))) (inner:=[.string fG,.bool fE,.string fC]) (ok:=fun _=>True) (iJ:=fun _=>True) ?hr ?hp (fun _ hk=>hk) trivial (Below.refl _ _) (Nat.le_refl _) (by simp) ?_;(case hd=>rfl);(case hg=>rfl);(case hr=>first|(go_simp;done)|(go_simp;rfl));(case hp=>exact aaC);intro azi ct G5 hb iV iW;clear iV iW;(first|rw [← bi.out] at G5|(simp only [Int.reduceToNat] at G5;rw [← bi.out] at G5));obtain ⟨oN,ae,a5,a6,a7,qJ,HB⟩:=p_ (Kd.jX (aJ oN) (Kd.jo G5) hb) <| p_ (Kd.dI (Kd.vS (Kd.jY G5 (Kd.jJ (aJ oN))) (g:=aa) (o:=.cells #[.string fG,.bool fE,.string fC] 43) (ak a6)) (cZ au)) <| I4 (ak a5) (ak a6) (ak a7) (ak qJ) au hb;clear hb G5;obtain ⟨jC,gG,bw⟩:=Kd.dK ae.out;subst bw)|((with_reducible refine bT 66 ?_);refine bU (some 25) rfl rfl func66 aB rfl #[.slice b2 a9.length b1,ah b6,.slice jC b8.length gG] rfl aX ?_;(with_reducible refine (Ee.calls (fun ay=>some ay=(.slice b2 a9.length b1:Value).ownBlock) (.slice b2 a9.length b1) a9 b6 (fun ay=>some ay=(.slice jC b8.length gG:Value).ownBlock) (.slice jC b8.length gG) b8 be w _ ?kX ?wH ?oI ?TU ?TV cl.out).mono ?_);(case kX=>exact au);(case wH=>exact Kd.tV rfl oN.out);(case oI=>exact fun ay e_=>(oN.out.1 ay e_.symm).2);(case TU=>exact Kd.tV rfl ae.out);(case TV=>exact fun ay e_=>(ae.out.1 ay e_.symm).1.2);rintro e iO ⟨azj,rfl,ho0,hb,hkp⟩;refine ⟨_,rfl,?_⟩;have gy:=p_ (vW (ak a5) hkp (fun hs_=>Or.elim hs_ (fun e_=>(fun e_=>(Kd.fV oN.out a5.out (by decide)) e_) e_) (fun e_=>(fun e_=>(Kd.fV ae.out a5.out (by decide)) e_) e_))) <| p_ (vW (ak a6) hkp (fun hs_=>Or.elim hs_ (fun e_=>(fun e_=>(Kd.rC oN.out (fun _ hk=>hk.1.2)) e_) e_) (fun e_=>(fun e_=>(Kd.rC ae.out (fun _ hk=>hk.2)) e_) e_))) <| p_ (vW (ak a7) hkp (fun hs_=>Or.elim hs_ (fun e_=>(fun e_=>(Kd.fV oN.out a7.out (by decide)) e_) e_) (fun e_=>(fun e_=>(Kd.fV ae.out a7.out (by decide)) e_) e_))) <| p_ (vW (ak qJ) hkp (fun hs_=>Or.elim hs_ (fun e_=>(fun e_=>(Kd.fV oN.out qJ.out (by decide)) e_) e_) (fun e_=>(fun e_=>(Kd.fV ae.out qJ.out (by decide)) e_) e_))) <| p_ (Kd.bn (ok':=fun ay=>ay≠aa) ho0 (fun ay mZ=>Or.elim mZ (fun hs_=>Or.elim hs_ (fun hs_=>fun e_=>(Kd.rC oN.out (fun _ hk=>hk.1.2)) (by rw [← e_];exact hs_)) (fun hs_=>fun e_=>(Kd.rC ae.out (fun _ hk=>hk.2)) (by rw [← e_];exact hs_))) (fun mD=>(Kd.tZ (g:=aa) (o:=.cells #[.string fG,.bool fE,.string fC] 43) (ak a6) ay mD)))) <| a_ (hb);clear a5 a6 a7 qJ HB oN ae;obtain ⟨a5,a6,a7,qJ,bj,HB⟩:=gy;(try clear hb);(try clear hkp);(try clear ho0);obtain ⟨bx,bz,ca⟩:=Kd.dK bj.out;subst ca;have alb:=dh qJ.out;obtain ⟨aq,ap⟩:=gB aN ai;have aBi:=dh a7.out))
  refine bodyPost_ret (results_cell_row rfl _ _ b7 28 #[.slice bx be.length bz] (0,0) _ rfl aT underlying28 rfl aB) rfl ?_
  exact ⟨_,bM,(by (with_reducible repeat (first|apply Kd.dB|apply Kd.dD|apply Kd.aZ));exact Kd.bn (aH (aH (Kd.bQ (Kd.bQ bj.out qJ.out (by decide)) a7.out (by decide)) (fun _ hk=>hk.1.2))) (fun _ hk=>trivial)),au⟩
 try simp only [aY,bf,b3]
 obtain ⟨bc,bd⟩:∃ y_:List (aF),y_=(([(⟨fG,fE,fC⟩:aF)]:List (aF))):=⟨_,rfl⟩
 rw [← bd] at H
 have bl:=m_ bd
 clear bd
 obtain ⟨fA,cn,H⟩:=bd_ H
 obtain rfl:=dF H
 obtain ⟨av,aw,ax,bH,az,b0⟩:=kJ am ab an a8 ao ac
 have UK:=dh qJ.out
 obtain ⟨ba,bb,ar,aW⟩:=g_ aK ag aQ al
 have co:=uw a6.out
 go_wp2_with (first|((with_reducible refine dJ 24 ?_);refine Kd.sU aU _ 43 ?hg (N:=24) ?hd (xs:=([(⟨fG,fE,fC⟩:aF)]:List (aF))) (inner:=[.string fG,.bool fE,.string fC]) (ok:=fun _=>True) (iJ:=fun _=>True) ?hr ?hp (fun _ hk=>hk) trivial (Below.refl _ _) (Nat.le_refl _) (by simp) ?_;(case hd=>rfl);(case hg=>rfl);(case hr=>first|(go_simp;done)|(go_simp;rfl));(case hp=>exact aaC);intro v229 cv GY hb iV iW;clear iV iW;(first|rw [← bl.out] at GY|(simp only [Int.reduceToNat] at GY;rw [← bl.out] at GY));obtain ⟨oN,af,a5,a6,a7,qJ,HB⟩:=p_ (Kd.jX (aJ oN) (Kd.jo GY) hb) <| p_ (Kd.dI (Kd.vS (Kd.jY GY (Kd.jJ (aJ oN))) (g:=aa) (o:=.cells #[.string fG,.bool fE,.string fC] 43) (ak a6)) (cZ au)) <| I4 (ak a5) (ak a6) (ak a7) (ak qJ) au hb;clear hb GY;obtain ⟨fB,bo,cc⟩:=Kd.dK af.out;subst cc)|((with_reducible refine bT 66 ?_);refine bU (some 25) rfl rfl func66 aB rfl #[.slice b2 a9.length b1,ah (a9.length:Int),.slice fB bc.length bo] rfl aX ?_;(with_reducible refine (Ee.calls (fun ay=>some ay=(.slice b2 a9.length b1:Value).ownBlock) (.slice b2 a9.length b1) a9 (a9.length:Int) (fun ay=>some ay=(.slice fB bc.length bo:Value).ownBlock) (.slice fB bc.length bo) bc fA w _ ?kX ?wH ?oI ?TU ?TV cn.out).mono ?_);(case kX=>exact au);(case wH=>exact Kd.tV rfl oN.out);(case oI=>exact fun ay e_=>(oN.out.1 ay e_.symm).2);(case TU=>exact Kd.tV rfl af.out);(case TV=>exact fun ay e_=>(af.out.1 ay e_.symm).1.2);rintro e cw ⟨v232,rfl,ho0,hb,hkp⟩;refine ⟨_,rfl,?_⟩;have gy:=p_ (vW (ak a5) hkp (fun hs_=>Or.elim hs_ (fun e_=>(fun e_=>(Kd.fV oN.out a5.out (by decide)) e_) e_) (fun e_=>(fun e_=>(Kd.fV af.out a5.out (by decide)) e_) e_))) <| p_ (vW (ak a6) hkp (fun hs_=>Or.elim hs_ (fun e_=>(fun e_=>(Kd.rC oN.out (fun _ hk=>hk.1.2)) e_) e_) (fun e_=>(fun e_=>(Kd.rC af.out (fun _ hk=>hk.2)) e_) e_))) <| p_ (vW (ak a7) hkp (fun hs_=>Or.elim hs_ (fun e_=>(fun e_=>(Kd.fV oN.out a7.out (by decide)) e_) e_) (fun e_=>(fun e_=>(Kd.fV af.out a7.out (by decide)) e_) e_))) <| p_ (vW (ak qJ) hkp (fun hs_=>Or.elim hs_ (fun e_=>(fun e_=>(Kd.fV oN.out qJ.out (by decide)) e_) e_) (fun e_=>(fun e_=>(Kd.fV af.out qJ.out (by decide)) e_) e_))) <| p_ (Kd.bn (ok':=fun ay=>ay≠aa) ho0 (fun ay mZ=>Or.elim mZ (fun hs_=>Or.elim hs_ (fun hs_=>fun e_=>(Kd.rC oN.out (fun _ hk=>hk.1.2)) (by rw [← e_];exact hs_)) (fun hs_=>fun e_=>(Kd.rC af.out (fun _ hk=>hk.2)) (by rw [← e_];exact hs_))) (fun mD=>(Kd.tZ (g:=aa) (o:=.cells #[.string fG,.bool fE,.string fC] 43) (ak a6) ay mD)))) <| a_ (hb);clear a5 a6 a7 qJ HB oN af;obtain ⟨a5,a6,a7,qJ,bm,HB⟩:=gy;(try clear hb);(try clear hkp);(try clear ho0);obtain ⟨jf,jg,cd⟩:=Kd.dK bm.out;subst cd;have ak7:=dh qJ.out;obtain ⟨aq,ap⟩:=gB aN ai;have aBb:=dh a7.out))
 refine bodyPost_ret (results_cell_row rfl _ _ b7 28 #[.slice jf fA.length jg] (0,0) _ rfl aT underlying28 rfl aB) rfl ?_
 exact ⟨_,bM,(by (with_reducible repeat (first|apply Kd.dB|apply Kd.dD|apply Kd.aZ));exact Kd.bn (aH (aH (Kd.bQ (Kd.bQ bm.out qJ.out (by decide)) a7.out (by decide)) (fun _ hk=>hk.1.2))) (fun _ hk=>trivial)),au⟩

end Go.Proofs.YthejdhjpbpamoaaGreatDoor.jD
