/- Contracts of Go functions: each call returns what the Lean function beside it computes. Conditions: as each theorem states them. -/
import Derived.Test.YthejdhjpbpamoaaGreatDoorPkFnMoves
import Derived.Test.YthejdhjpbpamoaaGreatDoorPFnMovesx1
import Derived.Test.YthejdhjpbpamoaaGreatDoorPFnMovesx15
import Derived.Test.YthejdhjpbpamoaaGreatDoorPFnMovesx23
namespace Go.Proofs.YthejdhjpbpamoaaGreatDoor.jM
open Go.RowKit Go.Proofs.YthejdhjpbpamoaaGreatDoorW.iK Go.Proofs.YthejdhjpbpamoaaGreatDoorW.lX Go.Proofs.YthejdhjpbpamoaaGreatDoorW.oV Go.Proofs.Tryz
attribute [local go_sem] qI qM qL qP qK qO qJ qN   -- for this text's walks alone
set_option linter.unusedVariables false
set_option maxHeartbeats 8000000
set_option maxRecDepth 100000
set_option linter.unusedSimpArgs false

def uJ.l0:Nat→List ByteArray→List ByteArray→Int→Option (Bool)
 | 0,_,_,_=>none
 | k+1,x0,x1,x5=>if x5 < (x0.length:Int) then (if 0≤x5 then (if x5 < (x1.length:Int) then (if (pW ByteArray.empty x0 x5).toList=(pW ByteArray.empty x1 x5).toList then (uJ.l0 k x0 x1 (wrap64 (x5+1))) else (some false)) else (none)) else (none)) else (some true)
def uJ.f (k:Nat) (l0:List ByteArray) (l1:List ByteArray):Option (Bool):=if (l0.length:Int)=(l1.length:Int) then (uJ.l0 k l0 l1 0) else (some false)
theorem uJ.calls (k:Nat) (A0:Option Addr) (c0:Nat) (l0:List ByteArray) (A1:Option Addr) (c1:Nat) (l1:List ByteArray) (r:Bool) (w:World) (hr0:Kd.C Kd.string w A0 l0.length l0) (hc0:l0.length≤c0) (hr1:Kd.C Kd.string w A1 l1.length l1) (hc1:l1.length≤c1) (h:uJ.f k l0 l1=some r) :
  Calls Tryz.prog 19 #[.slice A0 l0.length c0,.slice A1 l1.length c1] w fun e w'=>e=.returned (.bool r)∧nH w w':=by
 have HR0:=m_ hr0
 have ar:=m_ hc0
 clear hr0 hc0
 have ao:=m_ hr1
 have bP:=m_ hc1
 clear hr1 hc1
 unfold uJ.f at h
 have H:=h
 clear h
 revert H;refine fJ (fun c3 H=>?_) fun c3 H=>?_
 rotate_left
 ·have ae:=gU c3
  have af:=gV c3
  have ag:(l0.length == l1.length)=false:=by first|simpa using c3|(simp at c3 ⊢;omega)
  obtain rfl:=cZ H
  go_enter func19,ntmps19
  go_wp2
  repeat (go_quiet (fail);try go_wp2)
  go_ret
  exact ⟨bg,jS⟩
 have ae:=gZ c3
 have af:=g_ c3
 have ag:(l0.length == l1.length)=true:=by first|simpa using c3|(simp at c3 ⊢;omega)
 clear c3
 have H':=m_ H
 clear H
 go_enter func19,ntmps19
 go_wp2
 repeat (go_quiet (fail);try go_wp2)
 go_loopg [5] k (fun kq v5 w'=>∃ (a5:Int),v5=ah a5∧aA (uJ.l0 kq l0 l1 a5=some r)∧aA (kq≤k)∧nH w w')
 case atStart=>exact ⟨(0),bg,H',⟨Nat.le_refl _⟩,jS⟩
 case round =>
 clear H'
 try clear c1;try clear c3;try clear ae;try clear af;try clear ag
 obtain ⟨a5,rfl,HA,iq,⟨m1,rfl⟩⟩:=hrel
 cases gk with
 | zero=>exact absurd HA.out (by simp [uJ.l0])
 | succ k1 =>
 obtain ⟨H⟩:=HA
 simp only [uJ.l0] at H
 revert H;refine gI (fun aN H=>?_) fun aN H=>?_
 rotate_left
 ·obtain rfl:=cZ H
  go_wp2
  repeat (go_quiet (fail);try go_wp2)
  go_ret
  exact ⟨bg,jS⟩
 obtain ⟨ap,H⟩:=fU H
 obtain ⟨aq,H⟩:=fU H
 have an:=m_ H
 clear H
 have a6:0≤(a5:Int):=bC bD
 have a7:a5 < (l0.length:Int):=bC bD
 obtain ⟨aT,aP,a8⟩:=Kd.yw HR0.out a5 a6 a7
 cases aP
 replace a6:=eq_true a6
 replace a7:=eq_true a7
 have a9:0≤(a5:Int):=bC bD
 have aa:a5 < (l1.length:Int):=bC bD
 obtain ⟨al,ai,ab⟩:=Kd.yw ao.out a5 a9 aa
 cases ai
 replace a9:=eq_true a9
 replace aa:=eq_true aa
 go_upto_if 25 with (fail)
 repeat (go_quiet (fail);go_upto_if 25 with (fail))
 (try clear a8)
 (try clear ab)
 obtain ⟨H⟩:=an
 revert H;refine fJ (fun c8 H=>?_) fun c8 H=>?_
 rotate_left
 ·have ac:=gU c8
  have am:=gV c8
  try simp only [bI,bY,ac]
  obtain rfl:=cZ H
  go_wp2
  repeat (go_quiet (fail);try go_wp2)
  go_ret
  exact ⟨bg,jS⟩
 have ac:=gZ c8
 have am:=g_ c8
 clear c8
 try simp only [bI,bY,ac]
 have H':=m_ H
 clear H
 go_wp2
 repeat (go_quiet (fail);try go_wp2)
 go_roundg k1
 case measure=>have:=iq.out;omega
 case rel=>exact ⟨(wrap64 (a5+1)),bg,H',⟨nT⟩,jS⟩

theorem og:Flat.vW bF kF:=⟨fun w base ok x=>qX w base ok x,fun w x cs h=>Ie h⟩
theorem Zg (p:aC→Bool) (g:Nat) (lb:Array Value) (eg:∀ args w,(callFunc g args).run Tryz.prog w=.ok (.enter g args) w) (gb:Nat) (ob:Obj)
  (hp:∀ (x:aC) (W:World),W.heap[gb]?=some ob→Calls Tryz.prog g (#[.agg (kF x).toArray]++lb) W fun e w'=>e=.returned (.bool (p x))∧Below W.heap.size W w')
  (eG:Nat→Prop) (jk:Value) (l0:List aC) (w0 w:World) (hB:Below w0.heap.size w0 w) (ho0:Kd.R bF 43 w w0.heap.size eG jk l0) (hbig:l0.length≤9223372036854775807) (hcl:w.heap[gb]?=some ob) (hne:some gb≠jk.ownBlock) :
  Calls Tryz.prog 111 #[jk,.func (.func g) #[] lb] w fun e w'=>∃ gQ:Value,e=.returned gQ∧Kd.R bF 43 w' w0.heap.size (fun aF=>(eG aF∨w.heap.size≤aF)) gQ (l0.filter fun y=>!p y)∧Below w0.heap.size w0 w'∧Kept w w' (fun aF=>eG aF):=by
 obtain ⟨A,c,rfl,hnc,hC⟩:=Kd.Jh ho0
 have hIF:=JO p g lb eg A c l0 w hC hbig (fun W x hW=>(hp x W (bG hcl hW)).mono fun e w' hq=>⟨hq.1,hW.trans (hq.2.mono hW.size)⟩)
 have HB:=m_ hB
 have HO:=m_ ho0
 have rF:=underlying43
 rcases Flat.Ut p default l0 0 with ⟨e1,hall⟩|⟨a,b,c',hl,e1,hb,ha⟩
 ·have e2:Lib.idxBy (fun _ y=>p y) l0 default = -1:=e1
  rw [e2] at hIF
  rw [hall]
  clear e1 e2 hall hC ho0 hp hB hcl hne
  go_enter func111,ntmps111
  go_wp2_with (go_at_call 60;refine hIF.mono ?_;rintro e w1 ⟨rfl,hb⟩)
  go_ret
  exact ⟨_,rfl,Kd.bW (Kd.bn HO.out hb) (fun _ h=>.inl h),dI HB.out hb,Kept.of_below hb _⟩
 ·have e2:Lib.idxBy (fun _ y=>p y) l0 default=((a.length:Nat):Int):=e1.trans (by rw [Nat.zero_add])
  rw [e2] at hIF
  have hpos:0 < l0.length:=by rw [hl];simp;omega
  have hst:=Flat.vT.start (c:=c') hb ha
  rw [← hl] at hst
  obtain ⟨g0,cap,hv,hbg,hlt,cells,hh⟩:=Kd.zf ho0 hpos
  injection hv with hv1 _ hv2
  subst hv1;subst hv2
  have Z_:gb≠g0:=fun e=>hne (by rw [e];rfl)
  have HST:=m_ hst
  have Qv:=m_ hcl
  have HP:=m_ hp
  have Qw:=m_ (ho0.1 g0 rfl)
  have hne1:(((a.length:Nat):Int) == -1)=false:=beq_eq_false_iff_ne.2 (by omega)
  have hal:a.length < l0.length:=by rw [hl];simp
  have HL:=m_ hal
  clear e1 e2 hl hb ha hp hst hC hcl hB ho0 hh hne
  go_enter func111,ntmps111
  go_wp2_with (go_at_call 60;refine hIF.mono ?_;rintro e w1 ⟨rfl,hb⟩)
  go_loopg [5,6,7] l0.length (fun gg s5 s6 _ wr=>∃ (i j:Nat) (l:List aC),s5=ah i∧s6=ah j∧l0.length - j≤gg∧aA (Flat.vT p l0 i j l)∧aA (Kd.R bF 43 wr w0.heap.size (fun aF=>(eG aF∨w.heap.size≤aF)) (.slice (some ⟨g0,0,none⟩) l0.length c) l)∧aA (Below w0.heap.size w0 wr)∧aA (Kept w wr (fun aF=>eG aF))∧aA (wr.heap[gb]?=some ob))
  case atStart=>exact ⟨a.length,a.length+1,l0,rfl,(by have:=HL.out;go_num),(by omega),HST,⟨Kd.bW (Kd.bn HO.out hb) (fun _ h=>.inl h)⟩,⟨dI HB.out hb⟩,⟨Kept.of_below hb _⟩,⟨bG Qv.out hb⟩⟩
  case round =>
  obtain ⟨i,j,l,rfl,rfl,hgg,HI,HR,HB1,HK,Lu⟩:=hrel
  have hij:=HI.out.lt
  have hjn:=HI.out.le
  have hll:=HI.out.len
  clear HST Qv HO HB
  by_cases hjl:j < l0.length
  rotate_left
  ·have hjz:¬ ((j:Int) < (l0.length:Int)):=by omega
   have hje:j=l0.length:=by omega
   have hci:¬ (c=i):=by omega
   have hin:i≤l0.length:=by omega
   have hcl:∀ ty,(Builtin.clear_ #[26] ty #[.slice (some ⟨g0,i * 3,none⟩) (l0.length - i) (c - i)]).run Tryz.prog wr=.ok (.tuple #[]) (wr.setCells g0 (i * 3) ((List.replicate (l0.length - i) z43).flatMap kF)):=fun ty=>Flat.acp og (by decide) HR.out 26 ty _ z43 rfl underlying26 Tryz.zeroValue43 i (l0.length - i) (c - i) (by omega) (by omega)
   go_wp2
   go_ret
   have hS:=Flat.QO og HR.out i (List.replicate (l0.length - i) z43) (by rw [List.length_replicate];omega)
   have hT:=Kd.Yq (m:=i) hS.1 (by simp [List.length_take,List.length_drop];omega)
   rw [List.append_assoc,List.take_left' (by simp [List.length_take];omega)] at hT
   have hD:=HI.out
   rw [hje] at hD
   rw [hD.done] at hT
   refine ⟨_,rfl,hT,VA HB1.out (some g0) HB1.out.size hS.2 (fun k hk=>?_),Kept.Bv hS.2 HK.out (fun k hk=>?_)⟩
   ·obtain rfl:=cZ hk
    exact hbg
   ·obtain rfl:=cZ hk
    exact .inl Qw.out
  have hjz:(j:Int) < (l0.length:Int):=by omega
  have hx:=HI.out.at_ hjl (by omega)
  have hR:=HR.out
  obtain ⟨x,hxe⟩:∃ x,x=l0[j]:=⟨_,rfl⟩
  have aec:wr.cell? ⟨g0,j * 3,none⟩=some (.string x.f0):=by rw [hxe,← hx];exact Flat.A_ og hR j (by omega) 0 _ rfl
  have aed:wr.cell? ⟨g0,j * 3+1,none⟩=some (.bool x.f1):=by rw [hxe,← hx];exact Flat.A_ og hR j (by omega) 1 _ rfl
  have aee:wr.cell? ⟨g0,j * 3+2,none⟩=some (.string x.f2):=by rw [hxe,← hx];exact Flat.A_ og hR j (by omega) 2 _ rfl
  have hcall:∀ W',Below wr.heap.size wr W'→W'.heap[wr.heap.size]?=some (.cells #[.string x.f0,.bool x.f1,.string x.f2] 43)→Calls Tryz.prog g (#[.agg #[.string x.f0,.bool x.f1,.string x.f2]]++lb) W' fun e w'=>e=.returned (.bool (p x))∧Below wr.heap.size wr w'∧w'.heap[wr.heap.size]?=some (.cells #[.string x.f0,.bool x.f1,.string x.f2] 43):=fun W' hW hx=>(HP.out x W' (bG Lu.out hW)).mono fun e w' hq=>⟨hq.1,MJ hW hW.size hq.2,bG hx hq.2⟩
  have LY:=m_ hxe
  clear hxe hx hR
  cases hq:p x with
  | false =>
   rw [hq] at hcall
   go_wp2_with (go_at_fn g;refine (hcall _ ?hbl ?hbx).mono ?_;(case hbl=>exact ny (Below.refl _ _) _);(case hbx=>exact heap_alloc_new ..);rintro e w1 ⟨rfl,hb1,hbx⟩;have hv0:w1.cell? ⟨wr.heap.size,0,none⟩=some (.string x.f0):=(aO hbx 0).trans rfl;have hv1:w1.cell? ⟨wr.heap.size,1,none⟩=some (.bool x.f1):=(aO hbx 1).trans rfl;have hv2:w1.cell? ⟨wr.heap.size,2,none⟩=some (.string x.f2):=(aO hbx 2).trans rfl;have HR1:=m_ (Kd.bn HR.out hb1);have HB2:=m_ hb1;have hi0:=Flat.A_ og HR1.out i (by omega) 0 _ rfl;have hi1:=Flat.A_ og HR1.out i (by omega) 1 _ rfl;have hi2:=Flat.A_ og HR1.out i (by omega) 2 _ rfl;have hf0:=Flat.Md og HR1.out (i * 3);have hf1:=Flat.Md og HR1.out (i * 3+1);have hf2:=Flat.Md og HR1.out (i * 3+2);clear hbx hb1;(try simp only [show bF.sz=3 from rfl,Nat.add_zero] at hi0 hi1 hi2))
   go_roundg (l0.length - (j+1))
   case measure=>omega
   case rel =>
   have hS:=Flat.QO og HR1.out i [x] (by show i+1≤l.length;omega)
   refine ⟨i+1,j+1,l.take i++[x]++l.drop (i+1),(by go_num),(by go_num),(by omega),⟨?_⟩,⟨hS.1⟩,⟨VA (MJ HB1.out HB1.out.size HB2.out) (some g0) (Nat.le_trans HB1.out.size HB2.out.size) hS.2 (fun k hk=>?_)⟩,⟨Kept.Bv hS.2 (Kept.below HK.out HB2.out) (fun k hk=>?_)⟩,⟨iE (bG Lu.out HB2.out) hS.2 (fun e=>Z_ (cZ e))⟩⟩
   ·rw [LY.out]
    exact HI.out.keep hjl (by rw [← LY.out];exact hq)
   ·obtain rfl:=cZ hk
    exact hbg
   ·obtain rfl:=cZ hk
    exact .inl Qw.out
  | true =>
   rw [hq] at hcall
   go_wp2_with (go_at_fn g;refine (hcall _ ?hbl ?hbx).mono ?_;(case hbl=>exact ny (Below.refl _ _) _);(case hbx=>exact heap_alloc_new ..);rintro e w1 ⟨rfl,hb1,hbx⟩;have HB2:=m_ hb1;clear hbx hb1)
   go_roundg (l0.length - (j+1))
   case measure=>omega
   case rel=>exact ⟨i,j+1,l,rfl,(by go_num),(by omega),⟨HI.out.skip hjl (by rw [← LY.out];exact hq)⟩,⟨Kd.bn HR.out HB2.out⟩,⟨dI HB1.out HB2.out⟩,⟨Kept.below HK.out HB2.out⟩,⟨bG Lu.out HB2.out⟩⟩
def FB.f (l0:List aC) (pU:ByteArray):Option (List aC):=if l0.length≤9223372036854775807 then some (l0.filter fun y=>!zS.p pU y) else none
theorem FB.calls (eG:Nat→Prop) (jk:Value) (l0:List aC) (a6:Nat) (a5:ByteArray) (r:List aC) (w0 w:World) (hB:Below w0.heap.size w0 w) (ho0:Kd.R bF 43 w w0.heap.size eG jk l0) (a7:w.heap[a6]?=some (.cells #[.string a5] 9)) (h:FB.f l0 a5=some r) :
  Calls Tryz.prog 111 #[jk,.func (.func 112) #[] #[.pointer (some ⟨a6,0,none⟩)]] w fun e w'=>∃ gQ:Value,e=.returned gQ∧Kd.R bF 43 w' w0.heap.size (fun aF=>(eG aF∨w.heap.size≤aF)) gQ r∧Below w0.heap.size w0 w'∧Kept w w' (fun aF=>eG aF):=by
 unfold FB.f at h
 split at h
 case isFalse=>cases h
 case isTrue hl =>
 obtain rfl:=cZ h
 exact Zg (fun y=>zS.p a5 y) 112 #[.pointer (some ⟨a6,0,none⟩)] (fun args W=>CX func112 rfl rfl args W) a6 (.cells #[.string a5] 9) (fun x W hx=>zS x a6 a5 W hx) eG jk l0 w0 w hB ho0 hl a7 (Kd.iw ho0 a7 (by decide))

def Dn.f (a7:List (aC)) (a1:ByteArray):Option ((List (aC))):=(Ap.f a7).bind fun a5=>((FB.f a5 a1).bind fun a6=>(some a6))
theorem Dn.calls (aN:Option Addr) (aT:Nat) (aH:List (aC)) (a1:ByteArray) (r:List (aC)) (w:World) (al:Kd.C bF w aN aH.length aH) (am:aH.length≤aT) (h:Dn.f aH a1=some r) :
  Calls Tryz.prog 64 #[.agg #[.slice aN aH.length aT],.string a1] w fun e w'=>∃ gQ:Value,e=.returned (.agg #[gQ])∧Kd.R bF 43 w' w.heap.size (fun _=>True) gQ r∧Below w.heap.size w w':=by
 have oq:=underlying28
 have lF:=m_ al
 have b0:=m_ am
 clear al am
 have HB:=m_ (Below.refl w.heap.size w)
 unfold Dn.f at h
 have H:=h
 clear h
 obtain ⟨a9,A3,H⟩:=bd_ H
 obtain ⟨an,A4,H⟩:=bd_ H
 obtain rfl:=cZ H
 go_enter func64,ntmps64
 go_wp2_with (first|((with_reducible refine dG 2 ?_);refine dU 2 (cs:=#[.slice aN aH.length aT]) 28 ?_;intro b1 hg w5 hbox hb;obtain ⟨HB,a5,b2,ao⟩:=kE ay hb hbox hg;clear hb hbox hg)|((with_reducible refine dG 3 ?_);refine dU 3 (cs:=#[.string a1]) 9 ?_;intro aP hg w6 hbox hb;obtain ⟨a5,HB,a6,b3,ap,aa,ab⟩:=qj (aj a5) ay hb hbox hg;clear hb hbox hg)|((with_reducible refine dG 4 ?_);refine dU 4 (cs:=#[.slice none 0 0]) 28 ?_;intro aq hg w7 hbox hb;obtain ⟨a5,a6,HB,a7,b4,ar,ac,ae,af,ag⟩:=wu (aj a5) (aj a6) ay hb hbox hg;clear hb hbox hg;obtain ⟨bP,av,b9,ba⟩:=jE aa ab ac ae;have Qg:=cu a5.out)|((with_reducible refine bU 94 ?_);refine bV (some 7) rfl rfl func94 aB rfl #[.slice aN aH.length aT] rfl aW ?_;(with_reducible refine (Ap.calls _ _ aH a9 _ sD b0.out A3.out).mono ?_);rintro e bb ⟨aip,rfl,ho0,hb⟩;refine ⟨_,rfl,?_⟩;obtain ⟨a8,a5,a6,a7,HB⟩:=p_ (Kd.dK ho0 (dO ay)) <| wO (aj a5) (aj a6) (aj a7) ay hb;(try clear hb);(try clear ho0);obtain ⟨aw,ax,b5⟩:=Kd.dJ a8.out;subst b5)|((with_reducible refine bU 111 ?_);refine bV (some 9) rfl rfl func111 aB rfl #[.slice aw a9.length ax,.func (.func 112) #[] #[.pointer (some ⟨aP,0,none⟩)]] rfl aW ?_;(with_reducible refine (FB.calls (fun aF=>some aF=(.slice aw a9.length ax:Value).ownBlock) (.slice aw a9.length ax) a9 aP a1 an w _ ?kG (Kd.rU rfl a8.out) ?mJ A4.out).mono ?_);(case kG=>repeat (first|(with_reducible first|exact HB.out|apply ny|apply qm|apply k_|refine iL ?_ ao.out|refine iL ?_ ap.out|refine iL ?_ ar.out)|exact HB.out));(case mJ=>(with_reducible repeat (first|refine kD ?_ _|refine gW ?_|refine jG ?_ _));exact a6.out);rintro e bc ⟨aiq,rfl,ho0,hb,hkp⟩;refine ⟨_,rfl,?_⟩;obtain ⟨a5,a6,a7,ai,HB⟩:=p_ (vF (aj a5) hkp (fun hs_=>(fun e_=>(Kd.iw a8.out a5.out (by decide)) e_) hs_)) <| p_ (vF (aj a6) hkp (fun hs_=>(fun e_=>(Kd.iw a8.out a6.out (by decide)) e_) hs_)) <| p_ (vF (aj a7) hkp (fun hs_=>(fun e_=>(Kd.iw a8.out a7.out (by decide)) e_) hs_)) <| p_ (Kd.bW (ok':=fun aF=>True) ho0 (fun aF JK=>trivial)) <| a_ (hb);(try clear hb);(try clear hkp);(try clear ho0);obtain ⟨b6,b7,b8⟩:=Kd.dJ ai.out;subst b8;obtain ⟨dw,az⟩:=iJ ag af;have KY:=cu a7.out))
 refine bodyPost_ret (results_cell_row rfl _ _ aq 28 #[.slice b6 an.length b7] (0,0) _ rfl bH underlying28 rfl aB) rfl ?_
 exact ⟨_,b_,(by (with_reducible repeat (first|apply Kd.dR|apply Kd.dS|apply Kd.bK));exact Kd.bW (aU (Kd.dL ai.out a7.out (by decide))) (fun _ hk=>trivial)),ay⟩

theorem aaQ (eG:Nat→Prop) (jk:Value) (l0:List aC) (oN:Nat→Prop) (vb vc:Nat) (y:aC) (w0 w:World) (hB:Below w0.heap.size w0 w) (ho0:Kd.R bF 43 w w0.heap.size eG jk l0) (ho2:Kd.R bF 43 w w0.heap.size oN (.slice (some ⟨vb,0,none⟩) 1 vc) [y]) (hbig:(l0.length+1) * 40≤140737488355328) :
  Calls Tryz.prog 66 #[jk,ah l0.length,.slice (some ⟨vb,0,none⟩) 1 vc] w fun e w'=>∃ gQ:Value,e=.returned gQ∧Kd.R bF 43 w' w0.heap.size (fun aF=>((eG aF∨oN aF)∨w.heap.size≤aF)) gQ (l0++[y])∧Below w0.heap.size w0 w'∧Kept w w' (fun aF=>eG aF∨oN aF):=by
 have QC:=m_ (Kd.bZ ho2).2.2
 have HO:=m_ (Kd.bW (ok':=fun aF=>((eG aF∨oN aF)∨w.heap.size≤aF)) ho0 (fun k h=>.inl (.inl h)))
 have HG:=m_ ho0.1
 have HB:=m_ hB
 have HL:=m_ hbig
 rcases Flat.QS ho0 with ⟨rfl,hn⟩|⟨g,c,rfl,hnc,hcm⟩
 ·obtain rfl:=List.eq_nil_of_length_eq_zero hn
  clear ho0 ho2 hB hbig hn
  go_enter func66,ntmps66
  go_wp2_with ((with_reducible refine wW (b:=.append) (xs:=#[.tmp 23,.tmp 24]) rfl ?_);at_builtin;refine Kd.Eu bF (w0:=w0) w0.heap.size rfl (.tmp 23) (.tmp 24) 26 43 (.agg #[(.string ⟨#[]⟩),(.bool false),(.string ⟨#[]⟩)]) 40 rfl underlying26 o8 rfl (by decide) (by omega) _ [] [y] _ _ _ _ (fun _=>False) rfl rfl HO.out QC.out ?aM (fun _ h=>h.elim) (fun k h=>.inr h) HB.out HB.out.size HL.out ?_;(case aM=>intro x cs h;have h:=Ie h;subst h;exact qX _ _ _ x);intro v1 w1 hR hB1 hg hat)
  go_ret
  exact ⟨_,rfl,hR,hB1,Kept.Bv hg (Kept.refl _ _) (fun k hk=>.inl (.inl (HG.out k hk)))⟩
 ·clear ho0 ho2 hB hbig
  go_enter func66,ntmps66
  go_wp2_with ((with_reducible refine wW (b:=.append) (xs:=#[.tmp 23,.tmp 24]) rfl ?_);at_builtin;refine Kd.Eu bF (w0:=w0) w0.heap.size rfl (.tmp 23) (.tmp 24) 26 43 (.agg #[(.string ⟨#[]⟩),(.bool false),(.string ⟨#[]⟩)]) 40 rfl underlying26 o8 rfl (by decide) (by omega) _ l0 [y] _ _ _ _ (fun _=>False) rfl rfl HO.out QC.out ?aM (fun _ h=>h.elim) (fun k h=>.inr h) HB.out HB.out.size HL.out ?_;(case aM=>intro x cs h;have h:=Ie h;subst h;exact qX _ _ _ x);intro v1 w1 hR hB1 hg hat)
  all_goals (go_ret;exact ⟨_,rfl,hR,hB1,Kept.Bv hg (Kept.refl _ _) (fun k hk=>.inl (.inl (HG.out k hk)))⟩)
theorem aaS (g c i vb vc n:Nat) (l0:List aC) (y:aC) (w0 w:World) (eG oN:Nat→Prop) (hn:l0.length=n) (hi:i < n) (hroom:n+1≤c) (hvb:vb≠g) (hB:Below w0.heap.size w0 w) (ho0:Kd.R bF 43 w w0.heap.size eG (.slice (some ⟨g,0,none⟩) n c) l0) (ho2:Kd.R bF 43 w w0.heap.size oN (.slice (some ⟨vb,0,none⟩) 1 vc) [y]) :
  Calls Tryz.prog 66 #[.slice (some ⟨g,0,none⟩) n c,ah i,.slice (some ⟨vb,0,none⟩) 1 vc] w fun e w'=>∃ gQ:Value,e=.returned gQ∧Kd.R bF 43 w' w0.heap.size (fun aF=>((eG aF∨oN aF)∨w.heap.size≤aF)) gQ (l0.take i++[y]++l0.drop i)∧Below w0.heap.size w0 w'∧Kept w w' (fun aF=>eG aF∨oN aF):=by
 obtain ⟨hbg,hok,_,hnc,hcm,cur,hh,hcs,ht⟩:=Flat.Gh og ho0
 obtain ⟨hbv,_,_,aay,aaz,zC,Aa,Oq,hvt⟩:=Flat.Gh og ho2
 change cur.size=c * 3 at hcs
 change zC.size=vc * 3 at Oq
 change cur.toList.take (n * 3)=_ at ht
 change zC.toList.take (1 * 3)=kF y++[] at hvt
 rw [List.append_nil] at hvt
 have hc63:c≤9223372036854775807:=by simp only [maxLen] at hcm;omega
 have mixed:Tryz.prog.follows .mixedOrders=true:=by kernel_rfl
 have hsz:(Tryz.prog.info? 43).map (·.size)=some 3:=by
  obtain ⟨i0,hi0,h0,h1,h2⟩:=info_parts o8
  rw [hi0];simp [h1]
 have hYl:(kF y).length=3:=rfl
 have hDl:((l0.drop i).flatMap kF).length=(n - i) * 3:=by rw [Flat.yK og.len,List.length_drop,hn];rfl
 have hDe:=Flat.Tz (enc:=kF) (sz:=3) og.len l0 i (by omega)
 have hone:∀ (xs:List aC),∀ v ∈ xs.flatMap kF,v.oneCell'=true:=fun xs v hv=>by
  obtain ⟨x,_,hx⟩:=List.mem_flatMap.1 hv
  exact og.one x v hx
 have hcell:∀ (W:World),W.heap[g]?=some (.cells cur 43 (0,0))→∀ j v,((l0.drop i).flatMap kF)[j]?=some v→W.cell? ((⟨g,i * 3,none⟩:Addr).add j)=some v:=fun W hW j v hj=>by
  rw [Addr.add_lit,aO hW,← Array.getElem?_toList]
  rw [hDe,← ht,List.getElem?_drop,List.getElem?_take] at hj
  split at hj
  ·exact hj
  ·cases hj
 have hsome:∀ j,j < c * 3→(w.cell? ⟨g,j,none⟩).isSome=true:=fun j hj=>by
  rw [aO hh];simp;omega
 have hfz:∀ j,w.frozen? ⟨g,j,none⟩=false:=fun j=>dF hh j
 have Hz:∀ (W:World),W.heap[vb]?=some (.cells zC 43 (0,0))→∀ j v,(kF y)[j]?=some v→W.cell? ((⟨vb,0,none⟩:Addr).add j)=some v:=fun W hW j v hj=>by
  rw [Addr.add_lit,Nat.zero_add,aO hW,← Array.getElem?_toList]
  rw [← hvt,List.getElem?_take] at hj
  split at hj
  ·exact hj
  ·cases hj
 have hov:∀ lb cb,(callFunc 113 #[.slice (some ⟨vb,0,none⟩) 1 vc,.slice (some ⟨g,(i+1) * 3,none⟩) lb cb]).run Tryz.prog w=.ok (.value (.bool false)) w:=fun lb cb=>by
  rw [run_callFunc_extern func113 aB aB aB (e:=Extern.SlicesOverlaps.overlaps #[26,26] #[4]) aB,
   Lib.run_overlaps_apart w 26 4 43 underlying26 3 Tryz.sizeOf43 ⟨vb,0,none⟩ ⟨g,(i+1) * 3,none⟩ 1 vc lb cb hvb 43 43 zC.size cur.size (by simp [World.shape?,Aa]) (by simp [World.shape?,hh]) (by omega) (dF Aa _) (dF Aa _)]
  rfl
 have hz1:¬ ((1:Int)=0):=by omega
 have hz2:¬ ((i:Int)=(n:Int)):=by omega
 have hw1:IntKind.i64.wrap ((i:Int)+(1:Int))=(i:Int)+(1:Int):=by rw [IntKind.wrap_i64];omega
 have hw2:IntKind.i64.wrap ((n:Int)+(1:Int))=(n:Int)+(1:Int):=by rw [IntKind.wrap_i64];omega
 have hb1:(0:Int)≤(i:Int)+(1:Int):=by omega
 have hin:i≤n:=by omega
 have htn:((i:Int)+(1:Int)).toNat=i+1:=by omega
 have hb2:¬ (c=i+1):=by omega
 have hb3:(i:Int)≤(n:Int)+(1:Int):=by omega
 have hb4:¬ (c=i):=by omega
 have hcp1:∀ ty dc sc,(Builtin.copy_ #[26,26] ty #[.slice (some ⟨g,(i+1) * 3,none⟩) (n - i) dc,.slice (some ⟨g,i * 3,none⟩) (n+1 - i) sc]).run Tryz.prog w.drew=.ok (goInt ((n - i:Nat):Int)) (w.drew.setCells g ((i+1) * 3) ((l0.drop i).flatMap kF)):=fun ty dc sc =>
  Flat.Ku w.drew 26 26 ty 43 g ((i+1) * 3) (n - i) dc ⟨g,i * 3,none⟩ (n+1 - i) sc 3 (n - i) _ underlying26 hsz (by simp only [Nat.min_def];split <;> omega) hDl
   (hcell w.drew hh) (fun j hj=>hsome _ (by omega)) (fun j hj=>hfz _) (hone _)
 obtain ⟨W1,hW1⟩:∃ W1,W1=w.drew.setCells g ((i+1) * 3) ((l0.drop i).flatMap kF):=⟨_,rfl⟩
 obtain ⟨GH,h1,s1,_⟩:=Am ((l0.drop i).flatMap kF) ((i+1) * 3) w.drew cur hh (by rw [hDl];omega)
 rw [← hW1] at h1
 have hv1:W1.heap[vb]?=some (.cells zC 43 (0,0)):=by rw [hW1,DT _ _ _ hvb];exact Aa
 have hcp2:∀ (W:World),(∀ x,W.cell? x=W1.cell? x)→(∀ x,W.frozen? x=W1.frozen? x)→∀ ty dc,(Builtin.copy_ #[26,26] ty #[.slice (some ⟨g,i * 3,none⟩) (n+1 - i) dc,.slice (some ⟨vb,0,none⟩) 1 vc]).run Tryz.prog W=.ok (goInt ((1:Nat):Int)) (W.setCells g (i * 3) (kF y)):=fun W hWc hWf ty dc =>
  Flat.Ku W 26 26 ty 43 g (i * 3) (n+1 - i) dc ⟨vb,0,none⟩ 1 vc 3 1 _ underlying26 hsz (by simp only [Nat.min_def];split <;> omega) hYl
   (fun j v hj=>by rw [hWc];exact Hz W1 hv1 j v hj) (fun j hj=>by rw [hWc,aO h1];rw [hYl] at hj;simp;omega) (fun j hj=>by rw [hWf];exact dF h1 _) (og.one y)
 have HI:=m_ (Flat.aaY og hn (W:=w.drew) hh hcs ht i (by omega) hroom y)
 have HW:=m_ hW1
 have HH:=m_ (And.intro hB (And.intro hbg (And.intro hok (And.intro hcm hn))))
 rw [← hW1] at hcp1
 clear hh Aa ht hvt hcell Hz hsome hfz ho0 ho2 hone hDe h1 hv1 hW1 hsz hB
 go_enter func66,ntmps66
 go_wp2_with (simp only [hov])
 go_region_law_o (refine step_copy_runI rfl _ _ 26 26 rfl _ _ (by simp [Act.eval,Act.put]) (by simp [Act.eval,Act.put]) (hcp1 _ _ _) ?_)
 go_wp2_with (at_builtin;refine wpList_copy_runI _ rfl _ _ 26 26 rfl _ _ rfl rfl (hcp2 _ (fun _=>rfl) (fun _=>rfl) _ _) ?_)
 go_ret
 obtain ⟨wP,h2,s2,t2⟩:=HI.out
 obtain ⟨hB,hbg,hok,hcm,hn⟩:=HH.out
 rw [HW.out]
 refine ⟨_,rfl,Flat.QT og hbg (.inl (.inl hok)) (by simp [List.length_take,List.length_drop];omega) hroom hcm h2 s2 t2,?_,?_⟩
 ·exact Flat.Jo (Flat.Jo hB.drew hbg _ _) hbg _ _
 ·exact Flat.JV (Flat.JV (Kept.drew (Kept.refl _ _)) (.inl (.inl hok)) _ _) (.inl (.inl hok)) _ _
theorem aaR (g c i vb vc n:Nat) (l0:List aC) (y:aC) (w0 w:World) (eG oN:Nat→Prop) (hn:l0.length=n) (hi:i < n) (hroom:c < n+1) (hbig:(n+1) * 40≤140737488355328) (hB:Below w0.heap.size w0 w) (ho0:Kd.R bF 43 w w0.heap.size eG (.slice (some ⟨g,0,none⟩) n c) l0) (ho2:Kd.R bF 43 w w0.heap.size oN (.slice (some ⟨vb,0,none⟩) 1 vc) [y]) :
  Calls Tryz.prog 66 #[.slice (some ⟨g,0,none⟩) n c,ah i,.slice (some ⟨vb,0,none⟩) 1 vc] w fun e w'=>∃ gQ:Value,e=.returned gQ∧Kd.R bF 43 w' w0.heap.size (fun aF=>((eG aF∨oN aF)∨w.heap.size≤aF)) gQ (l0.take i++[y]++l0.drop i)∧Below w0.heap.size w0 w'∧Kept w w' (fun aF=>eG aF∨oN aF):=by
 obtain ⟨hbg,hok,_,hnc,hcm,cur,hh,hcs,ht⟩:=Flat.Gh og ho0
 obtain ⟨hbv,_,_,aay,aaz,zC,Aa,Oq,hvt⟩:=Flat.Gh og ho2
 change cur.size=c * 3 at hcs
 change zC.size=vc * 3 at Oq
 change cur.toList.take (n * 3)=_ at ht
 change zC.toList.take (1 * 3)=kF y++[] at hvt
 rw [List.append_nil] at hvt
 have hc63:c≤9223372036854775807:=by simp only [maxLen] at hcm;omega
 have mixed:Tryz.prog.follows .mixedOrders=true:=by kernel_rfl
 obtain ⟨i0,hi0,hz0,hzs,hzb⟩:=info_parts o8
 have hsz:(Tryz.prog.info? 43).map (·.size)=some 3:=by rw [hi0];simp [hzs]
 have hYl:(kF y).length=3:=rfl
 have hDl:((l0.drop i).flatMap kF).length=(n - i) * 3:=by rw [Flat.yK og.len,List.length_drop,hn];rfl
 have hDe:=Flat.Tz (enc:=kF) (sz:=3) og.len l0 i (by omega)
 have hTe:=Flat.TA (enc:=kF) (sz:=3) og.len l0 i (by omega)
 have hTl:((l0.take i).flatMap kF).length=i * 3:=by rw [Flat.yK og.len,List.length_take,hn,Nat.min_eq_left (by omega)];rfl
 have hone:∀ (xs:List aC),∀ v ∈ xs.flatMap kF,v.oneCell'=true:=fun xs v hv=>by
  obtain ⟨x,_,hx⟩:=List.mem_flatMap.1 hv
  exact og.one x v hx
 have hcell:∀ (W:World),W.heap[g]?=some (.cells cur 43 (0,0))→∀ j v,((l0.drop i).flatMap kF)[j]?=some v→W.cell? ((⟨g,i * 3,none⟩:Addr).add j)=some v:=fun W hW j v hj=>by
  rw [Addr.add_lit,aO hW,← Array.getElem?_toList]
  rw [hDe,← ht,List.getElem?_drop,List.getElem?_take] at hj
  split at hj
  ·exact hj
  ·cases hj
 have hcellT:∀ j v,((l0.take i).flatMap kF)[j]?=some v→w.cell? ((⟨g,0,none⟩:Addr).add j)=some v:=fun j v hj=>by
  rw [Addr.add_lit,Nat.zero_add,aO hh,← Array.getElem?_toList]
  rw [hTe,← ht,List.getElem?_take] at hj
  split at hj
  ·rw [List.getElem?_take] at hj
   split at hj
   ·exact hj
   ·cases hj
  ·cases hj
 have Hz:∀ (W:World),W.heap[vb]?=some (.cells zC 43 (0,0))→∀ j v,(kF y)[j]?=some v→W.cell? ((⟨vb,0,none⟩:Addr).add j)=some v:=fun W hW j v hj=>by
  rw [Addr.add_lit,Nat.zero_add,aO hW,← Array.getElem?_toList]
  rw [← hvt,List.getElem?_take] at hj
  split at hj
  ·exact hj
  ·cases hj
 have hbw:g < w.heap.size:=fO hh
 have hvw:vb < w.heap.size:=fO Aa
 have hkk:(n:Int)+(1:Int) - (i:Int)=((n+1 - i:Nat):Int):=by omega
 have hik:i+(n+1 - i)=n+1:=by omega
 have hold:(Builtin.firstCells i0.size i (.slice (some ⟨g,0,none⟩) i c)).run Tryz.prog w.drew=.ok ((l0.take i).flatMap kF).toArray w.drew:=by
  rw [hzs]
  exact run_firstCells_some w.drew 3 i ⟨g,0,none⟩ i c _ hTl (fun j v hj=>hcellT j v hj)
 have hrz:∀ ty,(Builtin.append_ #[26,3] ty #[.slice (some ⟨g,0,none⟩) i c,ah ((n:Int)+(1:Int) - (i:Int))]).run Tryz.prog w =
   .ok (.slice (some ⟨w.heap.size,0,none⟩) (n+1) (grownCap w (n+1) c 43)) (w.drew.alloc (.cells (((l0.take i).flatMap kF).toArray++Builtin.zeroCells ((.agg #[(.string ⟨#[]⟩),(.bool false),(.string ⟨#[]⟩)]):Value).cells (n+1 - i)++Builtin.zeroCells ((.agg #[(.string ⟨#[]⟩),(.bool false),(.string ⟨#[]⟩)]):Value).cells (grownCap w (n+1) c 43 - (n+1))) 43)):=fun ty=>by
  have h:=Lib.run_append_grow_zeros w 26 3 ty 43 i0 _ .i64 .i64 underlying26 underlying3 hi0 hz0 (some ⟨g,0,none⟩) i c _ hold (n+1 - i) (by omega) (by omega) (by omega) (by omega) (by rw [hzb];omega) (by rw [hzb,hik];exact growslice_fits hroom hbig)
  rw [hik] at h
  rw [hkk]
  exact h
 obtain ⟨G,hG⟩:∃ G,G=grownCap w (n+1) c 43:=⟨_,rfl⟩
 obtain ⟨ROW,hROW⟩:∃ ROW:Array Value,ROW=((l0.take i).flatMap kF).toArray++Builtin.zeroCells ((.agg #[(.string ⟨#[]⟩),(.bool false),(.string ⟨#[]⟩)]):Value).cells (n+1 - i)++Builtin.zeroCells ((.agg #[(.string ⟨#[]⟩),(.bool false),(.string ⟨#[]⟩)]):Value).cells (G - (n+1)):=⟨_,rfl⟩
 rw [← hG] at hrz
 rw [← hROW] at hrz
 have hGn:n+1≤G:=by rw [hG];exact grownCap_ge w _ _ _
 have JE:G≤maxLen:=by rw [hG];exact grownCap_le_maxLen w (n+1) c 43 (by unfold maxLen;omega)
 have hG63:G≤9223372036854775807:=by unfold maxLen at JE;omega
 have hRs:ROW.size=G * 3:=by
  rw [hROW]
  simp [Builtin.zeroCells,Value.cells,hTl]
  omega
 have TQ:ROW.toList.take (i * 3)=(l0.take i).flatMap kF:=by
  rw [hROW]
  simp only [Array.toList_append,List.append_assoc]
  rw [List.take_left' (by rw [← hTl])]
 obtain ⟨W1,hW1⟩:∃ W1,W1=w.drew.alloc (.cells ROW 43):=⟨_,rfl⟩
 rw [← hW1] at hrz
 have hN:W1.heap[w.heap.size]?=some (.cells ROW 43 (0,0)):=by rw [hW1];exact heap_alloc_new w.drew _
 have TP:W1.heap[g]?=some (.cells cur 43 (0,0)):=by rw [hW1];exact jG (w:=w.drew) hh _
 have hOv:W1.heap[vb]?=some (.cells zC 43 (0,0)):=by rw [hW1];exact jG (w:=w.drew) Aa _
 have hcpA:∀ (W:World),(∀ x,W.cell? x=W1.cell? x)→(∀ x,W.frozen? x=W1.frozen? x)→∀ ty dc,(Builtin.copy_ #[26,26] ty #[.slice (some ⟨w.heap.size,i * 3,none⟩) (n+1 - i) dc,.slice (some ⟨vb,0,none⟩) 1 vc]).run Tryz.prog W=.ok (goInt ((1:Nat):Int)) (W.setCells w.heap.size (i * 3) (kF y)):=fun W hWc hWf ty dc =>
  Flat.Ku W 26 26 ty 43 w.heap.size (i * 3) (n+1 - i) dc ⟨vb,0,none⟩ 1 vc 3 1 _ underlying26 hsz (by simp only [Nat.min_def];split <;> omega) hYl
   (fun j v hj=>by rw [hWc];exact Hz W1 hOv j v hj) (fun j hj=>by rw [hWc,aO hN];rw [hYl] at hj;simp;omega) (fun j hj=>by rw [hWf];exact dF hN _) (og.one y)
 obtain ⟨GH,h1,s1,_⟩:=Am (kF y) (i * 3) W1 ROW hN (by rw [hYl];omega)
 have hbN:g≠w.heap.size:=by omega
 have TN:(W1.setCells w.heap.size (i * 3) (kF y)).heap[g]?=some (.cells cur 43 (0,0)):=by rw [DT _ _ _ hbN];exact TP
 have hcpB:∀ (W:World),(∀ x,W.cell? x=(W1.setCells w.heap.size (i * 3) (kF y)).cell? x)→(∀ x,W.frozen? x=(W1.setCells w.heap.size (i * 3) (kF y)).frozen? x)→∀ ty dc sc,(Builtin.copy_ #[26,26] ty #[.slice (some ⟨w.heap.size,(i+1) * 3,none⟩) (n - i) dc,.slice (some ⟨g,i * 3,none⟩) (n - i) sc]).run Tryz.prog W=.ok (goInt ((n - i:Nat):Int)) (W.setCells w.heap.size ((i+1) * 3) ((l0.drop i).flatMap kF)):=fun W hWc hWf ty dc sc =>
  Flat.Ku W 26 26 ty 43 w.heap.size ((i+1) * 3) (n - i) dc ⟨g,i * 3,none⟩ (n - i) sc 3 (n - i) _ underlying26 hsz (by simp only [Nat.min_def];split <;> omega) hDl
   (fun j v hj=>by rw [hWc];exact hcell _ TN j v hj) (fun j hj=>by rw [hWc,aO h1];rw [hDl] at hj;simp;omega) (fun j hj=>by rw [hWf];exact dF h1 _) (hone _)
 have HI:=m_ (Flat.aaW og hn (W:=W1) hN hRs i (by omega) TQ hGn y)
 have hGi:¬ (G=i):=by omega
 have hGim:¬ (G=i+1):=by omega
 have hci:¬ (c=i):=by omega
 subst hW1
 have hE1:∀ x,((w.alloc (.cells ROW 43)).drew).cell? x=(w.drew.alloc (.cells ROW 43)).cell? x:=fun x=>rfl
 have hE2:∀ x,((w.alloc (.cells ROW 43)).drew).frozen? x=(w.drew.alloc (.cells ROW 43)).frozen? x:=fun x=>rfl
 have hF1:∀ x,(((w.alloc (.cells ROW 43)).drew.setCells w.heap.size (i * 3) (kF y)).drew).cell? x=((w.drew.alloc (.cells ROW 43)).setCells w.heap.size (i * 3) (kF y)).cell? x:=fun x=>rfl
 have hF2:∀ x,(((w.alloc (.cells ROW 43)).drew.setCells w.heap.size (i * 3) (kF y)).drew).frozen? x=((w.drew.alloc (.cells ROW 43)).setCells w.heap.size (i * 3) (kF y)).frozen? x:=fun x=>rfl
 have hz1:¬ ((1:Int)=0):=by omega
 have hz2:¬ ((i:Int)=(n:Int)):=by omega
 have hz3:(c:Int) < (n:Int)+(1:Int):=by omega
 have hw1:IntKind.i64.wrap ((i:Int)+(1:Int))=(i:Int)+(1:Int):=by rw [IntKind.wrap_i64];omega
 have hw2:IntKind.i64.wrap ((n:Int)+(1:Int))=(n:Int)+(1:Int):=by rw [IntKind.wrap_i64];omega
 have hb1:(0:Int)≤(i:Int)+(1:Int):=by omega
 have hin:i≤n:=by omega
 have htn:((i:Int)+(1:Int)).toNat=i+1:=by omega
 have hb3:(i:Int)≤(n:Int):=by omega
 have HH:=m_ (And.intro hB (And.intro JE hn))
 clear hkk hik hold hROW hG TQ hRs hN TP hOv h1 TN s1 hcell hcellT Hz hone hDe hTe hTl hh Aa ht hvt hsz ho0 ho2 hB
 go_enter func66,ntmps66
 go_wp2_with (first
  | (at_builtin;refine Lib.wpList_append_run _ rfl _ _ _ _ rfl _ _ rfl rfl _ _ (hrz _) ?_)
  | (at_builtin;refine wpList_copy_runI _ rfl _ _ 26 26 rfl _ _ rfl rfl (hcpA _ hE1 hE2 _ _) ?_)
  | (at_builtin;refine wpList_copy_runI _ rfl _ _ 26 26 rfl _ _ rfl rfl (hcpB _ (fun _=>rfl) (fun _=>rfl) _ _ _) ?_))
 go_region_law_o (refine step_copy_runI rfl _ _ 26 26 rfl (.slice (some ⟨w.heap.size,(i+1) * 3,none⟩) (n - i) (G - (i+1))) (.slice (some ⟨g,i * 3,none⟩) (n - i) (c - i)) (by simp [Act.eval,Act.put]) (by simp [Act.eval,Act.put]) (hcpB _ hF1 hF2 3 (G - (i+1)) (c - i)) ?_)
 go_wp2
 go_ret
 obtain ⟨wP,h2,s2,t2⟩:=HI.out
 obtain ⟨hB,JE,hn⟩:=HH.out
 have hE:((w.alloc (.cells ROW 43)).drew.setCells w.heap.size (i * 3) (kF y)).drew.setCells w.heap.size ((i+1) * 3) ((l0.drop i).flatMap kF)=(((w.drew.alloc (.cells ROW 43)).setCells w.heap.size (i * 3) (kF y)).setCells w.heap.size ((i+1) * 3) ((l0.drop i).flatMap kF)).drew:=(drew_setCells _ _ _ _).symm
 rw [hE]
 refine ⟨_,rfl,Kd.bK (Flat.QT og hB.size (.inr (Nat.le_refl _)) (by simp [List.length_take,List.length_drop];omega) (by omega) JE h2 s2 t2),?_,?_⟩
 ·exact (Flat.Jo (Flat.Jo (hB.drew.alloc hB.size _) hB.size _ _) hB.size _ _).drew
 ·exact Kept.drew (Flat.JV (Flat.JV (Kept.alloc (Kept.drew (Kept.refl _ _)) _) (.inr (Nat.le_refl _)) _ _) (.inr (Nat.le_refl _)) _ _)
theorem aaP (eG:Nat→Prop) (jk:Value) (l0:List aC) (i:Nat) (oN:Nat→Prop) (D_:Value) (y:aC) (w0 w:World) (hB:Below w0.heap.size w0 w) (ho0:Kd.R bF 43 w w0.heap.size eG jk l0) (Oe:∀ aF,eG aF→¬ oN aF) (ho2:Kd.R bF 43 w w0.heap.size oN D_ [y]) (hi:i≤l0.length) (hbig:(l0.length+1) * 40≤140737488355328) :
  Calls Tryz.prog 66 #[jk,ah i,D_] w fun e w'=>∃ gQ:Value,e=.returned gQ∧Kd.R bF 43 w' w0.heap.size (fun aF=>((eG aF∨oN aF)∨w.heap.size≤aF)) gQ (l0.take i++[y]++l0.drop i)∧Below w0.heap.size w0 w'∧Kept w w' (fun aF=>eG aF∨oN aF):=by
 obtain ⟨vb,vc,hv,_,_,_⟩:=Kd.zf ho2 (by simp)
 have hv2:D_=.slice (some ⟨vb,0,none⟩) 1 vc:=hv
 subst hv2
 by_cases hin:i=l0.length
 ·subst hin
  rw [List.take_length,List.drop_length,List.append_nil]
  exact aaQ eG jk l0 oN vb vc y w0 w hB ho0 ho2 hbig
 rcases Flat.QS ho0 with ⟨_,hn⟩|⟨g,c,rfl,hnc,hcm⟩
 ·omega
 by_cases hroom:l0.length+1≤c
 ·exact aaS g c i vb vc l0.length l0 y w0 w eG oN rfl (by omega) hroom (fun e=>Oe g (ho0.1 g rfl) (e ▸ ho2.1 vb rfl)) hB ho0 ho2
 ·exact aaR g c i vb vc l0.length l0 y w0 w eG oN rfl (by omega) (by omega) hbig hB ho0 ho2
def Aq.f (l0:List aC) (a1:Int) (l2:List aC):Option (List aC):=if (0≤a1∧a1≤(l0.length:Int))∧l2.length=1∧(l0.length+1) * 40≤140737488355328 then some (l0.take a1.toNat++l2++l0.drop a1.toNat) else none
theorem Aq.calls (eG:Nat→Prop) (jk:Value) (l0:List aC) (a1:Int) (oN:Nat→Prop) (D_:Value) (l2:List aC) (r:List aC) (w0 w:World) (hB:Below w0.heap.size w0 w) (ho0:Kd.R bF 43 w w0.heap.size eG jk l0) (Oe:∀ aF,eG aF→¬ oN aF) (ho2:Kd.R bF 43 w w0.heap.size oN D_ l2) (agm:∀ aF,oN aF→¬ eG aF) (h:Aq.f l0 a1 l2=some r) :
  Calls Tryz.prog 66 #[jk,ah a1,D_] w fun e w'=>∃ gQ:Value,e=.returned gQ∧Kd.R bF 43 w' w0.heap.size (fun aF=>((eG aF∨oN aF)∨w.heap.size≤aF)) gQ r∧Below w0.heap.size w0 w'∧Kept w w' (fun aF=>eG aF∨oN aF):=by
 unfold Aq.f at h
 split at h
 case isFalse=>cases h
 case isTrue hc =>
 obtain ⟨⟨h0,h1⟩,h2,h3⟩:=hc
 obtain rfl:=cZ h
 obtain ⟨y,rfl⟩:=List.length_eq_one_iff.1 h2
 obtain ⟨c,rfl⟩:=Int.eq_ofNat_of_zero_le h0
 exact aaP eG jk l0 c oN D_ y w0 w hB ho0 Oe ho2 (by omega) h3

def Dt.f (ac:List (aC)) (a6:ByteArray) (a8:Bool) (a9:ByteArray):Option ((List (aC))):=(Dn.f ac a6).bind fun a5=>((FD.f a5 a6 a8 a9).bind fun a7=>(if a7 < 0 then ((Aq.f a5 (a5.length:Int) (([(⟨a6,a8,a9⟩:aC)]:List (aC)))).bind fun aa=>(some aa)) else ((Aq.f a5 a7 (([(⟨a6,a8,a9⟩:aC)]:List (aC)))).bind fun ab=>(some ab))))
theorem Dt.calls (be:Option Addr) (fF:Nat) (aH:List (aC)) (fH:ByteArray) (fG:Bool) (fE:ByteArray) (r:List (aC)) (w:World) (bl:Kd.C bF w be aH.length aH) (bm:aH.length≤fF) (h:Dt.f aH fH fG fE=some r) :
  Calls Tryz.prog 21 #[.agg #[.slice be aH.length fF],.agg #[.string fH,.bool fG,.string fE]] w fun e w'=>∃ gQ:Value,e=.returned (.agg #[gQ])∧Kd.R bF 43 w' w.heap.size (fun _=>True) gQ r∧Below w.heap.size w w':=by
 have oq:=underlying28
 have rF:=underlying43
 have lF:=m_ bl
 have bv:=m_ bm
 clear bl bm
 have HB:=m_ (Below.refl w.heap.size w)
 unfold Dt.f at h
 have H:=h
 clear h
 obtain ⟨a8,A3,H⟩:=bd_ H
 obtain ⟨b2,A4,H⟩:=bd_ H
 have cm:=m_ H
 clear H
 go_enter func21,ntmps21
 go_upto_if 16 with (first|((with_reducible refine dG 2 ?_);refine dU 2 (cs:=#[.slice be aH.length fF]) 28 ?_;intro fK hg w6 hbox hb;obtain ⟨HB,a5,bx,adF⟩:=kE ay hb hbox hg;clear hb hbox hg)|((with_reducible refine dG 3 ?_);refine dU 3 (cs:=#[.string fH,.bool fG,.string fE]) 43 ?_;intro aa hg w7 hbox hb;obtain ⟨a5,HB,a6,bz,adG,ag,aP⟩:=qj (aj a5) ay hb hbox hg;clear hb hbox hg)|((with_reducible refine dG 4 ?_);refine dU 4 (cs:=#[.slice none 0 0]) 28 ?_;intro b7 hg w8 hbox hb;obtain ⟨a5,a6,HB,a7,ca,adH,ai,aN,aT,al⟩:=wu (aj a5) (aj a6) ay hb hbox hg;clear hb hbox hg;obtain ⟨cn,co,ap,aq⟩:=jE ag aP ai aN;have Qh:=cu a5.out;obtain ⟨ar,bP⟩:=iJ aT al;have bw:=nP a6.out)|((with_reducible refine bU 64 ?_);refine bV (some 10) rfl rfl func64 aB rfl #[.agg #[.slice be aH.length fF],.string fH] rfl aW ?_;(with_reducible refine (Dn.calls _ _ aH fH a8 _ ?kG ?pX A3.out).mono ?_);(case kG=>exact sD);(case pX=>exact bv.out);rintro e jg ⟨air,rfl,ho0,hb⟩;refine ⟨_,rfl,?_⟩;obtain ⟨oJ,a5,a6,a7,HB⟩:=p_ (Kd.dK (Kd.vg ho0 (g:=aa) (o:=.cells #[.string fH,.bool fG,.string fE] 43) (aj a6)) (dO ay)) <| wO (aj a5) (aj a6) (aj a7) ay hb;(try clear hb);(try clear ho0))|((with_reducible refine dG 5 ?_);refine dU 5 (cs:=#[.slice none 0 0]) 28 ?_;intro bo hg cv hbox hb;obtain ⟨oJ,a5,a6,a7,HB,qc,cc,adI,ab,am,a9,an,ac,ao⟩:=p_ (Kd.bn (aG oJ) hb) <| yF (aj a5) (aj a6) (aj a7) ay hb hbox hg;clear hb hbox hg;obtain ⟨b3,b1,cd⟩:=Kd.dJ oJ.out;subst cd;obtain ⟨av,aw,ax,dw,az,b0⟩:=kL am ab an a9 ao ac;have FX:=cu qc.out)|((with_reducible refine bU 60 ?_);refine bV (some 14) rfl rfl func60 aB rfl #[.slice b3 a8.length b1,.func (.func 65) #[] #[.pointer (some ⟨aa,0,none⟩)]] rfl aW ?_;(with_reducible refine (FD.calls _ _ a8 aa fH fG fE b2 _ ?kG ?pX ?mJ A4.out).mono ?_);(case kG=>refine (Kd.bZ (e:=43) (base:=w.heap.size) (ok:=fun aF=>(True∧aF≠aa)) (n:=a8.length) (c:=b1) ?_).2.2;exact Xa);(case pX=>exact (Kd.bZ oJ.out).2.1);(case mJ=>(with_reducible repeat (first|refine kD ?_ _|refine gW ?_|refine jG ?_ _));refine xK ?_ a9.out _;(with_reducible repeat (first|refine kD ?_ _|refine gW ?_|refine jG ?_ _));exact a6.out);rintro e cw ⟨rfl,hb⟩;refine ⟨_,rfl,?_⟩;obtain ⟨oJ,a5,a6,a7,qc,HB⟩:=p_ (Kd.bn Xa hb) <| p_ (bG (g:=fK) (o:=.cells #[.slice be aH.length fF] 28) (lM a5.out ab.out) hb) <| p_ (bG (g:=aa) (o:=.cells #[.string fH,.bool fG,.string fE] 43) (lM a6.out a9.out) hb) <| p_ (bG (g:=b7) (o:=.cells #[.slice none 0 0] 28) (lM a7.out ac.out) hb) <| p_ (bG (g:=bo) (o:=.cells #[.slice b3 a8.length b1] 28) (wB qc.out) hb) <| a_ (dI ay hb);(try clear hb);(try clear hk)))
 (try simp only [Act.put,List.setIfInBounds_toArray,List.set_cons_zero,List.set_cons_succ])
 (try clear ap aw ar dw aq bP b0 av ax az)
 (try clear Qh)
 (try clear bw)
 (try clear FX)
 (try clear Qh)
 (try clear FX)
 obtain ⟨H⟩:=cm
 revert H;refine gI (fun b4 H=>?_) fun b4 H=>?_
 rotate_left
 ·try simp only [bI,bY,b4]
  obtain ⟨b5,b8⟩:∃ y_:List (aC),y_=(([(⟨fH,fG,fE⟩:aC)]:List (aC))):=⟨_,rfl⟩
  rw [← b8] at H
  have dM:=m_ b8
  clear b8
  obtain ⟨bc,cp,H⟩:=bd_ H
  obtain rfl:=cZ H
  obtain ⟨av,aw,ax,dw,az,b0⟩:=kL am ab an a9 ao ac
  have akG:=cu qc.out
  obtain ⟨b9,ba,ar,bP⟩:=jE aP ag aT al
  have cq:=nP a6.out
  go_wp2_with (first|((with_reducible refine dG 24 ?_);refine Kd.qV bF _ 43 ?hg (N:=24) ?hd (xs:=([(⟨fH,fG,fE⟩:aC)]:List (aC))) (inner:=[.string fH,.bool fG,.string fE]) (ok:=fun _=>True) (iT:=fun _=>True) ?hr ?hp (fun _ hk=>hk) trivial (Below.refl _ _) (Nat.le_refl _) (by simp) ?_;(case hd=>rfl);(case hg=>rfl);(case hr=>first|(go_simp;done)|(go_simp;rfl));(case hp=>exact Xk);intro aiu cx EY hb jc jd;clear jc jd;(first|rw [← dM.out] at EY|(simp only [Int.reduceToNat] at EY;rw [← dM.out] at EY));obtain ⟨oJ,ae,a5,a6,a7,qc,HB⟩:=p_ (Kd.iY (aG oJ) (Kd.iW EY) hb) <| p_ (Kd.dK (Kd.vg (Kd.iZ EY (Kd.iD (aG oJ))) (g:=aa) (o:=.cells #[.string fH,.bool fG,.string fE] 43) (aj a6)) (dO ay)) <| nC (aj a5) (aj a6) (aj a7) (aj qc) ay hb;clear hb EY;obtain ⟨bp,bq,ce⟩:=Kd.dJ ae.out;subst ce)|((with_reducible refine bU 66 ?_);refine bV (some 25) rfl rfl func66 aB rfl #[.slice b3 a8.length b1,ah b2,.slice bp b5.length bq] rfl aW ?_;(with_reducible refine (Aq.calls (fun aF=>some aF=(.slice b3 a8.length b1:Value).ownBlock) (.slice b3 a8.length b1) a8 b2 (fun aF=>some aF=(.slice bp b5.length bq:Value).ownBlock) (.slice bp b5.length bq) b5 bc w _ ?kG ?pX ?mJ ?O9 ?O_ cp.out).mono ?_);(case kG=>exact ay);(case pX=>exact Kd.rU rfl oJ.out);(case mJ=>exact fun aF e_=>(oJ.out.1 aF e_.symm).2);(case O9=>exact Kd.rU rfl ae.out);(case O_=>exact fun aF e_=>(ae.out.1 aF e_.symm).1.2);rintro e cy ⟨aiv,rfl,ho0,hb,hkp⟩;refine ⟨_,rfl,?_⟩;have eP:=p_ (vF (aj a5) hkp (fun hs_=>Or.elim hs_ (fun e_=>(fun e_=>(Kd.iw oJ.out a5.out (by decide)) e_) e_) (fun e_=>(fun e_=>(Kd.iw ae.out a5.out (by decide)) e_) e_))) <| p_ (vF (aj a6) hkp (fun hs_=>Or.elim hs_ (fun e_=>(fun e_=>(Kd.qB oJ.out (fun _ hk=>hk.1.2)) e_) e_) (fun e_=>(fun e_=>(Kd.qB ae.out (fun _ hk=>hk.2)) e_) e_))) <| p_ (vF (aj a7) hkp (fun hs_=>Or.elim hs_ (fun e_=>(fun e_=>(Kd.iw oJ.out a7.out (by decide)) e_) e_) (fun e_=>(fun e_=>(Kd.iw ae.out a7.out (by decide)) e_) e_))) <| p_ (vF (aj qc) hkp (fun hs_=>Or.elim hs_ (fun e_=>(fun e_=>(Kd.iw oJ.out qc.out (by decide)) e_) e_) (fun e_=>(fun e_=>(Kd.iw ae.out qc.out (by decide)) e_) e_))) <| p_ (Kd.bW (ok':=fun aF=>aF≠aa) ho0 (fun aF JK=>Or.elim JK (fun hs_=>Or.elim hs_ (fun hs_=>fun e_=>(Kd.qB oJ.out (fun _ hk=>hk.1.2)) (by rw [← e_];exact hs_)) (fun hs_=>fun e_=>(Kd.qB ae.out (fun _ hk=>hk.2)) (by rw [← e_];exact hs_))) (fun Oc=>(Kd.EN (g:=aa) (o:=.cells #[.string fH,.bool fG,.string fE] 43) (aj a6) aF Oc)))) <| a_ (hb);clear a5 a6 a7 qc HB oJ ae;obtain ⟨a5,a6,a7,qc,bh,HB⟩:=eP;(try clear hb);(try clear hkp);(try clear ho0);obtain ⟨cf,cg,ch⟩:=Kd.dJ bh.out;subst ch;have akK:=cu qc.out;obtain ⟨aq,ap⟩:=iJ aN ai;have akM:=cu a7.out))
  refine bodyPost_ret (results_cell_row rfl _ _ b7 28 #[.slice cf bc.length cg] (0,0) _ rfl bH underlying28 rfl aB) rfl ?_
  exact ⟨_,b_,(by (with_reducible repeat (first|apply Kd.dR|apply Kd.dS|apply Kd.bK));exact Kd.bW (aU (aU (Kd.dL (Kd.dL bh.out qc.out (by decide)) a7.out (by decide)) (fun _ hk=>hk.1.2))) (fun _ hk=>trivial)),ay⟩
 try simp only [bI,bY,b4]
 obtain ⟨b6,bb⟩:∃ y_:List (aC),y_=(([(⟨fH,fG,fE⟩:aC)]:List (aC))):=⟨_,rfl⟩
 rw [← bb] at H
 have bi:=m_ bb
 clear bb
 obtain ⟨bd,cr,H⟩:=bd_ H
 obtain rfl:=cZ H
 obtain ⟨av,aw,ax,dw,az,b0⟩:=kL am ab an a9 ao ac
 have Qn:=cu qc.out
 obtain ⟨b9,ba,ar,bP⟩:=jE aP ag aT al
 have ct:=nP a6.out
 go_wp2_with (first|((with_reducible refine dG 24 ?_);refine Kd.qV bF _ 43 ?hg (N:=24) ?hd (xs:=([(⟨fH,fG,fE⟩:aC)]:List (aC))) (inner:=[.string fH,.bool fG,.string fE]) (ok:=fun _=>True) (iT:=fun _=>True) ?hr ?hp (fun _ hk=>hk) trivial (Below.refl _ _) (Nat.le_refl _) (by simp) ?_;(case hd=>rfl);(case hg=>rfl);(case hr=>first|(go_simp;done)|(go_simp;rfl));(case hp=>exact Xk);intro ais cz EW hb jc jd;clear jc jd;(first|rw [← bi.out] at EW|(simp only [Int.reduceToNat] at EW;rw [← bi.out] at EW));obtain ⟨oJ,af,a5,a6,a7,qc,HB⟩:=p_ (Kd.iY (aG oJ) (Kd.iW EW) hb) <| p_ (Kd.dK (Kd.vg (Kd.iZ EW (Kd.iD (aG oJ))) (g:=aa) (o:=.cells #[.string fH,.bool fG,.string fE] 43) (aj a6)) (dO ay)) <| nC (aj a5) (aj a6) (aj a7) (aj qc) ay hb;clear hb EW;obtain ⟨br,bs,ci⟩:=Kd.dJ af.out;subst ci)|((with_reducible refine bU 66 ?_);refine bV (some 25) rfl rfl func66 aB rfl #[.slice b3 a8.length b1,ah (a8.length:Int),.slice br b6.length bs] rfl aW ?_;(with_reducible refine (Aq.calls (fun aF=>some aF=(.slice b3 a8.length b1:Value).ownBlock) (.slice b3 a8.length b1) a8 (a8.length:Int) (fun aF=>some aF=(.slice br b6.length bs:Value).ownBlock) (.slice br b6.length bs) b6 bd w _ ?kG ?pX ?mJ ?O9 ?O_ cr.out).mono ?_);(case kG=>exact ay);(case pX=>exact Kd.rU rfl oJ.out);(case mJ=>exact fun aF e_=>(oJ.out.1 aF e_.symm).2);(case O9=>exact Kd.rU rfl af.out);(case O_=>exact fun aF e_=>(af.out.1 aF e_.symm).1.2);rintro e d0 ⟨ait,rfl,ho0,hb,hkp⟩;refine ⟨_,rfl,?_⟩;have eP:=p_ (vF (aj a5) hkp (fun hs_=>Or.elim hs_ (fun e_=>(fun e_=>(Kd.iw oJ.out a5.out (by decide)) e_) e_) (fun e_=>(fun e_=>(Kd.iw af.out a5.out (by decide)) e_) e_))) <| p_ (vF (aj a6) hkp (fun hs_=>Or.elim hs_ (fun e_=>(fun e_=>(Kd.qB oJ.out (fun _ hk=>hk.1.2)) e_) e_) (fun e_=>(fun e_=>(Kd.qB af.out (fun _ hk=>hk.2)) e_) e_))) <| p_ (vF (aj a7) hkp (fun hs_=>Or.elim hs_ (fun e_=>(fun e_=>(Kd.iw oJ.out a7.out (by decide)) e_) e_) (fun e_=>(fun e_=>(Kd.iw af.out a7.out (by decide)) e_) e_))) <| p_ (vF (aj qc) hkp (fun hs_=>Or.elim hs_ (fun e_=>(fun e_=>(Kd.iw oJ.out qc.out (by decide)) e_) e_) (fun e_=>(fun e_=>(Kd.iw af.out qc.out (by decide)) e_) e_))) <| p_ (Kd.bW (ok':=fun aF=>aF≠aa) ho0 (fun aF JK=>Or.elim JK (fun hs_=>Or.elim hs_ (fun hs_=>fun e_=>(Kd.qB oJ.out (fun _ hk=>hk.1.2)) (by rw [← e_];exact hs_)) (fun hs_=>fun e_=>(Kd.qB af.out (fun _ hk=>hk.2)) (by rw [← e_];exact hs_))) (fun Oc=>(Kd.EN (g:=aa) (o:=.cells #[.string fH,.bool fG,.string fE] 43) (aj a6) aF Oc)))) <| a_ (hb);clear a5 a6 a7 qc HB oJ af;obtain ⟨a5,a6,a7,qc,bj,HB⟩:=eP;(try clear hb);(try clear hkp);(try clear ho0);obtain ⟨cj,ck,cl⟩:=Kd.dJ bj.out;subst cl;have adn:=cu qc.out;obtain ⟨aq,ap⟩:=iJ aN ai;have akC:=cu a7.out))
 refine bodyPost_ret (results_cell_row rfl _ _ b7 28 #[.slice cj bd.length ck] (0,0) _ rfl bH underlying28 rfl aB) rfl ?_
 exact ⟨_,b_,(by (with_reducible repeat (first|apply Kd.dR|apply Kd.dS|apply Kd.bK));exact Kd.bW (aU (aU (Kd.dL (Kd.dL bj.out qc.out (by decide)) a7.out (by decide)) (fun _ hk=>hk.1.2))) (fun _ hk=>trivial)),ay⟩

end Go.Proofs.YthejdhjpbpamoaaGreatDoor.jM
