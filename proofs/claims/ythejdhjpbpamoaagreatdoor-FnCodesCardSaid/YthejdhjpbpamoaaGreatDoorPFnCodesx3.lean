/- Contracts of Go functions: each call returns what the Lean function beside it computes. Conditions: as each theorem states them. -/
import Derived.Test.YthejdhjpbpamoaaGreatDoorPkFnCodes
import Derived.Test.YthejdhjpbpamoaaGreatDoorPFnCodesx1
namespace Go.Proofs.YthejdhjpbpamoaaGreatDoor.jD
open Go.RowKit Go.Proofs.YthejdhjpbpamoaaGreatDoorW.iw Go.Proofs.YthejdhjpbpamoaaGreatDoorW.lH Go.Proofs.YthejdhjpbpamoaaGreatDoorW.oO Go.Proofs.Tryz
attribute [local go_sem] qw qB qA qF qy qE qx qC   -- for this text's walks alone
set_option linter.unusedVariables false
set_option maxHeartbeats 8000000
set_option maxRecDepth 100000
set_option linter.unusedSimpArgs false

def Ec.f (l0:List (aF)):Option (List (aF)):=if l0.length < 3518437208883 then some l0 else none
theorem Ec.calls (A0:Option Addr) (c0:Nat) (l0:List (aF)) (r:List (aF)) (w:World) (hr0:Kd.C aU w A0 l0.length l0) (hc0:l0.length≤c0) (h:Ec.f l0=some r) :
  Calls Tryz.prog 94 #[.slice A0 l0.length c0] w fun e w'=>∃ eP:Value,e=.returned (eP)∧Kd.R aU 43 w' w.heap.size (fun _=>True) eP r∧Below w.heap.size w w':=by
 have hl:l0.length < 3518437208883∧l0=r:=by
  unfold Ec.f at h
  split at h
  ·exact ⟨(by assumption),dF h⟩
  ·cases h
 obtain ⟨hl,rfl⟩:=hl
 clear h
 have HR0:=m_ hr0
 clear hr0 hc0
 have bY:∀ (w:World) (a:Option Addr) (n c n' c':Nat),(binOp .eql 26 (.slice a n c) (.slice none n' c')).run Tryz.prog w=.ok (.bool a.isNone) w:=fun w a n c n' c'=>Lib.run_eql_slice_nil w _ _ a n c n' c' underlying26
 rcases A0 with _|ad
 ·have hn:l0=[]:=by
   rcases Nat.eq_zero_or_pos l0.length with h0|h0
   ·exact List.eq_nil_of_length_eq_zero h0
   ·obtain ⟨ad,h,_⟩:=HR0.out.2.2 h0
    cases h
  subst hn
  clear HR0
  go_enter func94,ntmps94
  go_wp2
  go_ret
  exact ⟨_,rfl,Kd.IC _ _ _ _ _,Below.refl _ _⟩
 ·have HL:=m_ hl
  clear hl
  go_enter func94,ntmps94
  go_wp2_with ((with_reducible refine xH (b:=.append) (xs:=#[.tmp 5,.tmp 6]) rfl ?_);at_builtin;refine Kd.EL aU (w0:=w) w.heap.size rfl (.tmp 5) (.tmp 6) 26 43 (.agg #[(.string ⟨#[]⟩),(.bool false),(.string ⟨#[]⟩)]) 40 rfl underlying26 pV rfl (by decide) (by omega) _ [] l0 _ _ _ (fun _=>True) (fun _=>False) rfl rfl ?kG ?aR (fun _ _ h=>h) (fun _ h=>h.elim) (fun _ _=>trivial) ?lu ?kH ?aL ?_;(case kG=>exact ⟨fun _ _=>trivial,[],World.ownsRow_made w #[] 0 (Nat.le_refl _) (Nat.zero_le _) (by simp),bD.none _ _⟩);(case aR=>exact Kd.jO HR0.out _);(case lu=>exact (Below.refl _ _).alloc (Nat.le_refl _) _);(case kH=>simp);(case aL=>have:=HL.out;simp only [List.length_nil];omega);intro v1 w1 hR hB hg hat)
  go_ret
  exact ⟨_,rfl,(by simpa using hR),hB⟩

def xP.f (a5:List (aF)):Option ((List (aF))):=(Ec.f a5).bind fun a6=>(some a6)
theorem xP.calls (a9:Option Addr) (aa:Nat) (aI:List (aF)) (r:List (aF)) (w:World) (ab:Kd.C aU w a9 aI.length aI) (ac:aI.length≤aa) (h:xP.f aI=some r) :
  Calls Tryz.prog 45 #[.agg #[.slice a9 aI.length aa]] w fun e w'=>∃ eP:Value,e=.returned (.agg #[eP])∧Kd.R aU 43 w' w.heap.size (fun _=>True) eP r∧Below w.heap.size w w':=by
 have mF:=underlying28
 have lq:=m_ ab
 have af:=m_ ac
 clear ab ac
 have HB:=m_ (Below.refl w.heap.size w)
 unfold xP.f at h
 have H:=h
 clear h
 obtain ⟨ag,A2,H⟩:=bd_ H
 obtain rfl:=dF H
 go_enter func45,ntmps45
 go_wp2_with (first|((with_reducible refine dJ 1 ?_);refine dO 1 (cs:=#[.slice a9 aI.length aa]) 28 ?_;intro aQ hg w3 hbox hb;obtain ⟨HB,a5,al,am⟩:=kL au hb hbox hg;clear hb hbox hg)|((with_reducible refine dJ 2 ?_);refine dO 2 (cs:=#[.slice none 0 0]) 28 ?_;intro aK hg w4 hbox hb;obtain ⟨a5,HB,a6,an,ao,a7,a8⟩:=pq (ak a5) au hb hbox hg;clear hb hbox hg;obtain ⟨ai,aN⟩:=gB a7 a8;have aaX:=dh a5.out)|((with_reducible refine bT 94 ?_);refine bU (some 5) rfl rfl func94 aB rfl #[.slice a9 aI.length aa] rfl aX ?_;(with_reducible refine (Ec.calls _ _ aI ag _ pY af.out A2.out).mono ?_);rintro e w7 ⟨aze,rfl,ho0,hb⟩;refine ⟨_,rfl,?_⟩;obtain ⟨ae,a5,a6,HB⟩:=p_ (Kd.dI ho0 (cZ au)) <| Ai (ak a5) (ak a6) au hb;(try clear hb);(try clear ho0);obtain ⟨ap,aq,ar⟩:=Kd.dK ae.out;subst ar;have Ey:=dh a6.out))
 refine bodyPost_ret (results_cell_row rfl _ _ aK 28 #[.slice ap ag.length aq] (0,0) _ rfl aT underlying28 rfl aB) rfl ?_
 exact ⟨_,bM,(by (with_reducible repeat (first|apply Kd.dB|apply Kd.dD|apply Kd.aZ));exact Kd.bn (aH (Kd.bQ ae.out a6.out (by decide))) (fun _ hk=>trivial)),au⟩

def yw.f (a0:Int) (a1:Int) (a2:Int):Option (Bool):=if a0 ≥ a1 then (some (decide (a0≤a2))) else (some false)
theorem yw.calls (a0:Int) (a1:Int) (a2:Int) (r:Bool) (w:World) (h:yw.f a0 a1 a2=some r) :
  Calls Tryz.prog 100 #[ah a0,ah a1,ah a2] w fun e w'=>e=.returned (.bool r)∧nU w w':=by
 unfold yw.f at h
 have H:=h
 clear h
 revert H;refine gJ (fun a5 H=>?_) fun a5 H=>?_
 ·obtain rfl:=dF H
  go_enter func100,ntmps100
  go_wp2
  go_ret
  exact ⟨bg,kN⟩
 obtain rfl:=dF H
 go_enter func100,ntmps100
 go_wp2
 go_ret
 exact ⟨bg,kN⟩

def JA.f (a5:Int) (a8:ByteArray) (a9:ByteArray) (aa:Int) (ab:Int) (a6:ByteArray):Option (Bool):=(yw.f a5 1 11).bind fun a7=>(if a7=true then (some (decide ((a6.size:Int)≤200))) else (some false))
theorem JA.calls (a5:Int) (a7:ByteArray) (a8:ByteArray) (a9:Int) (aa:Int) (ab:ByteArray) (r:Bool) (w:World) (h:JA.f a5 a7 a8 a9 aa ab=some r) :
  Calls Tryz.prog 67 #[.agg #[ah a5,.string a7,.string a8,ah a9,ah aa,.string ab]] w fun e w'=>e=.returned (.bool r)∧Below w.heap.size w w':=by
 have Bv:=underlying45
 have HB:=m_ (Below.refl w.heap.size w)
 unfold JA.f at h
 have H:=h
 clear h
 obtain ⟨ag,A2,H⟩:=bd_ H
 by_cases c3:ag=true
 ·subst c3
  rw [if_pos rfl] at H
  obtain rfl:=dF H
  go_enter func67,ntmps67
  go_wp2_with (first|((with_reducible refine dJ 1 ?_);(try (refine qL (by rfl) ?_;dsimp only));refine dO 1 (cs:=#[ah a5,.string a7,.string a8,ah a9,ah aa,.string ab]) 45 ?_;intro ac hg w4 hbox hb;obtain ⟨HB,a6,ae,af⟩:=kL au hb hbox hg;clear hb hbox hg;have aK:=jK a6.out)|((with_reducible refine bT 100 ?_);refine bU (some 5) rfl rfl func100 aB rfl #[ah a5,ah 1,ah 11] rfl aX ?_;(with_reducible refine (yw.calls a5 1 11 true _ A2.out).mono ?_);rintro e w' ⟨rfl,⟨nd,rfl⟩⟩;refine ⟨_,rfl,?_⟩))
  go_ret
  exact ⟨bM,au⟩
 replace c3:=Bool.eq_false_iff.mpr c3
 subst c3
 rw [if_neg iI] at H
 obtain rfl:=dF H
 go_enter func67,ntmps67
 go_wp2_with (first|((with_reducible refine dJ 1 ?_);(try (refine qL (by rfl) ?_;dsimp only));refine dO 1 (cs:=#[ah a5,.string a7,.string a8,ah a9,ah aa,.string ab]) 45 ?_;intro ac hg w6 hbox hb;obtain ⟨HB,a6,ae,af⟩:=kL au hb hbox hg;clear hb hbox hg;have ai:=jK a6.out)|((with_reducible refine bT 100 ?_);refine bU (some 5) rfl rfl func100 aB rfl #[ah a5,ah 1,ah 11] rfl aX ?_;(with_reducible refine (yw.calls a5 1 11 false _ A2.out).mono ?_);rintro e w' ⟨rfl,⟨nd,rfl⟩⟩;refine ⟨_,rfl,?_⟩))
 go_ret
 exact ⟨bM,au⟩

def EY.p (qm:ByteArray) (x:aF):Bool:=x.f0.toList == qm.toList
theorem EY (x:aF) (uy:Nat) (qm:ByteArray) (W:World) (hcl0:W.heap[uy]?=some (.cells #[.string qm] 9)):Calls Tryz.prog 61 (#[.agg #[.string x.f0,.bool x.f1,.string x.f2]]++#[.pointer (some ⟨uy,0,none⟩)]) W fun e w'=>e=.returned (.bool (EY.p qm x))∧Below W.heap.size W w':=by
 have aiT:=underlying9
 have uf:=underlying43
 have hb0:uy < W.heap.size:=gu hcl0
 have Xv:W.cell? ⟨uy,0,none⟩=some (.string qm):=(aP hcl0 0).trans rfl
 clear hcl0
 show Calls Tryz.prog 61 #[.agg #[.string x.f0,.bool x.f1,.string x.f2],.pointer (some ⟨uy,0,none⟩)] W _
 go_enter func61,ntmps61
 go_wp2
 go_ret
 exact ⟨(by unfold EY.p;first|rfl|(simp;done)),Un⟩

def EZ.p (qm:ByteArray) (EW:Bool) (EX:ByteArray) (x:aF):Bool:=!(Op.bytesLess x.f0.toList qm.toList)
theorem EZ (x:aF) (uy:Nat) (qm:ByteArray) (EW:Bool) (EX:ByteArray) (W:World) (hcl0:W.heap[uy]?=some (.cells #[.string qm,.bool EW,.string EX] 43)):Calls Tryz.prog 65 (#[.agg #[.string x.f0,.bool x.f1,.string x.f2]]++#[.pointer (some ⟨uy,0,none⟩)]) W fun e w'=>e=.returned (.bool (EZ.p qm EW EX x))∧Below W.heap.size W w':=by
 have uf:=underlying43
 have hb0:uy < W.heap.size:=gu hcl0
 have Xv:W.cell? ⟨uy,0,none⟩=some (.string qm):=(aP hcl0 0).trans rfl
 have alW:W.cell? ⟨uy,1,none⟩=some (.bool EW):=(aP hcl0 1).trans rfl
 have alX:W.cell? ⟨uy,2,none⟩=some (.string EX):=(aP hcl0 2).trans rfl
 clear hcl0
 show Calls Tryz.prog 65 #[.agg #[.string x.f0,.bool x.f1,.string x.f2],.pointer (some ⟨uy,0,none⟩)] W _
 go_enter func65,ntmps65
 go_wp2
 go_ret
 exact ⟨(by unfold EZ.p;first|rfl|(simp;done)),Un⟩

def Aj.p (qm:ByteArray) (x:aF):Bool:=x.f0.toList == qm.toList
theorem Aj (x:aF) (uy:Nat) (qm:ByteArray) (W:World) (hcl0:W.heap[uy]?=some (.cells #[.string qm] 9)):Calls Tryz.prog 112 (#[.agg #[.string x.f0,.bool x.f1,.string x.f2]]++#[.pointer (some ⟨uy,0,none⟩)]) W fun e w'=>e=.returned (.bool (Aj.p qm x))∧Below W.heap.size W w':=by
 have aiT:=underlying9
 have uf:=underlying43
 have hb0:uy < W.heap.size:=gu hcl0
 have Xv:W.cell? ⟨uy,0,none⟩=some (.string qm):=(aP hcl0 0).trans rfl
 clear hcl0
 show Calls Tryz.prog 112 #[.agg #[.string x.f0,.bool x.f1,.string x.f2],.pointer (some ⟨uy,0,none⟩)] W _
 go_enter func112,ntmps112
 go_wp2
 go_ret
 exact ⟨(by unfold Aj.p;first|rfl|(simp;done)),Un⟩

def ajr:Go.Shelf.Ren:=⟨fun|6=>60|n=>n,fun|22=>26|23=>43|25=>85|3=>3|0=>0|4=>4|n=>n,fun|n=>n⟩
theorem ajq:Go.Proofs.SlLaysH0.n6 Tryz.prog ajr:={
 mixed:=by kernel_rfl
 f6:=⟨Tryz.f60.name,(by decide),func60.trans (congrArg some aB)⟩
 t0:=underlying0
 a0:=Tryz.isAgg0
 z0:=Tryz.sizeOf0
 v0:=Tryz.zeroValue0
 t3:=underlying3
 a3:=Tryz.isAgg3
 z3:=Tryz.sizeOf3
 v3:=Tryz.zeroValue3
 t4:=underlying4
 a4:=Tryz.isAgg4
 z4:=Tryz.sizeOf4
 v4:=Tryz.zeroValue4
 t22:=underlying26
 a22:=Tryz.isAgg26
 z22:=Tryz.sizeOf26
 v22:=Tryz.zeroValue26
 t25:=underlying85
 a25:=Tryz.isAgg85
 z25:=Tryz.sizeOf85
 v25:=Tryz.zeroValue85 }
theorem ai3 (a:Option Addr) (c:Nat) (fv:Value) (w:World):Calls Tryz.prog 60 #[.slice a 0 c,fv] w fun e w'=>e=.returned (ah (-1))∧w'=w:=by
 go_enter func60,ntmps60
 go_wp2
 go_loopg [5,8] 0 (fun gg _ s8 wr=>s8=ah 0∧wr=w)
 case atStart=>exact ⟨rfl,rfl⟩
 case round =>
 obtain ⟨rfl,rfl⟩:=hrel
 go_wp2
 go_ret
 exact ⟨rfl,rfl⟩
instance ayM:Inhabited aF:=⟨z43⟩
def kM (x:aF):List Value:=[.string x.f0,.bool x.f1,.string x.f2]
theorem MZ (p:aF→Bool) (g:Nat) (lb:Array Value) (eg:∀ args w,(callFunc g args).run Tryz.prog w=.ok (.enter g args) w) (A0:Option Addr) (c0:Nat) (l0:List aF) (w:World) (hr0:Kd.C aU w A0 l0.length l0) (hbig:l0.length≤9223372036854775807)
  (hp:PredBelow Tryz.prog g lb (fun x=>.agg (kM x).toArray) p w) :
  Calls Tryz.prog 60 #[.slice A0 l0.length c0,.func (.func g) #[] lb] w fun e w'=>e=.returned (ah (Lib.idxBy (fun _ y=>p y) l0 default))∧Below w.heap.size w w':=by
 rcases Nat.eq_zero_or_pos l0.length with hz|hz
 ·have hn:=List.eq_nil_of_length_eq_zero hz
  subst hn
  refine (ai3 A0 c0 _ w).mono ?_
  rintro e w' ⟨rfl,rfl⟩
  exact ⟨rfl,Below.refl _ _⟩
 ·obtain ⟨ad,rfl,hcell⟩:=hr0.2.2 hz
  have cells:∀ (j:Nat) x,l0[j]?=some x→∀ i v,(kM x)[i]?=some v→w.cell? (ad.add (j * 3+i))=some v:=by
   intro j x hx i v hv
   obtain ⟨c,_,hk,hc⟩:=hcell j x hx
   have hk2:=JJ hk
   subst hk2
   exact hc i _ hv
  have h0:=cells 0 _ (List.getElem?_eq_getElem hz) 0 _ rfl
  have hsp:ad.spot=none:=by
   have h0':w.cell? ad=some _:=h0
   unfold World.cell? at h0'
   split at h0'
   ·split at h0'
    ·cases h0'
    ·simpa using ‹¬ ad.spot.isSome=true›
   ·cases h0'
  obtain ⟨bk,o,sp⟩:=ad
  cases hsp
  have:=AnyQ.slices_IndexFunc ajq 3 Tryz.isAgg43 Tryz.sizeOf43 kM (fun _=>rfl) p g lb eg bk o l0.length c0 l0 w hp (Nat.le_refl _) hbig (World.block_lt_of_cell? w _ h0) (fun j hj i v hv=>by
   have:=cells j _ (List.getElem?_eq_getElem hj) i v (by rw [← getElem!_pos l0 j hj];exact hv)
   rw [Addr.add_lit] at this
   rw [Nat.add_assoc]
   exact this)
  rw [List.take_length] at this
  exact this
def H7.f (l0:List aF) (qm:ByteArray):Option (Int):=if l0.length≤9223372036854775807 then some (Lib.idxBy (fun _ y=>EY.p qm y) l0 z43) else none
theorem H7.calls (A0:Option Addr) (c0:Nat) (l0:List aF) (a6:Nat) (a5:ByteArray) (r:Int) (w:World) (hr0:Kd.C aU w A0 l0.length l0) (hc0:l0.length≤c0) (a7:w.heap[a6]?=some (.cells #[.string a5] 9)) (h:H7.f l0 a5=some r) :
  Calls Tryz.prog 60 #[.slice A0 l0.length c0,.func (.func 61) #[] #[.pointer (some ⟨a6,0,none⟩)]] w fun e w'=>e=.returned (ah r)∧Below w.heap.size w w':=by
 unfold H7.f at h
 split at h
 case isFalse=>cases h
 case isTrue hl =>
 obtain rfl:=dF h
 exact MZ (fun y=>EY.p a5 y) 61 #[.pointer (some ⟨a6,0,none⟩)] (fun args W=>Dn func61 rfl rfl args W) A0 c0 l0 w hr0 hl (fun W x hW=>(EY x a6 a5 W (bZ a7 hW)).mono fun e w' hq=>⟨hq.1,hW.trans (hq.2.mono hW.size)⟩)
def J4.f (l0:List aF) (qm:ByteArray) (EW:Bool) (EX:ByteArray):Option (Int):=if l0.length≤9223372036854775807 then some (Lib.idxBy (fun _ y=>EZ.p qm EW EX y) l0 z43) else none
theorem J4.calls (A0:Option Addr) (c0:Nat) (l0:List aF) (a8:Nat) (a5:ByteArray) (a6:Bool) (a7:ByteArray) (r:Int) (w:World) (hr0:Kd.C aU w A0 l0.length l0) (hc0:l0.length≤c0) (a9:w.heap[a8]?=some (.cells #[.string a5,.bool a6,.string a7] 43)) (h:J4.f l0 a5 a6 a7=some r) :
  Calls Tryz.prog 60 #[.slice A0 l0.length c0,.func (.func 65) #[] #[.pointer (some ⟨a8,0,none⟩)]] w fun e w'=>e=.returned (ah r)∧Below w.heap.size w w':=by
 unfold J4.f at h
 split at h
 case isFalse=>cases h
 case isTrue hl =>
 obtain rfl:=dF h
 exact MZ (fun y=>EZ.p a5 a6 a7 y) 65 #[.pointer (some ⟨a8,0,none⟩)] (fun args W=>Dn func65 rfl rfl args W) A0 c0 l0 w hr0 hl (fun W x hW=>(EZ x a8 a5 a6 a7 W (bZ a9 hW)).mono fun e w' hq=>⟨hq.1,hW.trans (hq.2.mono hW.size)⟩)
def TW.f (l0:List aF) (qm:ByteArray):Option (Int):=if l0.length≤9223372036854775807 then some (Lib.idxBy (fun _ y=>Aj.p qm y) l0 z43) else none
theorem TW.calls (A0:Option Addr) (c0:Nat) (l0:List aF) (a6:Nat) (a5:ByteArray) (r:Int) (w:World) (hr0:Kd.C aU w A0 l0.length l0) (hc0:l0.length≤c0) (a7:w.heap[a6]?=some (.cells #[.string a5] 9)) (h:TW.f l0 a5=some r) :
  Calls Tryz.prog 60 #[.slice A0 l0.length c0,.func (.func 112) #[] #[.pointer (some ⟨a6,0,none⟩)]] w fun e w'=>e=.returned (ah r)∧Below w.heap.size w w':=by
 unfold TW.f at h
 split at h
 case isFalse=>cases h
 case isTrue hl =>
 obtain rfl:=dF h
 exact MZ (fun y=>Aj.p a5 y) 112 #[.pointer (some ⟨a6,0,none⟩)] (fun args W=>Dn func112 rfl rfl args W) A0 c0 l0 w hr0 hl (fun W x hW=>(Aj x a6 a5 W (bZ a7 hW)).mono fun e w' hq=>⟨hq.1,hW.trans (hq.2.mono hW.size)⟩)

def ug.f (a5:List (aF)) (a1:ByteArray):Option (Int):=(H7.f a5 a1).bind fun a6=>(some a6)
theorem ug.calls (a9:Option Addr) (aa:Nat) (aI:List (aF)) (a1:ByteArray) (r:Int) (w:World) (ab:Kd.C aU w a9 aI.length aI) (ac:aI.length≤aa) (h:ug.f aI a1=some r) :
  Calls Tryz.prog 17 #[.agg #[.slice a9 aI.length aa],.string a1] w fun e w'=>e=.returned (ah r)∧Below w.heap.size w w':=by
 have mF:=underlying28
 have lq:=m_ ab
 have af:=m_ ac
 clear ab ac
 have HB:=m_ (Below.refl w.heap.size w)
 unfold ug.f at h
 have H:=h
 clear h
 obtain ⟨ai,A3,H⟩:=bd_ H
 obtain rfl:=dF H
 go_enter func17,ntmps17
 go_wp2_with (first|((with_reducible refine dJ 2 ?_);refine dO 2 (cs:=#[.slice a9 aI.length aa]) 28 ?_;intro aN hg w4 hbox hb;obtain ⟨HB,a5,aQ,al⟩:=kL au hb hbox hg;clear hb hbox hg)|((with_reducible refine dJ 3 ?_);refine dO 3 (cs:=#[.string a1]) 9 ?_;intro ae hg w5 hbox hb;obtain ⟨a5,HB,a6,am,an,a7,a8⟩:=pq (ak a5) au hb hbox hg;clear hb hbox hg;obtain ⟨ag,aK⟩:=gB a7 a8;have UN:=dh a5.out)|((with_reducible refine bT 60 ?_);refine bU (some 8) rfl rfl func60 aB rfl #[.slice a9 aI.length aa,.func (.func 61) #[] #[.pointer (some ⟨ae,0,none⟩)]] rfl aX ?_;(with_reducible refine (H7.calls _ _ aI ae a1 ai _ pY af.out ?oI A3.out).mono ?_);(case oI=>(with_reducible repeat (first|refine mW ?_ _|refine iD ?_|refine kU ?_ _));exact a6.out);rintro e w8 ⟨rfl,hb⟩;refine ⟨_,rfl,?_⟩;obtain ⟨a5,a6,HB⟩:=Ai (ak a5) (ak a6) au hb;(try clear hb)))
 go_ret
 exact ⟨bM,au⟩

def strings_HasPrefix.f (a0:ByteArray) (a1:ByteArray):Option (Bool):=some (Lib.hasPrefix a0.data.toList a1.data.toList)
theorem strings_HasPrefix.calls (a0:ByteArray) (a1:ByteArray) (r:Bool) (w:World) (h:strings_HasPrefix.f a0 a1=some r) :
  Calls Tryz.prog 102 #[.string a0,.string a1] w fun e w'=>e=.returned (.bool r)∧Below w.heap.size w w':=by
 unfold strings_HasPrefix.f at h
 obtain rfl:=dF h
 refine (Tryz.strings_HasPrefix a0 a1 w).mono ?_
 rintro e w' ⟨rfl,rfl⟩
 exact ⟨rfl,Below.refl _ _⟩

def strings_HasSuffix.f (a0:ByteArray) (a1:ByteArray):Option (Bool):=if a0.size≤9223372036854775807 then some (Lib.hasSuffix a0.data.toList a1.data.toList) else none
theorem strings_HasSuffix.calls (a0:ByteArray) (a1:ByteArray) (r:Bool) (w:World) (h:strings_HasSuffix.f a0 a1=some r) :
  Calls Tryz.prog 103 #[.string a0,.string a1] w fun e w'=>e=.returned (.bool r)∧Below w.heap.size w w':=by
 unfold strings_HasSuffix.f at h
 split at h
 case isFalse=>cases h
 case isTrue hc =>
 obtain rfl:=dF h
 refine (Tryz.strings_HasSuffix a0 a1 w hc).mono ?_
 rintro e w' ⟨rfl,rfl⟩
 exact ⟨rfl,Below.refl _ _⟩

def strings_Contains.f (a0:ByteArray) (a1:ByteArray):Option (Bool):=if a0.size < 4294967281 then some (Lib.contains a0.data.toList a1.data.toList) else none
theorem strings_Contains.calls (a0:ByteArray) (a1:ByteArray) (r:Bool) (w:World) (jV:iK w) (h:strings_Contains.f a0 a1=some r) :
  Calls Tryz.prog 104 #[.string a0,.string a1] w fun e w'=>e=.returned (.bool r)∧Below w.heap.size w w':=by
 unfold strings_Contains.f at h
 split at h
 case isFalse=>cases h
 case isTrue hc =>
 obtain rfl:=dF h
 obtain ⟨m,hm⟩:=jV
 refine (Tryz.strings_Contains a0 a1 m w hc hm).mono ?_
 rintro e w' ⟨rfl,rfl⟩
 exact ⟨rfl,Below.refl _ _⟩

def DX.f (a0:Int):Option (Bool):=if a0 ≥ 97 then (if a0≤122 then (some true) else (if a0 ≥ 48 then (if a0≤57 then (some true) else (some (a0 == 47))) else (some (a0 == 47)))) else (if a0 ≥ 48 then (if a0≤57 then (some true) else (some (a0 == 47))) else (some (a0 == 47)))
theorem DX.calls (a0:Int) (r:Bool) (w:World) (h:DX.f a0=some r) :
  Calls Tryz.prog 107 #[.int .i32 a0] w fun e w'=>e=.returned (.bool r)∧nU w w':=by
 unfold DX.f at h
 have H:=h
 clear h
 revert H;refine gJ (fun a5 H=>?_) fun a5 H=>?_
 rotate_left
 ·revert H;refine gJ (fun a6 H=>?_) fun a6 H=>?_
  rotate_left
  ·obtain rfl:=dF H
   go_enter func107,ntmps107
   go_wp2
   go_ret
   exact ⟨bg,kN⟩
  revert H;refine gJ (fun a7 H=>?_) fun a7 H=>?_
  ·obtain rfl:=dF H
   go_enter func107,ntmps107
   go_wp2
   go_ret
   exact ⟨bg,kN⟩
  obtain rfl:=dF H
  go_enter func107,ntmps107
  go_wp2
  go_ret
  exact ⟨bg,kN⟩
 revert H;refine gJ (fun a8 H=>?_) fun a8 H=>?_
 ·obtain rfl:=dF H
  go_enter func107,ntmps107
  go_wp2
  go_ret
  exact ⟨bg,kN⟩
 revert H;refine gJ (fun a9 H=>?_) fun a9 H=>?_
 rotate_left
 ·obtain rfl:=dF H
  go_enter func107,ntmps107
  go_wp2
  go_ret
  exact ⟨bg,kN⟩
 revert H;refine gJ (fun aa H=>?_) fun aa H=>?_
 ·obtain rfl:=dF H
  go_enter func107,ntmps107
  go_wp2
  go_ret
  exact ⟨bg,kN⟩
 obtain rfl:=dF H
 go_enter func107,ntmps107
 go_wp2
 go_ret
 exact ⟨bg,kN⟩

def zf.f (a0:Int):Option (Bool):=(DX.f a0).bind fun a5=>(some (!a5))
theorem zf.calls (a0:Int) (r:Bool) (w:World) (h:zf.f a0=some r) :
  Calls Tryz.prog 106 #[.int .i32 a0] w fun e w'=>e=.returned (.bool r)∧nU w w':=by
 unfold zf.f at h
 have H:=h
 clear h
 obtain ⟨a5,A2,H⟩:=bd_ H
 obtain rfl:=dF H
 go_enter func106,ntmps106
 go_wp2_with (first|((with_reducible refine bT 107 ?_);refine bU (some 4) rfl rfl func107 aB rfl #[.int .i32 a0] rfl aX ?_;(with_reducible refine (DX.calls a0 a5 _ A2.out).mono ?_);rintro e w' ⟨rfl,⟨nd,rfl⟩⟩;refine ⟨_,rfl,?_⟩))
 go_ret
 exact ⟨bg,kN⟩

theorem strings_ContainsFunc.tot (r:Int):zf.f r=some ((zf.f r).getD false):=by
 unfold zf.f DX.f
 repeat' (first|rfl|(dsimp only [Option.bind_some];done)|split)
def strings_ContainsFunc.f (a0:ByteArray) (a1:Unit):Option (Bool):=some (decide (0≤Lib.idxFunc (fun r=>(zf.f (r:Int)).getD false) true a0))
theorem strings_ContainsFunc.calls (a0:ByteArray) (a1:Unit) (r:Bool) (w:World) (h:strings_ContainsFunc.f a0 a1=some r) :
  Calls Tryz.prog 105 #[.string a0,.func (.func 106) #[] #[]] w fun e w'=>e=.returned (.bool r)∧Below w.heap.size w w':=by
 obtain rfl:=dF h
 exact Tryz.strings_ContainsFunc 106 #[] (enters_of func106 aB rfl) (fun r=>(zf.f (r:Int)).getD false) a0 w (fun W r _=>by
  unfold FnGives
  refine (zf.calls (r:Int) _ W (strings_ContainsFunc.tot _)).mono ?_
  rintro e w' ⟨rfl,⟨q,rfl⟩⟩
  exact ⟨rfl,q,rfl⟩)

def strings_Split.f (a0:ByteArray) (a1:ByteArray):Option (List ByteArray):=if a0.size < 4294967281∧1≤a1.size then some (Lib.splitB a1 0 (Lib.countB a0 a1) a0) else none
theorem strings_Split.calls (a0:ByteArray) (a1:ByteArray) (r:List ByteArray) (w:World) (jV:iK w) (h:strings_Split.f a0 a1=some r) :
  Calls Tryz.prog 108 #[.string a0,.string a1] w fun e w'=>∃ eP:Value,e=.returned (eP)∧Kd.R Kd.string 9 w' w.heap.size (fun _=>True) eP r∧Below w.heap.size w w':=by
 unfold strings_Split.f at h
 split at h
 case isFalse=>cases h
 case isTrue hc =>
 obtain ⟨hc,h1⟩:=hc
 obtain rfl:=dF h
 obtain ⟨m,hm⟩:=jV
 have hl:=Lib.splitB_all a1 h1 0 _ a0 rfl
 have hle:=Lib.countB_le a1 h1 a0.size a0 (Nat.le_refl _)
 refine (Tryz.strings_Split a0 a1 m w hc hm h1).mono ?_
 rintro e w' ⟨rfl,rfl⟩
 refine ⟨_,rfl,?_,(Below.refl _ _).alloc (Nat.le_refl _) _⟩
 rw [← hl]
 exact abb.abW w 9 _ (by omega)

def JB.f (a0:ByteArray):Option (Bool):=some (decide ((a0.size:Int) > 7))
theorem JB.calls (a0:ByteArray) (r:Bool) (w:World) (h:JB.f a0=some r) :
  Calls Tryz.prog 110 #[.string a0] w fun e w'=>e=.returned (.bool r)∧nU w w':=by
 unfold JB.f at h
 have H:=h
 clear h
 obtain rfl:=dF H
 go_enter func110,ntmps110
 go_wp2
 go_ret
 exact ⟨bg,kN⟩

def vK.l0:Nat→List ByteArray→Int→Int→Option (Int)
 | 0,_,_,_=>none
 | k+1,x0,x7,gX=>if gX < x7 then (if 0≤gX then (if gX < (x0.length:Int) then ((JB.f (rZ ByteArray.empty x0 gX)).bind fun a5=>(if a5=true then (some gX) else (vK.l0 k x0 x7 (wrap64 (gX+1))))) else (none)) else (none)) else (some (-1))
def vK.f (k:Nat) (l0:List ByteArray) (a1:Unit):Option (Int):=vK.l0 k l0 (l0.length:Int) 0
theorem vK.calls (k:Nat) (A0:Option Addr) (c0:Nat) (l0:List ByteArray) (a1:Unit) (r:Int) (w:World) (hr0:Kd.C Kd.string w A0 l0.length l0) (hc0:l0.length≤c0) (h:vK.f k l0 a1=some r) :
  Calls Tryz.prog 139 #[.slice A0 l0.length c0,.func (.func 110) #[] #[]] w fun e w'=>e=.returned (ah r)∧nU w w':=by
 have HR0:=m_ hr0
 have ag:=m_ hc0
 clear hr0 hc0
 unfold vK.f at h
 have H:=h
 clear h
 have H':=m_ H
 clear H
 go_enter func139,ntmps139
 go_wp2
 go_loopg [8] k (fun kq v8 w'=>∃ (dH:Int),v8=ah dH∧aA (vK.l0 kq l0 (l0.length:Int) dH=some r)∧aA (kq≤k)∧nU w w')
 case atStart=>exact ⟨(0),bg,H',⟨Nat.le_refl _⟩,kN⟩
 case round =>
 clear H'
 obtain ⟨dH,rfl,HA,gZ,⟨m1,rfl⟩⟩:=hrel
 cases gk with
 | zero=>exact absurd HA.out (by simp [vK.l0])
 | succ k1 =>
 obtain ⟨H⟩:=HA
 simp only [vK.l0] at H
 revert H;refine gJ (fun a9 H=>?_) fun a9 H=>?_
 rotate_left
 ·obtain rfl:=dF H
  go_wp2
  go_ret
  exact ⟨bg,kN⟩
 obtain ⟨ae,H⟩:=gK H
 obtain ⟨af,H⟩:=gK H
 obtain ⟨a8,A6,H⟩:=bd_ H
 have ab:=m_ H
 clear H
 have a6:0≤(dH:Int):=bF bG
 have a7:dH < (l0.length:Int):=bF bG
 obtain ⟨ac,aa,a5⟩:=Kd.z_ HR0.out dH a6 a7
 cases aa
 replace a6:=eq_true a6
 replace a7:=eq_true a7
 go_upto_if 16 with (first|(go_at_call 110;(with_reducible refine (JB.calls (rZ ByteArray.empty l0 dH) a8 _ A6.out).mono ?_);rintro e w' ⟨rfl,⟨nd,rfl⟩⟩))
 (try simp only [Act.put,List.setIfInBounds_toArray,List.set_cons_zero,List.set_cons_succ])
 (try clear a5)
 obtain ⟨H⟩:=ab
 by_cases c8:a8=true
 ·subst c8
  rw [if_pos rfl] at H
  obtain rfl:=dF H
  go_wp2
  go_ret
  exact ⟨bg,kN⟩
 replace c8:=Bool.eq_false_iff.mpr c8
 subst c8
 rw [if_neg iI] at H
 have H':=m_ H
 clear H
 go_wp2
 go_roundg k1
 case measure=>have:=gZ.out;omega
 case rel=>exact ⟨(wrap64 (dH+1)),bg,H',⟨ou⟩,kN⟩

def Ed.f (k:Nat) (l0:List ByteArray) (a1:Unit):Option (Bool):=(vK.f k l0 a1).bind fun a5=>(some (decide (a5 ≥ 0)))
theorem Ed.calls (k:Nat) (A0:Option Addr) (c0:Nat) (l0:List ByteArray) (a1:Unit) (r:Bool) (w:World) (hr0:Kd.C Kd.string w A0 l0.length l0) (hc0:l0.length≤c0) (h:Ed.f k l0 a1=some r) :
  Calls Tryz.prog 109 #[.slice A0 l0.length c0,.func (.func 110) #[] #[]] w fun e w'=>e=.returned (.bool r)∧nU w w':=by
 have HR0:=m_ hr0
 have a6:=m_ hc0
 clear hr0 hc0
 unfold Ed.f at h
 have H:=h
 clear h
 obtain ⟨a5,A3,H⟩:=bd_ H
 obtain rfl:=dF H
 go_enter func109,ntmps109
 go_wp2_with (first|((with_reducible refine bT 139 ?_);refine bU (some 7) rfl rfl func139 aB rfl #[.slice A0 l0.length c0,.func (.func 110) #[] #[]] rfl aX ?_;(with_reducible refine (vK.calls k _ _ l0 a1 a5 _ Ug a6.out A3.out).mono ?_);rintro e w' ⟨rfl,⟨nd,rfl⟩⟩;refine ⟨_,rfl,?_⟩))
 go_ret
 exact ⟨bg,kN⟩

def lS.j0:Nat→ByteArray→Bool→Option (List ByteArray × Int)
 | 0,_,_=>none
 | k+1,x0,a8=>if a8=true then (some (([]:List ByteArray),1)) else ((strings_ContainsFunc.f x0 ()).bind fun a6=>(if a6=true then (some (([]:List ByteArray),1)) else (if x0.toList=([47]:List UInt8) then (some ((([]:List ByteArray)),0)) else (if 1≤(x0.size:Int) then ((strings_Split.f (x0.extract 1 x0.size) (⟨#[47]⟩:ByteArray)).bind fun a5=>((Ed.f k a5 ()).bind fun a7=>(if a7=true then (some (([]:List ByteArray),2)) else (some (a5,0))))) else (none)))))
def lS.f (k:Nat) (a0:ByteArray):Option (List ByteArray × Int):=if (a0.size:Int) > 60 then (lS.j0 k a0 true) else ((strings_HasPrefix.f a0 (⟨#[47]⟩:ByteArray)).bind fun a5=>(if a5=true then (if a0.toList=([47]:List UInt8) then ((strings_Contains.f a0 (⟨#[47,47]⟩:ByteArray)).bind fun a6=>(lS.j0 k a0 a6)) else ((strings_HasSuffix.f a0 (⟨#[47]⟩:ByteArray)).bind fun a7=>(if a7=true then (lS.j0 k a0 true) else ((strings_Contains.f a0 (⟨#[47,47]⟩:ByteArray)).bind fun a8=>(lS.j0 k a0 a8))))) else (lS.j0 k a0 true)))
theorem lS.calls (k:Nat) (a0:ByteArray) (r1:List ByteArray) (r2:Int) (w:World) (jV:iK w) (h:lS.f k a0=some (r1,r2)) :
  Calls Tryz.prog 57 #[.string a0] w fun e w'=>∃ eP:Value,e=.returned (.tuple #[eP,ah r2])∧Kd.R Kd.string 9 w' w.heap.size (fun _=>True) eP r1∧Below w.heap.size w w':=by
 have HD:=m_ jV
 clear jV
 have HB:=m_ (Below.refl w.heap.size w)
 unfold lS.f at h
 have H:=h
 clear h
 have av:=m_ H
 clear H
 go_enter func57,ntmps57
 go_upto_region 1 with (fail)
 go_cut [24] (fun v24 wc=>∃ (kq:Nat) (a6:Bool),v24=.bool a6∧aA (lS.j0 kq a0 a6=some (r1,r2))∧aA (kq≤k)∧aA (Below w.heap.size w wc))
 case first =>
  obtain ⟨H⟩:=av
  revert H;refine fH (fun c3 H=>?_) fun c3 H=>?_
  ·have a8:=mM c3
   have ae:decide (60 < a0.size)=true:=mM (by omega)
   clear c3
   try simp only [aY,bf,a8]
   have H':=m_ H
   clear H
   go_wp2
   go_meet
   case rel=>exact ⟨_,(true),bg,H',⟨kC⟩,⟨au⟩⟩
  have a8:=vX c3
  have ae:decide (60 < a0.size)=false:=vX (by omega)
  clear c3
  try simp only [aY,bf,a8]
  obtain ⟨aw,A4,H⟩:=bd_ H
  by_cases c5:aw=true
  rotate_left
  ·replace c5:=Bool.eq_false_iff.mpr c5
   subst c5
   rw [if_neg iI] at H
   have H':=m_ H
   clear H
   go_wp2_with (first|(go_at_call 102;(with_reducible refine (strings_HasPrefix.calls a0 (⟨#[47]⟩:ByteArray) false _ A4.out).mono ?_);rintro e ba ⟨rfl,hb⟩;have eF:=m_ (dP au hb);clear HB;have HB:=eF;clear eF;(try clear hb)))
   go_meet
   case rel=>exact ⟨_,(true),bg,H',⟨kC⟩,⟨au⟩⟩
  subst c5
  rw [if_pos rfl] at H
  revert H;refine fH (fun c6 H=>?_) fun c6 H=>?_
  ·have af:=fZ c6
   have ag:=f_ c6
   clear c6
   obtain ⟨aK,A7,H⟩:=bd_ H
   have H':=m_ H
   clear H
   go_wp2_with (first|(go_at_call 102;(with_reducible refine (strings_HasPrefix.calls a0 (⟨#[47]⟩:ByteArray) true _ A4.out).mono ?_);rintro e w8 ⟨rfl,hb⟩;have eF:=m_ (dP au hb);clear HB;have HB:=eF;clear eF;(try clear hb))|(go_at_call 104;(with_reducible refine (strings_Contains.calls a0 (⟨#[47,47]⟩:ByteArray) aK _ (iK.below HD.out au) A7.out).mono ?_);rintro e w9 ⟨rfl,hb⟩;have eF:=m_ (dP au hb);clear HB;have HB:=eF;clear eF;(try clear hb)))
   go_meet
   case rel=>exact ⟨_,(aK),bg,H',⟨kC⟩,⟨au⟩⟩
  have af:=fP c6
  have ag:=fQ c6
  obtain ⟨ax,b3,H⟩:=bd_ H
  by_cases ai:ax=true
  ·subst ai
   rw [if_pos rfl] at H
   have H':=m_ H
   clear H
   go_wp2_with (first|(go_at_call 102;(with_reducible refine (strings_HasPrefix.calls a0 (⟨#[47]⟩:ByteArray) true _ A4.out).mono ?_);rintro e bb ⟨rfl,hb⟩;have eF:=m_ (dP au hb);clear HB;have HB:=eF;clear eF;(try clear hb))|(go_at_call 103;(with_reducible refine (strings_HasSuffix.calls a0 (⟨#[47]⟩:ByteArray) true _ b3.out).mono ?_);rintro e bc ⟨rfl,hb⟩;have eF:=m_ (dP au hb);clear HB;have HB:=eF;clear eF;(try clear hb)))
   go_meet
   case rel=>exact ⟨_,(true),bg,H',⟨kC⟩,⟨au⟩⟩
  replace ai:=Bool.eq_false_iff.mpr ai
  subst ai
  rw [if_neg iI] at H
  obtain ⟨aN,b6,H⟩:=bd_ H
  have H':=m_ H
  clear H
  go_wp2_with (first|(go_at_call 102;(with_reducible refine (strings_HasPrefix.calls a0 (⟨#[47]⟩:ByteArray) true _ A4.out).mono ?_);rintro e bd ⟨rfl,hb⟩;have eF:=m_ (dP au hb);clear HB;have HB:=eF;clear eF;(try clear hb))|(go_at_call 103;(with_reducible refine (strings_HasSuffix.calls a0 (⟨#[47]⟩:ByteArray) false _ b3.out).mono ?_);rintro e be ⟨rfl,hb⟩;have eF:=m_ (dP au hb);clear HB;have HB:=eF;clear eF;(try clear hb))|(go_at_call 104;(with_reducible refine (strings_Contains.calls a0 (⟨#[47,47]⟩:ByteArray) aN _ (iK.below HD.out au) b6.out).mono ?_);rintro e fA ⟨rfl,hb⟩;have eF:=m_ (dP au hb);clear HB;have HB:=eF;clear eF;(try clear hb)))
  go_meet
  case rel=>exact ⟨_,(aN),bg,H',⟨kC⟩,⟨au⟩⟩
 case rest =>
 clear av
 obtain ⟨kq,a6,rfl,HA,sQ,HB⟩:=hcut
 cases kq with
 | zero=>exact absurd HA.out (by simp [lS.j0])
 | succ zN =>
 obtain ⟨H⟩:=HA
 simp only [lS.j0] at H
 by_cases aq:a6=true
 ·subst aq
  rw [if_pos rfl] at H
  simp only [Option.some.injEq,Prod.mk.injEq] at H
  obtain ⟨rfl,rfl⟩:=H
  go_wp2
  go_ret2
  exact ⟨_,bM,kD,au⟩
 replace aq:=Bool.eq_false_iff.mpr aq
 subst aq
 rw [if_neg iI] at H
 obtain ⟨aQ,b7,H⟩:=bd_ H
 have al:=m_ H
 clear H
 go_upto_if 26 with (first|((with_reducible refine bT 105 ?_);refine bU (some 26) rfl rfl func105 aB rfl #[.string a0,.func (.func 106) #[] #[]] rfl aX ?_;(with_reducible refine (strings_ContainsFunc.calls a0 () aQ _ b7.out).mono ?_);rintro e dM ⟨rfl,hb⟩;refine ⟨_,rfl,?_⟩;have eF:=m_ (dP au hb);clear HB;have HB:=eF;clear eF;(try clear hb)))
 (try simp only [Act.put,List.setIfInBounds_toArray,List.set_cons_zero,List.set_cons_succ])
 obtain ⟨H⟩:=al
 by_cases ar:aQ=true
 ·subst ar
  rw [if_pos rfl] at H
  simp only [Option.some.injEq,Prod.mk.injEq] at H
  obtain ⟨rfl,rfl⟩:=H
  go_wp2
  go_ret2
  exact ⟨_,bM,kD,au⟩
 replace ar:=Bool.eq_false_iff.mpr ar
 subst ar
 rw [if_neg iI] at H
 revert H;refine fH (fun ab H=>?_) fun ab H=>?_
 ·have a5:=fZ ab
  have am:=f_ ab
  clear ab
  try simp only [aY,bf,a5]
  obtain ⟨bH,a9⟩:∃ y_:List ByteArray,y_=(([]:List ByteArray)):=⟨_,rfl⟩
  rw [← a9] at H
  have aa:=m_ a9
  clear a9
  simp only [Option.some.injEq,Prod.mk.injEq] at H
  obtain ⟨rfl,rfl⟩:=H
  go_wp2_with (first|((with_reducible refine dJ 29 ?_);refine Kd.sU Kd.string _ 9 ?hg (N:=29) ?hd (xs:=([]:List ByteArray)) (inner:=[]) (ok:=fun _=>True) (iJ:=fun _=>True) ?hr ?hp (fun _ hk=>hk) trivial (Below.refl _ _) (Nat.le_refl _) (by simp) ?_;(case hd=>rfl);(case hg=>rfl);(case hr=>first|(go_simp;done)|(go_simp;rfl));(case hp=>exact (bD.none _ _));intro azf bh Jl hb iV iW;clear iV iW;(first|rw [← aa.out] at Jl|(simp only [Int.reduceToNat] at Jl;rw [← aa.out] at Jl));obtain ⟨an,HB⟩:=p_ (Kd.dI Jl (cZ au)) <| a_ (dP au hb);clear hb Jl))
  go_ret2
  exact ⟨_,bM,(aJ an),au⟩
 have a5:=fP ab
 have am:=fQ ab
 try simp only [aY,bf,a5]
 obtain ⟨b4,b5,H⟩:=jE H
 obtain ⟨ac,b8,H⟩:=bd_ H
 obtain ⟨ao,b9,H⟩:=bd_ H
 have ap:=m_ H
 clear H
 go_upto_if 34 with (first|((with_reducible refine bT 108 ?_);refine bU (some 32) rfl rfl func108 aB rfl #[.string (a0.extract 1 a0.size),.string (⟨#[47]⟩:ByteArray)] rfl aX ?_;(with_reducible refine (strings_Split.calls (a0.extract 1 a0.size) (⟨#[47]⟩:ByteArray) ac _ (iK.below HD.out au) b8.out).mono ?_);rintro e bi ⟨v194,rfl,ho0,hb⟩;refine ⟨_,rfl,?_⟩;obtain ⟨a7,HB⟩:=p_ (Kd.dI ho0 (cZ au)) <| a_ (dP au hb);(try clear hb);(try clear hk);(try clear ho0);obtain ⟨b0,b1,b2⟩:=Kd.dK a7.out;subst b2)|((with_reducible refine bT 109 ?_);refine bU (some 34) rfl rfl func109 aB rfl #[.slice b0 ac.length b1,.func (.func 110) #[] #[]] rfl aX ?_;(with_reducible refine (Ed.calls zN _ _ ac () ao _ ?kX ((Kd.dN a7.out).2.1) b9.out).mono ?_);(case kX=>repeat (first|exact (Kd.dN a7.out).2.2|(with_reducible refine Kd.jO ?_ _)|(with_reducible refine Kd.jT ?_ _)|(with_reducible refine Kd.jS ?_)));rintro e w' ⟨rfl,⟨nd,rfl⟩⟩;refine ⟨_,rfl,?_⟩))
 (try simp only [Act.put,List.setIfInBounds_toArray,List.set_cons_zero,List.set_cons_succ])
 obtain ⟨H⟩:=ap
 by_cases aW:ao=true
 rotate_left
 ·replace aW:=Bool.eq_false_iff.mpr aW
  subst aW
  rw [if_neg iI] at H
  simp only [Option.some.injEq,Prod.mk.injEq] at H
  obtain ⟨rfl,rfl⟩:=H
  go_wp2
  go_ret2
  exact ⟨_,bM,(aJ a7),au⟩
 subst aW
 rw [if_pos rfl] at H
 simp only [Option.some.injEq,Prod.mk.injEq] at H
 obtain ⟨rfl,rfl⟩:=H
 go_wp2
 go_ret2
 exact ⟨_,bM,kD,au⟩

def strings_Join.f (l0:List ByteArray) (a1:ByteArray):Option (ByteArray):=if l0.length≤140737488355328∧(Lib.join (l0.map (·.data.toList)) a1.data.toList).length≤140737488355328 then some ⟨(Lib.join (l0.map (·.data.toList)) a1.data.toList).toArray⟩ else none
theorem strings_Join.calls (A0:Option Addr) (c0:Nat) (l0:List ByteArray) (a1:ByteArray) (r:ByteArray) (w:World) (hr0:Kd.C Kd.string w A0 l0.length l0) (hc0:l0.length≤c0) (h:strings_Join.f l0 a1=some r) :
  Calls Tryz.prog 121 #[.slice A0 l0.length c0,.string a1] w fun e w'=>e=.returned (.string r)∧Below w.heap.size w w':=by
 unfold strings_Join.f at h
 split at h
 case isFalse=>cases h
 case isTrue hc =>
  obtain ⟨h1,h2⟩:=hc
  obtain rfl:=dF h
  rcases Nat.eq_zero_or_pos l0.length with hz|hz
  ·have hn:=List.eq_nil_of_length_eq_zero hz
   subst hn
   refine (Tryz.strings_Join_none A0 c0 a1 w).mono ?_
   rintro e w' ⟨rfl,rfl⟩
   exact ⟨rfl,Below.refl _ _⟩
  ·obtain ⟨ad,rfl,hcell⟩:=hr0.2.2 hz
   have cells:∀ (j:Nat) x,l0[j]?=some x→w.cell? (ad.add j)=some (.string x):=by
    intro j x hx
    obtain ⟨c,_,rfl,hc⟩:=hcell j x hx
    have:=hc 0 _ rfl
    rw [show j * (Kd.string).sz+0=j from Nat.mul_one j] at this
    exact this
   have h0:=cells 0 _ (List.getElem?_eq_getElem hz)
   have hsp:ad.spot=none:=by
    have h0':w.cell? ad=some (.string l0[0]):=h0
    unfold World.cell? at h0'
    split at h0'
    ·split at h0'
     ·cases h0'
     ·simpa using ‹¬ ad.spot.isSome=true›
    ·cases h0'
   obtain ⟨bk,o,sp⟩:=ad
   cases hsp
   refine Tryz.strings_Join bk o c0 l0 a1 w (fun j x hx=>?_) (World.block_lt_of_cell? w _ h0) h1 hc0 h2
   have:=cells j x hx
   rw [Addr.add_lit] at this
   exact this

def y9.f (l0:List ByteArray):Option (ByteArray):=if (l0.length:Int)=0 then (some (⟨#[47]⟩:ByteArray)) else ((strings_Join.f l0 (⟨#[47]⟩:ByteArray)).bind fun a5=>(if 1+a5.size≤9223372036854775807 then (some ((⟨#[47]⟩:ByteArray)++a5)) else (none)))
theorem y9.calls (A0:Option Addr) (c0:Nat) (l0:List ByteArray) (r:ByteArray) (w:World) (hr0:Kd.C Kd.string w A0 l0.length l0) (hc0:l0.length≤c0) (h:y9.f l0=some r) :
  Calls Tryz.prog 70 #[.slice A0 l0.length c0] w fun e w'=>e=.returned (.string r)∧Below w.heap.size w w':=by
 have HR0:=m_ hr0
 have a8:=m_ hc0
 clear hr0 hc0
 have HB:=m_ (Below.refl w.heap.size w)
 unfold y9.f at h
 have H:=h
 clear h
 revert H;refine fH (fun c2 H=>?_) fun c2 H=>?_
 ·have a6:=fZ c2
  have a7:=f_ c2
  clear c2
  obtain rfl:=dF H
  go_enter func70,ntmps70
  go_wp2
  go_ret
  exact ⟨bM,au⟩
 have a6:=fP c2
 have a7:=fQ c2
 have a9:¬ (l0=[]):=fun dG=>c2 (by rw [dG];rfl)
 obtain ⟨a5,A3,H⟩:=bd_ H
 obtain ⟨c4,H⟩:=kV H
 have aa:=eq_true c4
 have ab:=mM c4
 try have ac:(9223372036854775807 < 1+a5.size)=False:=eq_false (Nat.not_lt.2 c4)
 obtain rfl:=dF H
 go_enter func70,ntmps70
 go_wp2_with (first|((with_reducible refine bT 121 ?_);refine bU (some 7) rfl rfl func121 aB rfl #[.slice A0 l0.length c0,.string (⟨#[47]⟩:ByteArray)] rfl aX ?_;(with_reducible refine (strings_Join.calls _ _ l0 (⟨#[47]⟩:ByteArray) a5 _ Ug a8.out A3.out).mono ?_);rintro e w5 ⟨rfl,hb⟩;refine ⟨_,rfl,?_⟩;have eF:=m_ (dP au hb);clear HB;have HB:=eF;clear eF;(try clear hb)))
 go_ret
 exact ⟨bM,au⟩

end Go.Proofs.YthejdhjpbpamoaaGreatDoor.jD
