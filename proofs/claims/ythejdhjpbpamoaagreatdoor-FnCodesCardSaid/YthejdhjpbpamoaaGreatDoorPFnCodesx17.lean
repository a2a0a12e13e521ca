/- Contracts of Go functions: each call returns what the Lean function beside it computes. Conditions: as each theorem states them. -/
import Derived.Test.YthejdhjpbpamoaaGreatDoorPkFnCodes
import Derived.Test.YthejdhjpbpamoaaGreatDoorPFnCodesx1
import Derived.Test.YthejdhjpbpamoaaGreatDoorPFnCodesx16
namespace Go.Proofs.YthejdhjpbpamoaaGreatDoor.jD
open Go.RowKit Go.Proofs.YthejdhjpbpamoaaGreatDoorW.iw Go.Proofs.YthejdhjpbpamoaaGreatDoorW.lH Go.Proofs.YthejdhjpbpamoaaGreatDoorW.oO Go.Proofs.Tryz
attribute [local go_sem] qw qB qA qF qy qE qx qC   -- for this text's walks alone
set_option linter.unusedVariables false
set_option maxHeartbeats 8000000
set_option maxRecDepth 100000
set_option linter.unusedSimpArgs false

def pF.f (bI:List Int) (eG:Int) (eH:Int) (a1:Int):Option (Int × Int × Int):=if a1≤0 then (some (0,eG,eH)) else (if a1≤256 then ((vk.f bI eG eH).bind fun a5=>(if a1=0 then (none) else (some (Int.tmod a5.1 a1,a5.2.1,a5.2.2)))) else ((vk.f bI eG eH).bind fun a6=>((vk.f bI a6.2.1 a6.2.2).bind fun a7=>((vk.f bI a7.2.1 a7.2.2).bind fun a8=>((vk.f bI a8.2.1 a8.2.2).bind fun a9=>(if a1=0 then (none) else (some (Int.tmod (wrap64 ((wrap64 ((wrap64 ((wrap64 (a6.1 * 16777216))+(wrap64 (a7.1 * 65536))))+(wrap64 (a8.1 * 256))))+a9.1)) a1,a9.2.1,a9.2.2))))))))
theorem pF.calls (g:Nat) (bI:List Int) (eG:Int) (eH:Int) (a1:Int) (r1:Int) (r2:Int) (r3:Int) (w0 w:World) (hI:aS w0 w g bI eG eH) (hB:Below w0.heap.size w0 w) (h:pF.f bI eG eH a1=some (r1,r2,r3)) :
  Calls Tryz.prog 87 #[.pointer (some ⟨g,0,none⟩),ah a1] w fun e w'=>e=.returned (ah r1)∧aS w0 w' g bI r2 r3∧Below w0.heap.size w0 w'∧aV w w' g none:=by
 have HI0:=m_ hI
 have HK:=m_ (aV.refl w g none)
 have HL:=m_ hB.size
 clear hI
 have HW0:=m_ hB.size
 have HB:=m_ hB
 clear hB
 unfold pF.f at h
 have H:=h
 clear h
 revert H;refine gJ (fun ab H=>?_) fun ab H=>?_
 ·simp only [Option.some.injEq,Prod.mk.injEq] at H
  obtain ⟨rfl,rfl,rfl⟩:=H
  go_enter func87,ntmps87
  go_wp2
  go_ret
  exact ⟨bM,b_,dZ,jv⟩
 revert H;refine gJ (fun ac H=>?_) fun ac H=>?_
 ·obtain ⟨⟨ae,af,ag⟩,A5,H⟩:=bd_ H
  obtain ⟨c6,H⟩:=Xp H
  have aq:=fP c6
  have ar:=fQ c6
  simp only [Option.some.injEq,Prod.mk.injEq] at H
  obtain ⟨rfl,rfl,rfl⟩:=H
  go_enter func87,ntmps87
  go_wp2_with (first|((with_reducible refine bT 130 ?_);refine bU (some 14) rfl rfl func130 aB rfl #[.pointer (some ⟨g,0,none⟩)] rfl aX ?_;(with_reducible refine (vk.calls g bI eG eH ae af ag w0 _ b_ dZ A5.out).mono ?_);rintro e w7 ⟨rfl,hi,hb,hk⟩;refine ⟨_,rfl,?_⟩;obtain ⟨HK,HB,HI0⟩:=p_ (aV.trans jv hk (.inl rfl)) <| p_ (hb) <| a_ (hi);(try clear hb);(try clear hk);(try clear hi)))
  go_ret
  exact ⟨bM,b_,dZ,jv⟩
 obtain ⟨⟨aK,a5,a6⟩,Ci,H⟩:=bd_ H
 obtain ⟨⟨ai,a7,a8⟩,A9,H⟩:=bd_ H
 obtain ⟨⟨aN,a9,aa⟩,aW,H⟩:=bd_ H
 obtain ⟨⟨aQ,al,am⟩,av,H⟩:=bd_ H
 obtain ⟨an,H⟩:=Xp H
 have ao:=fP an
 have ap:=fQ an
 simp only [Option.some.injEq,Prod.mk.injEq] at H
 obtain ⟨rfl,rfl,rfl⟩:=H
 go_enter func87,ntmps87
 go_wp2_with (first|((with_reducible refine bT 130 ?_);refine bU (some 18) rfl rfl func130 aB rfl #[.pointer (some ⟨g,0,none⟩)] rfl aX ?_;(with_reducible refine (vk.calls g bI eG eH aK a5 a6 w0 _ b_ dZ Ci.out).mono ?_);rintro e aw ⟨rfl,hi,hb,hk⟩;refine ⟨_,rfl,?_⟩;obtain ⟨HK,HB,HI0⟩:=p_ (aV.trans jv hk (.inl rfl)) <| p_ (hb) <| a_ (hi);(try clear hb);(try clear hk);(try clear hi))|((with_reducible refine bT 130 ?_);refine bU (some 20) rfl rfl func130 aB rfl #[.pointer (some ⟨g,0,none⟩)] rfl aX ?_;(with_reducible refine (vk.calls g bI a5 a6 ai a7 a8 w0 _ b_ dZ A9.out).mono ?_);rintro e ax ⟨rfl,hi,hb,hk⟩;refine ⟨_,rfl,?_⟩;obtain ⟨HK,HB,HI0⟩:=p_ (aV.trans jv hk (.inl rfl)) <| p_ (hb) <| a_ (hi);(try clear hb);(try clear hk);(try clear hi))|((with_reducible refine bT 130 ?_);refine bU (some 22) rfl rfl func130 aB rfl #[.pointer (some ⟨g,0,none⟩)] rfl aX ?_;(with_reducible refine (vk.calls g bI a7 a8 aN a9 aa w0 _ b_ dZ aW.out).mono ?_);rintro e bH ⟨rfl,hi,hb,hk⟩;refine ⟨_,rfl,?_⟩;obtain ⟨HK,HB,HI0⟩:=p_ (aV.trans jv hk (.inl rfl)) <| p_ (hb) <| a_ (hi);(try clear hb);(try clear hk);(try clear hi))|((with_reducible refine bT 130 ?_);refine bU (some 24) rfl rfl func130 aB rfl #[.pointer (some ⟨g,0,none⟩)] rfl aX ?_;(with_reducible refine (vk.calls g bI a9 aa aQ al am w0 _ b_ dZ av.out).mono ?_);rintro e az ⟨rfl,hi,hb,hk⟩;refine ⟨_,rfl,?_⟩;obtain ⟨HK,HB,HI0⟩:=p_ (aV.trans jv hk (.inl rfl)) <| p_ (hb) <| a_ (hi);(try clear hb);(try clear hk);(try clear hi)))
 go_ret
 exact ⟨bM,b_,dZ,jv⟩

def Eh.f (bI:List Int) (eG:Int) (eH:Int):Option (Int × Int × Int × Int × Int × Int):=(pF.f bI eG eH 3).bind fun a6=>((pF.f bI a6.2.1 a6.2.2 7).bind fun a5=>((pF.f bI a5.2.1 a5.2.2 4).bind fun a7=>((pF.f bI a7.2.1 a7.2.2 (wrap64 ((wrap64 (6+a5.1)) - 4))).bind fun a8=>(some (wrap64 (1+a6.1),wrap64 (6+a5.1),wrap64 (3+a7.1),wrap64 (1+a8.1),a8.2.1,a8.2.2)))))
theorem Eh.calls (g:Nat) (bI:List Int) (eG:Int) (eH:Int) (r1:Int) (r2:Int) (r3:Int) (r4:Int) (r5:Int) (r6:Int) (w0 w:World) (hI:aS w0 w g bI eG eH) (hB:Below w0.heap.size w0 w) (h:Eh.f bI eG eH=some (r1,r2,r3,r4,r5,r6)) :
  Calls Tryz.prog 40 #[.pointer (some ⟨g,0,none⟩)] w fun e w'=>e=.returned (.agg #[ah r1,ah r2,ah r3,ah r4])∧aS w0 w' g bI r5 r6∧Below w0.heap.size w0 w'∧aV w w' g none:=by
 have Bq:=underlying25
 have HI0:=m_ hI
 have HK:=m_ (aV.refl w g none)
 have HL:=m_ hB.size
 clear hI
 have HW0:=m_ hB.size
 have HB:=m_ hB
 clear hB
 unfold Eh.f at h
 have H:=h
 clear h
 obtain ⟨⟨aN,al,am⟩,A2,H⟩:=bd_ H
 obtain ⟨⟨af,an,ao⟩,A3,H⟩:=bd_ H
 obtain ⟨⟨aQ,ag,aK⟩,A4,H⟩:=bd_ H
 obtain ⟨⟨ap,aq,ar⟩,A5,H⟩:=bd_ H
 simp only [Option.some.injEq,Prod.mk.injEq] at H
 obtain ⟨rfl,rfl,rfl,rfl,rfl,rfl⟩:=H
 go_enter func40,ntmps40
 go_wp2_with (first|((with_reducible refine dJ 2 ?_);refine dO 2 (cs:=#[ah 0,ah 0,ah 0,ah 0]) 25 ?_;intro a6 hg w6 hbox hb;have gy:=p_ (aS.below b_ hb) <| p_ (aV.trans jv (aV.of_below hb g none) (.inl rfl)) <| p_ (dP dZ hb) <| p_ (hbox) <| p_ ((by rw [hg];exact (jr (w:=w) (g:=g) (row:=none) jv):w.heap.size≤a6)) <| p_ ((Nat.le_trans HW0.out (by rw [hg];exact (jr (w:=w) (g:=g) (row:=none) jv):w.heap.size≤a6):w0.heap.size≤a6)) <| p_ ((by rw [hg];exact Nat.ne_of_lt (aS.lt (show aS w0 _ g bI eG eH from b_)):g≠a6)) <| a_ ((by rw [hg];exact Nat.ne_of_gt (aS.lt (show aS w0 _ g bI eG eH from b_)):a6≠g));clear HI0 HK HB;obtain ⟨HI0,HK,HB,a5,U0,Oz,OZ,a7⟩:=gy;clear hb hbox hg)|((with_reducible refine bT 87 ?_);refine bU (some 5) rfl rfl func87 aB rfl #[.pointer (some ⟨g,0,none⟩),ah 3] rfl aX ?_;(with_reducible refine (pF.calls g bI eG eH 3 aN al am w0 _ b_ dZ A2.out).mono ?_);rintro e w7 ⟨rfl,hi,hb,hk⟩;refine ⟨_,rfl,?_⟩;obtain ⟨a5,HK,HB,HI0⟩:=p_ (aV.blk hk (g':=a6) (o:=.cells #[ah 0,ah 0,ah 0,ah 0] 25) (ak a5) a7.out (by simp)) <| p_ (aV.trans Ih hk (.inl rfl)) <| p_ (hb) <| a_ (hi);(try clear hb);(try clear hk);(try clear hi))|((with_reducible refine bT 87 ?_);refine bU (some 8) rfl rfl func87 aB rfl #[.pointer (some ⟨g,0,none⟩),ah 7] rfl aX ?_;(with_reducible refine (pF.calls g bI al am 7 af an ao w0 _ b_ dZ A3.out).mono ?_);rintro e w8 ⟨rfl,hi,hb,hk⟩;refine ⟨_,rfl,?_⟩;obtain ⟨a5,HK,HB,HI0⟩:=p_ (aV.blk hk (g':=a6) (o:=.cells #[ah 0,ah 0,ah 0,ah 0] 25) (ak a5) a7.out (by simp)) <| p_ (aV.trans Ih hk (.inl rfl)) <| p_ (hb) <| a_ (hi);(try clear hb);(try clear hk);(try clear hi))|((with_reducible refine bT 87 ?_);refine bU (some 11) rfl rfl func87 aB rfl #[.pointer (some ⟨g,0,none⟩),ah 4] rfl aX ?_;(with_reducible refine (pF.calls g bI an ao 4 aQ ag aK w0 _ b_ dZ A4.out).mono ?_);rintro e w9 ⟨rfl,hi,hb,hk⟩;refine ⟨_,rfl,?_⟩;obtain ⟨a5,HK,HB,HI0⟩:=p_ (aV.blk hk (g':=a6) (o:=.cells #[ah 0,ah 0,ah 0,ah 0] 25) (ak a5) a7.out (by simp)) <| p_ (aV.trans Ih hk (.inl rfl)) <| p_ (hb) <| a_ (hi);(try clear hb);(try clear hk);(try clear hi))|((with_reducible refine dJ 3 ?_);refine dO 3 (cs:=#[ah 0,ah 0,ah 0,ah 0]) 25 ?_;intro a8 hg b3 hbox hb;have gy:=p_ (aS.below b_ hb) <| p_ (bZ (ak a5) hb) <| p_ (aV.trans Ih (aV.of_below hb g none) (.inl rfl)) <| p_ (dP (by repeat (first|(with_reducible first|exact HB.out|apply mY|apply qN|apply lC|refine iF ?_ (aS.ge HI0.out)|refine iF ?_ Oz.out)|exact HB.out)) hb) <| p_ (hbox) <| p_ ((by rw [hg];exact (jr (w:=w) (g:=g) (row:=none) Ih):w.heap.size≤a8)) <| p_ ((Nat.le_trans HW0.out (by rw [hg];exact (jr (w:=w) (g:=g) (row:=none) Ih):w.heap.size≤a8):w0.heap.size≤a8)) <| p_ (lV hg (gu (ak a5))) <| p_ (lQ hg (gu (ak a5))) <| p_ ((by rw [hg];exact Nat.ne_of_lt (aS.lt (show aS w0 _ g bI ag aK from b_)):g≠a8)) <| a_ ((by rw [hg];exact Nat.ne_of_gt (aS.lt (show aS w0 _ g bI ag aK from b_)):a8≠g));clear HI0 a5 HK HB;obtain ⟨HI0,a5,HK,HB,ab,abu,ai,a9,ae,aa,ac⟩:=gy;clear hb hbox hg;obtain ⟨aw,ax,aW,av⟩:=g_ ae a9 ac aa;have b0:=yh ab.out)|((with_reducible refine bT 87 ?_);refine bU (some 18) rfl rfl func87 aB rfl #[.pointer (some ⟨g,0,none⟩),ah (wrap64 ((wrap64 (6+af)) - 4))] rfl aX ?_;(with_reducible refine (pF.calls g bI ag aK (wrap64 ((wrap64 (6+af)) - 4)) ap aq ar w0 _ ?kX ?wH A5.out).mono ?_);(case kX=>repeat (first|(with_reducible first|exact HI0.out|apply aS.alloc|apply aS.drewN|apply aS.drew|apply aS.NJ|apply aS.NK|refine aS.far ?_ OZ.out _|refine aS.far ?_ aa.out _)|exact HI0.out));(case wH=>repeat (first|(with_reducible first|exact HB.out|apply mY|apply qN|apply lC|refine iF ?_ (aS.ge HI0.out)|refine iF ?_ Oz.out|refine iF ?_ ai.out)|exact HB.out));rintro e b4 ⟨rfl,hi,hb,hk⟩;refine ⟨_,rfl,?_⟩;obtain ⟨a5,ab,HK,HB,HI0⟩:=p_ (aV.blk hk (g':=a6) (o:=.cells #[ah 0,ah 0,ah 0,ah 0] 25) (nO a5.out a9.out) a7.out (by simp)) <| p_ (aV.blk hk (g':=a8) (o:=.cells #[ah (wrap64 (1+aN)),ah (wrap64 (6+af)),ah (wrap64 (3+aQ)),ah 0] 25) (yB ab.out) ac.out (by simp)) <| p_ (aV.trans aan hk (.inl rfl)) <| p_ (hb) <| a_ (hi);(try clear hb);(try clear hk);(try clear hi);have b1:=yh ab.out;obtain ⟨bH,az⟩:=gB a7 OZ;have b2:=yh a5.out))
 refine bodyPost_ret (results_cell_row rfl _ _ a6 25 #[ah (wrap64 (1+aN)),ah (wrap64 (6+af)),ah (wrap64 (3+aQ)),ah (wrap64 (1+ap))] (0,0) _ rfl aT underlying25 rfl aB) rfl ?_
 exact ⟨bM,(by repeat (first|(with_reducible first|exact HI0.out|apply aS.alloc|apply aS.drewN|apply aS.drew|apply aS.NJ|apply aS.NK|refine aS.far ?_ OZ.out _|refine aS.far ?_ aa.out _)|exact HI0.out)),(by repeat (first|(with_reducible first|exact HB.out|apply mY|apply qN|apply lC|refine iF ?_ (aS.ge HI0.out)|refine iF ?_ Oz.out|refine iF ?_ ai.out)|exact HB.out)),aan⟩

def yH.f (bI:List Int) (eG:Int) (eH:Int) (a1:Int):Option (Bool × Int × Int):=(pF.f bI eG eH a1).bind fun a5=>(some ((a5.1 == 0),a5.2.1,a5.2.2))
theorem yH.calls (g:Nat) (bI:List Int) (eG:Int) (eH:Int) (a1:Int) (r1:Bool) (r2:Int) (r3:Int) (w0 w:World) (hI:aS w0 w g bI eG eH) (hB:Below w0.heap.size w0 w) (h:yH.f bI eG eH a1=some (r1,r2,r3)) :
  Calls Tryz.prog 42 #[.pointer (some ⟨g,0,none⟩),ah a1] w fun e w'=>e=.returned (.bool r1)∧aS w0 w' g bI r2 r3∧Below w0.heap.size w0 w'∧aV w w' g none:=by
 have HI0:=m_ hI
 have HK:=m_ (aV.refl w g none)
 have HL:=m_ hB.size
 clear hI
 have HW0:=m_ hB.size
 have HB:=m_ hB
 clear hB
 unfold yH.f at h
 have H:=h
 clear h
 obtain ⟨⟨a5,a6,a7⟩,A3,H⟩:=bd_ H
 simp only [Option.some.injEq,Prod.mk.injEq] at H
 obtain ⟨rfl,rfl,rfl⟩:=H
 go_enter func42,ntmps42
 go_wp2_with (first|((with_reducible refine bT 87 ?_);refine bU (some 7) rfl rfl func87 aB rfl #[.pointer (some ⟨g,0,none⟩),ah a1] rfl aX ?_;(with_reducible refine (pF.calls g bI eG eH a1 a5 a6 a7 w0 _ b_ dZ A3.out).mono ?_);rintro e w4 ⟨rfl,hi,hb,hk⟩;refine ⟨_,rfl,?_⟩;obtain ⟨HK,HB,HI0⟩:=p_ (aV.trans jv hk (.inl rfl)) <| p_ (hb) <| a_ (hi);(try clear hb);(try clear hk);(try clear hi)))
 go_ret
 exact ⟨bM,b_,dZ,jv⟩

def zS.f (bI:List Int) (eG:Int) (eH:Int) (l1:List ByteArray):Option (ByteArray × Int × Int):=(pF.f bI eG eH (l1.length:Int)).bind fun a5=>(if 0≤a5.1 then (if a5.1 < (l1.length:Int) then (some (rZ ByteArray.empty l1 a5.1,a5.2.1,a5.2.2)) else (none)) else (none))
theorem zS.calls (g:Nat) (bI:List Int) (eG:Int) (eH:Int) (A1:Option Addr) (c1:Nat) (l1:List ByteArray) (r1:ByteArray) (r2:Int) (r3:Int) (w0 w:World) (hI:aS w0 w g bI eG eH) (hB:Below w0.heap.size w0 w) (hr1:Kd.C Kd.string w A1 l1.length l1) (hc1:l1.length≤c1) (hf1:∀ ad,A1=some ad→0 < l1.length→ad.block≠g) (h:zS.f bI eG eH l1=some (r1,r2,r3)) :
  Calls Tryz.prog 93 #[.pointer (some ⟨g,0,none⟩),.slice A1 l1.length c1] w fun e w'=>e=.returned (.string r1)∧aS w0 w' g bI r2 r3∧Below w0.heap.size w0 w'∧aV w w' g none:=by
 have ae:=m_ hr1
 have aK:=m_ hc1
 clear hr1 hc1
 have HI0:=m_ hI
 have HK:=m_ (aV.refl w g none)
 have HL:=m_ hB.size
 clear hI
 have HW0:=m_ hB.size
 have HB:=m_ hB
 clear hB
 unfold zS.f at h
 have H:=h
 clear h
 obtain ⟨⟨a6,aa,ab⟩,A3,H⟩:=bd_ H
 obtain ⟨af,H⟩:=gK H
 obtain ⟨ag,H⟩:=gK H
 simp only [Option.some.injEq,Prod.mk.injEq] at H
 obtain ⟨rfl,rfl,rfl⟩:=H
 go_enter func93,ntmps93
 go_wp2_with (first|((with_reducible refine bT 87 ?_);refine bU (some 9) rfl rfl func87 aB rfl #[.pointer (some ⟨g,0,none⟩),ah (l1.length:Int)] rfl aX ?_;(with_reducible refine (pF.calls g bI eG eH (l1.length:Int) a6 aa ab w0 _ b_ dZ A3.out).mono ?_);rintro e w6 ⟨rfl,hi,hb,hk⟩;refine ⟨_,rfl,?_⟩;obtain ⟨HK,HB,HI0⟩:=p_ (aV.trans jv hk (.inl rfl)) <| p_ (hb) <| a_ (hi);(try clear hb);(try clear hk);(try clear hi);have a7:0≤(a6:Int):=bF bG;have a8:a6 < (l1.length:Int):=bF bG;obtain ⟨a9,ac,a5⟩:=Kd.z_ ae.out a6 a7 a8;cases ac;replace a5:=Nj HK.out a5 (by first|(rw [add_block];exact hf1 _ rfl (by omega))|exact hf1 _ rfl (by omega)|exact hf1 a9 rfl (by omega));replace a7:=eq_true a7;replace a8:=eq_true a8))
 go_ret
 exact ⟨bM,b_,dZ,jv⟩

def w_.f (bI:List Int) (eG:Int) (eH:Int):Option (ByteArray × Int × Int):=(zS.f bI eG eH (([(⟨#[47]⟩:ByteArray),(⟨#[47,97]⟩:ByteArray),(⟨#[47,98]⟩:ByteArray),(⟨#[47,99]⟩:ByteArray),(⟨#[47,97,47,98]⟩:ByteArray),(⟨#[47,97,47,99]⟩:ByteArray),(⟨#[47,97,47,98,47,99]⟩:ByteArray),(⟨#[47,98,47,97]⟩:ByteArray),(⟨#[47,99,47,97]⟩:ByteArray),(⟨#[47,100]⟩:ByteArray),(⟨#[47,97,98]⟩:ByteArray),(⟨#[47,120,49]⟩:ByteArray),(⟨#[47,97,47,97,98,99,100,101,102,103]⟩:ByteArray)]:List ByteArray))).bind fun a5=>(some (a5.1,a5.2.1,a5.2.2))
theorem w_.calls (g:Nat) (bI:List Int) (eG:Int) (eH:Int) (r1:ByteArray) (r2:Int) (r3:Int) (w0 w:World) (hI:aS w0 w g bI eG eH) (hB:Below w0.heap.size w0 w) (h:w_.f bI eG eH=some (r1,r2,r3)) :
  Calls Tryz.prog 44 #[.pointer (some ⟨g,0,none⟩)] w fun e w'=>e=.returned (.string r1)∧aS w0 w' g bI r2 r3∧Below w0.heap.size w0 w'∧aV w w' g none:=by
 have HI0:=m_ hI
 have HK:=m_ (aV.refl w g none)
 have HL:=m_ hB.size
 clear hI
 have HW0:=m_ hB.size
 have HB:=m_ hB
 clear hB
 unfold w_.f at h
 have H:=h
 clear h
 obtain ⟨a9,a6⟩:∃ y_:List ByteArray,y_=(([(⟨#[47]⟩:ByteArray),(⟨#[47,97]⟩:ByteArray),(⟨#[47,98]⟩:ByteArray),(⟨#[47,99]⟩:ByteArray),(⟨#[47,97,47,98]⟩:ByteArray),(⟨#[47,97,47,99]⟩:ByteArray),(⟨#[47,97,47,98,47,99]⟩:ByteArray),(⟨#[47,98,47,97]⟩:ByteArray),(⟨#[47,99,47,97]⟩:ByteArray),(⟨#[47,100]⟩:ByteArray),(⟨#[47,97,98]⟩:ByteArray),(⟨#[47,120,49]⟩:ByteArray),(⟨#[47,97,47,97,98,99,100,101,102,103]⟩:ByteArray)]:List ByteArray)):=⟨_,rfl⟩
 rw [← a6] at H
 have a8:=m_ a6
 clear a6
 obtain ⟨⟨aa,ab,ac⟩,A2,H⟩:=bd_ H
 simp only [Option.some.injEq,Prod.mk.injEq] at H
 obtain ⟨rfl,rfl,rfl⟩:=H
 go_enter func44,ntmps44
 go_wp2_with (first|((with_reducible refine dJ 4 ?_);refine Kd.sU Kd.string _ 9 ?hg (N:=4) ?hd (xs:=([(⟨#[47]⟩:ByteArray),(⟨#[47,97]⟩:ByteArray),(⟨#[47,98]⟩:ByteArray),(⟨#[47,99]⟩:ByteArray),(⟨#[47,97,47,98]⟩:ByteArray),(⟨#[47,97,47,99]⟩:ByteArray),(⟨#[47,97,47,98,47,99]⟩:ByteArray),(⟨#[47,98,47,97]⟩:ByteArray),(⟨#[47,99,47,97]⟩:ByteArray),(⟨#[47,100]⟩:ByteArray),(⟨#[47,97,98]⟩:ByteArray),(⟨#[47,120,49]⟩:ByteArray),(⟨#[47,97,47,97,98,99,100,101,102,103]⟩:ByteArray)]:List ByteArray)) (inner:=[.string (⟨#[47]⟩:ByteArray),.string (⟨#[47,97]⟩:ByteArray),.string (⟨#[47,98]⟩:ByteArray),.string (⟨#[47,99]⟩:ByteArray),.string (⟨#[47,97,47,98]⟩:ByteArray),.string (⟨#[47,97,47,99]⟩:ByteArray),.string (⟨#[47,97,47,98,47,99]⟩:ByteArray),.string (⟨#[47,98,47,97]⟩:ByteArray),.string (⟨#[47,99,47,97]⟩:ByteArray),.string (⟨#[47,100]⟩:ByteArray),.string (⟨#[47,97,98]⟩:ByteArray),.string (⟨#[47,120,49]⟩:ByteArray),.string (⟨#[47,97,47,97,98,99,100,101,102,103]⟩:ByteArray)]) (ok:=fun _=>True) (iJ:=fun _=>True) ?hr ?hp (fun _ hk=>hk) trivial (Below.refl _ _) (Nat.le_refl _) (by simp) ?_;(case hd=>rfl);(case hg=>rfl);(case hr=>first|(go_simp;done)|(go_simp;rfl));(case hp=>exact (bD.one (show Kd.M Kd.string _ _ _ (⟨#[47]⟩:ByteArray) [.string (⟨#[47]⟩:ByteArray)] from rfl) (bD.one (show Kd.M Kd.string _ _ _ (⟨#[47,97]⟩:ByteArray) [.string (⟨#[47,97]⟩:ByteArray)] from rfl) (bD.one (show Kd.M Kd.string _ _ _ (⟨#[47,98]⟩:ByteArray) [.string (⟨#[47,98]⟩:ByteArray)] from rfl) (bD.one (show Kd.M Kd.string _ _ _ (⟨#[47,99]⟩:ByteArray) [.string (⟨#[47,99]⟩:ByteArray)] from rfl) (bD.one (show Kd.M Kd.string _ _ _ (⟨#[47,97,47,98]⟩:ByteArray) [.string (⟨#[47,97,47,98]⟩:ByteArray)] from rfl) (bD.one (show Kd.M Kd.string _ _ _ (⟨#[47,97,47,99]⟩:ByteArray) [.string (⟨#[47,97,47,99]⟩:ByteArray)] from rfl) (bD.one (show Kd.M Kd.string _ _ _ (⟨#[47,97,47,98,47,99]⟩:ByteArray) [.string (⟨#[47,97,47,98,47,99]⟩:ByteArray)] from rfl) (bD.one (show Kd.M Kd.string _ _ _ (⟨#[47,98,47,97]⟩:ByteArray) [.string (⟨#[47,98,47,97]⟩:ByteArray)] from rfl) (bD.one (show Kd.M Kd.string _ _ _ (⟨#[47,99,47,97]⟩:ByteArray) [.string (⟨#[47,99,47,97]⟩:ByteArray)] from rfl) (bD.one (show Kd.M Kd.string _ _ _ (⟨#[47,100]⟩:ByteArray) [.string (⟨#[47,100]⟩:ByteArray)] from rfl) (bD.one (show Kd.M Kd.string _ _ _ (⟨#[47,97,98]⟩:ByteArray) [.string (⟨#[47,97,98]⟩:ByteArray)] from rfl) (bD.one (show Kd.M Kd.string _ _ _ (⟨#[47,120,49]⟩:ByteArray) [.string (⟨#[47,120,49]⟩:ByteArray)] from rfl) (bD.one (show Kd.M Kd.string _ _ _ (⟨#[47,97,47,97,98,99,100,101,102,103]⟩:ByteArray) [.string (⟨#[47,97,47,97,98,99,100,101,102,103]⟩:ByteArray)] from rfl) (bD.none _ _)))))))))))))));intro azR w3 y5 hb iV iW;clear iV iW;(first|rw [← a8.out] at y5|(simp only [Int.reduceToNat] at y5;rw [← a8.out] at y5));obtain ⟨a5,HI0,HK,HB⟩:=p_ (Kd.dI y5 (jr (w:=w) (g:=g) (row:=none) jv)) <| p_ (aS.below b_ hb) <| p_ (aV.trans jv (aV.of_below hb g none) (.inl rfl)) <| a_ (dP dZ hb);clear hb y5;obtain ⟨ae,af,ag⟩:=Kd.dK a5.out;subst ag)|((with_reducible refine bT 93 ?_);refine bU (some 5) rfl rfl func93 aB rfl #[.pointer (some ⟨g,0,none⟩),.slice ae a9.length af] rfl aX ?_;(with_reducible refine (zS.calls g bI eG eH _ _ a9 aa ab ac w0 _ b_ dZ ?oI ((Kd.dN a5.out).2.1) (Ak (aS.own_ne HI0.out a5.out (by decide))) A2.out).mono ?_);(case oI=>repeat (first|exact (Kd.dN a5.out).2.2|(with_reducible refine Kd.jO ?_ _)|(with_reducible refine Kd.jT ?_ _)|(with_reducible refine Kd.jS ?_)));rintro e w6 ⟨rfl,hi,hb,hk⟩;refine ⟨_,rfl,?_⟩;obtain ⟨a5,HK,HB,HI0⟩:=p_ (Kd.bn (Kd.nN (aS.apart (show aS w0 _ g bI eG eH from b_) (aJ a5) (by decide)) hk (fun _ h=>h.2)) (fun _ h=>h.1)) <| p_ (aV.trans jv hk (.inl rfl)) <| p_ (hb) <| a_ (hi);(try clear hb);(try clear hk);(try clear hi)))
 go_ret
 exact ⟨bM,b_,dZ,jv⟩

def qP.l0:Nat→ByteArray→Int→List (aF)→List (aF)→Option ((List (aF)))
 | 0,_,_,_,_=>none
 | k+1,x1,x6,a5,a6=>if x6 < (a5.length:Int) then (if 0≤x6 then (if ((aC a5 x6).f0).toList=x1.toList then (qP.l0 k x1 (wrap64 (x6+1)) a5 a6) else (if a6.length < 3518437208883 then (qP.l0 k x1 (wrap64 (x6+1)) a5 (a6++[(⟨(aC a5 x6).f0,(aC a5 x6).f1,(aC a5 x6).f2⟩:aF)])) else (none))) else (none)) else (some a6)
def qP.f (k:Nat) (a5:List (aF)) (a1:ByteArray):Option ((List (aF))):=qP.l0 k a1 0 a5 ([]:List (aF))
def qP.T6:Bool × List (List Nat × List Nat):=(true,[([],[]),([0],[0]),([],[]),([2],[2]),([],[]),([3,4],[3,4]),([5],[5]),([6],[6]),([1,7],[1,7]),([0,1,2,3,4,5,6,7,8],[]),([9,8,8,0,1,2,3,4,5,6,7,8],[8,9])])
def qP.B6:List Nat:=[0,1,0,4,0,28,60,124,255,511,1023]
theorem qP.calls (k:Nat) (b7:Option Addr) (b1:Nat) (aI:List (aF)) (a1:ByteArray) (r:List (aF)) (w:World) (b8:Kd.C aU w b7 aI.length aI) (b9:aI.length≤b1) (h:qP.f k aI a1=some r) :
  Calls Tryz.prog 77 #[.agg #[.slice b7 aI.length b1],.string a1] w fun e w'=>∃ eP:Value,e=.returned (.agg #[eP])∧Kd.R aU 43 w' w.heap.size (fun _=>True) eP r∧Below w.heap.size w w':=by
 have mF:=underlying28
 have uf:=underlying43
 have lq:=m_ b8
 have bx:=m_ b9
 clear b8 b9
 have HB:=m_ (Below.refl w.heap.size w)
 unfold qP.f at h
 have H:=h
 clear h
 have H':=m_ H
 clear H
 go_enter func77,ntmps77
 go_wp2_with (first|((with_reducible refine dJ 2 ?_);refine dO 2 (cs:=#[.slice b7 aI.length b1]) 28 ?_;intro b2 hg w3 hbox hb;obtain ⟨HB,a6,bz,ca⟩:=kL au hb hbox hg;clear hb hbox hg)|((with_reducible refine dJ 4 ?_);refine dO 4 (cs:=#[.slice none 0 0]) 28 ?_;intro b3 hg w4 hbox hb;obtain ⟨a6,HB,aa,cc,cd,aN,aQ⟩:=pq (ak a6) au hb hbox hg;clear hb hbox hg)|((with_reducible refine dJ 5 ?_);refine dO 5 (cs:=#[.slice none 0 0]) 28 ?_;intro b0 hg w5 hbox hb;obtain ⟨a6,aa,HB,a8,ce,cf,af,ag,al,am⟩:=pU (ak a6) (ak aa) au hb hbox hg;clear hb hbox hg;obtain ⟨aK,ai,co,cp⟩:=g_ ag af am al;have AY:=dh a8.out))
 go_loopg [6] k (fun kq v6 w'=>∃ (a7:Int) (a9:List (aF)) (BZ:Value),v6=ah a7∧aA (qP.l0 kq a1 a7 aI a9=some r)∧aA (kq≤k)∧aA (Kd.R aU 43 w' w.heap.size (fun _=>True) BZ a9)∧aA (w'.heap[b2]?=some (.cells #[(.slice b7 aI.length b1)] 28))∧aA (w'.heap[b3]?=some (.cells #[(.slice none 0 0)] 28))∧aA (w'.heap[b0]?=some (.cells #[BZ] 28))∧aA (Below w.heap.size w w'))
 case atStart=>exact ⟨(0),(([]:List (aF))),(.slice none 0 0),bg,H',⟨Nat.le_refl _⟩,⟨kD⟩,⟨aT⟩,⟨aT⟩,⟨aT⟩,⟨au⟩⟩
 case round =>
 clear H'
 try clear AY
 obtain ⟨a7,a9,BZ,rfl,HA,gZ,a5,a6,aa,a8,HB⟩:=hrel
 cases gk with
 | zero=>exact absurd HA.out (by simp [qP.l0])
 | succ k1 =>
 obtain ⟨H⟩:=HA
 simp only [qP.l0] at H
 have cg:=m_ H
 clear H
 obtain ⟨aw,ax,ch,ci⟩:=g_ aN aQ af ag
 have zY:=dh a6.out
 go_upto_if 12 with (fail)
 (try clear aw ai ax aK)
 (try clear zY)
 obtain ⟨H⟩:=cg
 revert H;refine gJ (fun bH H=>?_) fun bH H=>?_
 rotate_left
 ·try simp only [aY,bf,bH]
  obtain rfl:=dF H
  obtain ⟨aK,ai,b4,b5⟩:=g_ ag af am al
  have UK:=dh a8.out
  obtain ⟨bp,bq,br⟩:=Kd.dK a5.out
  subst br
  have Ku:=dh aa.out
  go_wp2
  refine bodyPost_ret (results_cell_row rfl _ _ b3 28 #[.slice bp a9.length bq] (0,0) _ rfl aT underlying28 rfl aB) rfl ?_
  exact ⟨_,bM,(by (with_reducible repeat (first|apply Kd.dB|apply Kd.dD|apply Kd.aZ));exact Kd.bn (aH (Kd.bQ a5.out aa.out (by decide))) (fun _ hk=>trivial)),au⟩
 try simp only [aY,bf,bH]
 obtain ⟨ck,H⟩:=gK H
 have bi:=m_ H
 clear H
 have Io:=dh a6.out
 have bb:0≤(a7:Int):=bF bG
 have bc:a7 < (aI.length:Int):=bF bG
 obtain ⟨an,bs,ar,aW,av⟩:=kY lq.out a7 bb bc
 cases bs
 replace ar:=iQ HB.out ar
 replace aW:=iQ HB.out aW
 replace av:=iQ HB.out av
 replace bb:=eq_true bb
 replace bc:=eq_true bc
 go_upto_if 22 with (fail)
 (try clear ai aK)
 (try clear Io)
 (try clear ar aW av)
 obtain ⟨H⟩:=bi
 revert H;refine fH (fun bd H=>?_) fun bd H=>?_
 ·have az:=fZ bd
  have bj:=f_ bd
  clear bd
  try simp only [aY,bf,az]
  have H':=m_ H
  clear H
  go_wp2
  go_roundg k1
  case measure=>have:=gZ.out;omega
  case rel=>exact ⟨(wrap64 (a7+1)),(a9),(BZ),bg,H',⟨ou⟩,⟨(aJ a5)⟩,⟨(ak a6)⟩,⟨(ak aa)⟩,⟨(ak a8)⟩,⟨au⟩⟩
 have az:=fP bd
 have bj:=fQ bd
 try simp only [aY,bf,az]
 obtain ⟨cn,H⟩:=kV H
 have bl:=m_ cn
 clear cn
 obtain ⟨be,b6⟩:∃ y_:List (aF),y_=(a9++[(⟨(aC aI a7).f0,(aC aI a7).f1,(aC aI a7).f2⟩:aF)]):=⟨_,rfl⟩
 rw [← b6] at H
 have bm:=m_ b6
 clear b6
 have H':=m_ H
 clear H
 try go_wp2
 obtain ⟨a5,a6,aa,a8,HB⟩:=p_ (Kd.aZ a5.out) <| yU a6 aa a8 HB
 have fA:0≤(a7:Int):=bF bG
 have dM:a7 < (aI.length:Int):=bF bG
 obtain ⟨fB,bu,ao,ap,aq⟩:=kY lq.out a7 fA dM
 have ab:=aq
 have ac:=ap
 have ae:=ao
 obtain rfl:an=fB:=(by injection bu)
 replace ao:=iQ HB.out ao
 replace ap:=iQ HB.out ap
 replace aq:=iQ HB.out aq
 replace fA:=eq_true fA
 replace dM:=eq_true dM
 refine iT (n:=11) (S:=fun w'=>jQ w' b0 (BZ) <| jQ w' b2 (.slice (some an) aI.length b1) <| xX w' (an.add ((a7).toNat * 3)) (.string ((aC aI a7).f0)) (.bool ((aC aI a7).f1)) (.string ((aC aI a7).f2))) (ds:=[10]) Bl aB rfl rfl ⟨(aP a8.out 0).trans rfl,(aP a6.out 0).trans rfl,((HB.out.cell (World.block_lt_of_cell? w _ ae)).trans ae),((HB.out.cell (World.block_lt_of_cell? w _ ac)).trans ac),((HB.out.cell (World.block_lt_of_cell? w _ ab)).trans ab)⟩ (fun hH=>?_);refine kE (T:=qP.T6) (B:=qP.B6) aB aB (fun aO fJ=>?_)
 generalize wr.drew=cr at a5 a6 aa a8 HB ao ap aq hH ⊢
 refine bV 0 ?_
 refine bV 2 ?_
 refine bV 4 ?_
 refine lg 1 hH ?_
 refine lg 3 hH ?_
 refine bV 5 ?_
 refine lg 6 hH ?_
 refine oZ 7 (fun K hK=>?_)
 refine Oh (w1:=?_) (v:=?_) (by rfl) rfl ?_ ?_
 rotate_left 2
 ·go_simp
  constructor
  ·rfl
  ·rfl
 refine hK.out _ _ ⟨(aP (kU a8.out _) 0).trans rfl,(aP (kU a6.out _) 0).trans rfl,(World.cell?_alloc_lt _ _ _ (World.block_lt_of_cell? _ _ (((HB.out.cell (World.block_lt_of_cell? w _ ae)).trans ae)))).trans (((HB.out.cell (World.block_lt_of_cell? w _ ae)).trans ae)),(World.cell?_alloc_lt _ _ _ (World.block_lt_of_cell? _ _ (((HB.out.cell (World.block_lt_of_cell? w _ ac)).trans ac)))).trans (((HB.out.cell (World.block_lt_of_cell? w _ ac)).trans ac)),(World.cell?_alloc_lt _ _ _ (World.block_lt_of_cell? _ _ (((HB.out.cell (World.block_lt_of_cell? w _ ab)).trans ab)))).trans (((HB.out.cell (World.block_lt_of_cell? w _ ab)).trans ab))⟩ (fun hH=>?_)
 clear hK K
 refine eX (some 30) ?_
 refine oZ 8 (fun K hK=>?_)
 refine Kd.KO aU (w0:=w) w.heap.size (by rfl) (.tmp 24) (.tmp 30) 26 43 (.agg #[(.string ⟨#[]⟩),(.bool false),(.string ⟨#[]⟩)]) 40 rfl underlying26 pV rfl (by decide) (by omega) BZ a9 (⟨(aC aI a7).f0,(aC aI a7).f1,(aC aI a7).f2⟩:aF) [.string ((aC aI a7).f0),.bool ((aC aI a7).f1),.string ((aC aI a7).f2)] (fun _=>True) (fun _=>False) rfl rfl ?sW (fun _ hk=>hk.elim) ?kT ?kG ?lu ?kH ?aL ?_
 (case sW=>exact qp _ _ _ (⟨(aC aI a7).f0,(aC aI a7).f1,(aC aI a7).f2⟩:aF))
 (case lu=>exact au)
 (case kT=>exact (fun _ _=>trivial))
 (case kG=>exact (aJ a5))
 (case kH=>exact (cZ au))
 (case aL=>have:=bl.out;omega)
 intro azS cq ho hb hg hat
 rw [← bm.out] at ho
 obtain ⟨a6,aa,a8,HB,ba⟩:=p_ (iy (g:=b2) (o:=.cells #[.slice (some an) aI.length b1] 28) (ak a6) hg (Kd.fV a5.out a6.out (by decide))) <| p_ (iy (g:=b3) (o:=.cells #[.slice none 0 0] 28) (ak aa) hg (Kd.fV a5.out aa.out (by decide))) <| p_ (iy (g:=b0) (o:=.cells #[BZ] 28) (ak a8) hg (Kd.fV a5.out a8.out (by decide))) <| p_ (hb) <| a_ (ho)
 clear ho hb hg hat
 obtain ⟨bv,bw,bo⟩:=Kd.dK ba.out
 (first|subst bo|(injection bo with dV gU dW;have gV:=dV.symm;have gW:=dW.symm;clear dV gU dW;subst gV;subst gW))
 refine hK.out _ _ ⟨(aP a8.out 0).trans rfl,(aP a6.out 0).trans rfl,((HB.out.cell (World.block_lt_of_cell? w _ ae)).trans ae),((HB.out.cell (World.block_lt_of_cell? w _ ac)).trans ac),((HB.out.cell (World.block_lt_of_cell? w _ ab)).trans ab)⟩ (fun hH=>?_)
 clear hK K
 refine eX (some 31) ?_
 refine bV 9 ?_
 refine xQ 10 (fun K hK=>?_)
 have axo:cq.cell? ⟨b0,0,none⟩=some (BZ):=(aP a8.out 0).trans rfl
 have aqK:=bP a8.out 0
 obtain ⟨ai,b5,aK,b4⟩:=g_ af al ag am
 refine iM (w1:=?_) (by rfl) rfl ?_ ?_
 rotate_left
 ·go_simp
  rfl
 refine hK.out _ _ ?_
 clear hK K
 refine iP (ku aO.out aB) ?_
 try go_wp2
 go_roundg k1
 case measure=>have:=gZ.out;omega
 case rel=>exact ⟨(wrap64 (a7+1)),(be),(.slice bv be.length bw),bg,H',⟨ou⟩,⟨(by (with_reducible repeat (first|apply Kd.dB|apply Kd.dD|apply Kd.aZ));exact Kd.bn (aH (Kd.bQ ba.out a8.out (by decide))) (fun _ hk=>trivial))⟩,⟨aT⟩,⟨aT⟩,⟨aT⟩,⟨au⟩⟩

def qH.f (a5:List (aF)):Option ((List (aF))):=(some (([]:List (aF)):List (aF))).bind fun a6=>(if a6.length+a5.length < 3518437208883 then (some (a6++a5)) else (none))
theorem qH.calls (ab:Option Addr) (ac:Nat) (aI:List (aF)) (r:List (aF)) (w:World) (ae:Kd.C aU w ab aI.length aI) (af:aI.length≤ac) (h:qH.f aI=some r) :
  Calls Tryz.prog 73 #[.agg #[.slice ab aI.length ac]] w fun e w'=>∃ eP:Value,e=.returned (.agg #[eP])∧Kd.R aU 43 w' w.heap.size (fun _=>True) eP r∧Below w.heap.size w w':=by
 have mF:=underlying28
 have lq:=m_ ae
 have ar:=m_ af
 clear ae af
 have HB:=m_ (Below.refl w.heap.size w)
 unfold qH.f at h
 have H:=h
 clear h
 obtain ⟨aN,ag,H⟩:=vH H
 obtain ⟨c2,H⟩:=kV H
 have an:=m_ c2
 clear c2
 obtain ⟨aQ,aa⟩:∃ y_:List (aF),y_=(aN++aI):=⟨_,rfl⟩
 rw [← aa] at H
 have al:=m_ aa
 clear aa
 obtain rfl:=dF H
 go_enter func73,ntmps73
 go_wp2_with (first|((with_reducible refine dJ 1 ?_);refine dO 1 (cs:=#[.slice ab aI.length ac]) 28 ?_;intro am hg w3 hbox hb;obtain ⟨HB,a5,aW,av⟩:=kL au hb hbox hg;clear hb hbox hg)|((with_reducible refine dJ 2 ?_);refine dO 2 (cs:=#[.slice none 0 0]) 28 ?_;intro aK hg w4 hbox hb;obtain ⟨a5,HB,a6,aw,ax,a8,a9⟩:=pq (ak a5) au hb hbox hg;clear hb hbox hg)|((with_reducible refine dJ 3 ?_);refine Kd.sU aU _ 43 ?hg (N:=3) ?hd (xs:=([]:List (aF))) (inner:=[]) (ok:=fun _=>True) (iJ:=fun _=>True) ?hr ?hp (fun _ hk=>hk) trivial (Below.refl _ _) (Nat.le_refl _) (by simp) ?_;(case hd=>rfl);(case hg=>rfl);(case hr=>first|(go_simp;done)|(go_simp;rfl));(case hp=>exact (bD.none _ _));intro akT w5 uZ hb iV iW;clear iV iW;(first|rw [← ag.out] at uZ|(simp only [Int.reduceToNat] at uZ;rw [← ag.out] at uZ));obtain ⟨a7,a5,a6,HB⟩:=p_ (Kd.dI uZ (cZ au)) <| Ai (ak a5) (ak a6) au hb;clear hb uZ;obtain ⟨bH,az⟩:=gB a8 a9;have AY:=dh a5.out)|((with_reducible refine xH (b:=.append) (xs:=#[.tmp 3,.tmp 5]) rfl ?_);at_builtin;refine Kd.EL aU (w0:=w) w.heap.size rfl (.tmp 3) (.tmp 5) 26 43 (.agg #[(.string ⟨#[]⟩),(.bool false),(.string ⟨#[]⟩)]) 40 rfl underlying26 pV rfl (by decide) (by omega) akT aN aI _ _ _ (fun _=>True) (fun _=>False) rfl rfl ?kG ?aR (fun _ _ h=>h) (fun _ h=>h.elim) ?kT ?lu ?kH ?aL ?_;(case aR=>exact pY);(case lu=>exact au);(case kT=>exact (fun _ _=>trivial));(case kG=>exact (aJ a7));(case kH=>exact (cZ au));(case aL=>have:=an.out;omega);intro azT w9 ho hb hg hat;rw [← al.out] at ho;obtain ⟨a5,a6,HB,ai⟩:=p_ (iy (g:=am) (o:=.cells #[.slice ab aI.length ac] 28) (ak a5) hg (Kd.fV a7.out a5.out (by decide))) <| p_ (iy (g:=aK) (o:=.cells #[.slice none 0 0] 28) (ak a6) hg (Kd.fV a7.out a6.out (by decide))) <| p_ (hb) <| a_ (ho);clear ho hb hg hat;obtain ⟨ao,ap,aq⟩:=Kd.dK ai.out;subst aq;have UG:=dh a6.out))
 refine bodyPost_ret (results_cell_row rfl _ _ aK 28 #[.slice ao aQ.length ap] (0,0) _ rfl aT underlying28 rfl aB) rfl ?_
 exact ⟨_,bM,(by (with_reducible repeat (first|apply Kd.dB|apply Kd.dD|apply Kd.aZ));exact Kd.bn (aH (Kd.bQ ai.out a6.out (by decide))) (fun _ hk=>trivial)),au⟩

def H_.f (a5:Int) (a8:ByteArray) (a9:ByteArray) (aa:Int) (ab:Int) (a6:ByteArray):Option (Bool):=(uh.f a5 1 11).bind fun a7=>(if a7=true then (some (decide ((a6.size:Int)≤200))) else (some false))
theorem H_.calls (a5:Int) (a7:ByteArray) (a8:ByteArray) (a9:Int) (aa:Int) (ab:ByteArray) (r:Bool) (w:World) (h:H_.f a5 a7 a8 a9 aa ab=some r) :
  Calls Tryz.prog 74 #[.agg #[ah a5,.string a7,.string a8,ah a9,ah aa,.string ab]] w fun e w'=>e=.returned (.bool r)∧Below w.heap.size w w':=by
 have Bv:=underlying45
 have HB:=m_ (Below.refl w.heap.size w)
 unfold H_.f at h
 have H:=h
 clear h
 obtain ⟨ag,A2,H⟩:=bd_ H
 by_cases c3:ag=true
 ·subst c3
  rw [if_pos rfl] at H
  obtain rfl:=dF H
  go_enter func74,ntmps74
  go_wp2_with (first|((with_reducible refine dJ 1 ?_);(try (refine qL (by rfl) ?_;dsimp only));refine dO 1 (cs:=#[ah a5,.string a7,.string a8,ah a9,ah aa,.string ab]) 45 ?_;intro ac hg w4 hbox hb;obtain ⟨HB,a6,ae,af⟩:=kL au hb hbox hg;clear hb hbox hg;have aK:=jK a6.out)|((with_reducible refine bT 98 ?_);refine bU (some 5) rfl rfl func98 aB rfl #[ah a5,ah 1,ah 11] rfl aX ?_;(with_reducible refine (uh.calls a5 1 11 true _ A2.out).mono ?_);rintro e w' ⟨rfl,⟨nd,rfl⟩⟩;refine ⟨_,rfl,?_⟩))
  go_ret
  exact ⟨bM,au⟩
 replace c3:=Bool.eq_false_iff.mpr c3
 subst c3
 rw [if_neg iI] at H
 obtain rfl:=dF H
 go_enter func74,ntmps74
 go_wp2_with (first|((with_reducible refine dJ 1 ?_);(try (refine qL (by rfl) ?_;dsimp only));refine dO 1 (cs:=#[ah a5,.string a7,.string a8,ah a9,ah aa,.string ab]) 45 ?_;intro ac hg w6 hbox hb;obtain ⟨HB,a6,ae,af⟩:=kL au hb hbox hg;clear hb hbox hg;have ai:=jK a6.out)|((with_reducible refine bT 98 ?_);refine bU (some 5) rfl rfl func98 aB rfl #[ah a5,ah 1,ah 11] rfl aX ?_;(with_reducible refine (uh.calls a5 1 11 false _ A2.out).mono ?_);rintro e w' ⟨rfl,⟨nd,rfl⟩⟩;refine ⟨_,rfl,?_⟩))
 go_ret
 exact ⟨bM,au⟩

def lX.f (a0:Int):Option (Int × ByteArray × Int × Bool × List ByteArray):=some (a0,(⟨#[]⟩:ByteArray),0,false,([]:List ByteArray))
theorem lX.calls (a0:Int) (r1:Int) (r2:ByteArray) (r3:Int) (r4:Bool) (r5:List ByteArray) (w:World) (h:lX.f a0=some (r1,r2,r3,r4,r5)) :
  Calls Tryz.prog 75 #[ah a0] w fun e w'=>∃ aaQ:Value,e=.returned (.agg #[ah r1,.string r2,ah r3,.bool r4,aaQ])∧Kd.R Kd.string 9 w' w.heap.size (fun _=>True) aaQ r5∧Below w.heap.size w w':=by
 have xM:=underlying49
 have HB:=m_ (Below.refl w.heap.size w)
 unfold lX.f at h
 have H:=h
 clear h
 simp only [Option.some.injEq,Prod.mk.injEq] at H
 obtain ⟨rfl,rfl,rfl,rfl,rfl⟩:=H
 go_enter func75,ntmps75
 go_wp2_with (first|((with_reducible refine dJ 2 ?_);refine dO 2 (cs:=#[ah 0,.string (⟨#[]⟩:ByteArray),ah 0,.bool false,.slice none 0 0]) 49 ?_;intro a5 hg w2 hbox hb;obtain ⟨HB,a6,a7,a8⟩:=kL au hb hbox hg;clear hb hbox hg;have a9:=kK a6.out))
 refine bodyPost_ret (results_cell_row rfl _ _ a5 49 #[ah a0,.string (⟨#[]⟩:ByteArray),ah 0,.bool false,.slice none 0 0] (0,0) _ rfl aT underlying49 rfl aB) rfl ?_
 exact ⟨_,bM,kD,au⟩

end Go.Proofs.YthejdhjpbpamoaaGreatDoor.jD
