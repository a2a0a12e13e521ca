/- Calls return what the Lean functions beside them compute. Conditions: each theorem's own. -/
import Derived.Test.YthejdhjpbpamoaaGreatDoorPkFnExactAsked
import Derived.Test.YthejdhjpbpamoaaGreatDoorPFnExactAskedx2
import Derived.Test.YthejdhjpbpamoaaGreatDoorPFnExactAskedx18
import Derived.Test.YthejdhjpbpamoaaGreatDoorPFnExactAskedx21
import Derived.Test.YthejdhjpbpamoaaGreatDoorPFnExactAskedx24
import Derived.Test.YthejdhjpbpamoaaGreatDoorPFnExactAskedx25
namespace Go.Proofs.YthejdhjpbpamoaaGreatDoor.pU
open Go.RowKit Go.Proofs.YthejdhjpbpamoaaGreatDoorW.jk Go.Proofs.YthejdhjpbpamoaaGreatDoorW.qI Go.Proofs.YthejdhjpbpamoaaGreatDoorW.vV Go.Proofs.Tryz
attribute [local go_sem] yN yR yQ yU yP yT yO yS
set_option linter.unusedVariables false
set_option maxHeartbeats 8000000
set_option maxRecDepth 100000
set_option linter.unusedSimpArgs false

mutual
def oh.j0:Nat→Bool→Int→Int→Int→Int→List (aF)→Int→ByteArray→ByteArray→Int→Int→ByteArray→List (aF)→Option ((List (aF)) × Int × ByteArray × Int × Bool × List ByteArray)
 | 0,_,_,_,_,_,_,_,_,_,_,_,_,_=>none
 | k+1,ax,ae,af,ag,aK,a7,a5,a6,a9,aa,ab,ac,a8=>if ax=true then ((rX.f k ae af ag aK a7 a5 a6 a9 aa ab ac).bind fun ai=>(some (ai.1,ai.2.1,ai.2.2.1,ai.2.2.2.1,ai.2.2.2.2.1,ai.2.2.2.2.2))) else ((rC.f k a7 a6).bind fun ar=>(if ar=0 then ((zO.f k a7 a6).bind fun ap=>((rW.f k a7 a6).bind fun aq=>(if a5=3 then (if ap=true then ((oq.f 5).bind fun aO=>(some (a8,aO.1,aO.2.1,aO.2.2.1,aO.2.2.2.1,aO.2.2.2.2))) else ((uf.f k a7 a6).bind fun aT=>(some (aT,0,(⟨#[]⟩:ByteArray),0,false,([]:List ByteArray))))) else (if a5=4 then (if a6.toList=([47]:List UInt8) then ((oq.f 9).bind fun al=>(some (a8,al.1,al.2.1,al.2.2.1,al.2.2.2.1,al.2.2.2.2))) else (if ap=true then ((ug.f k a7 a6).bind fun av=>(if (av.length:Int) > 0 then ((oq.f 10).bind fun am=>(some (a8,am.1,am.2.1,am.2.2.1,am.2.2.2.1,am.2.2.2.2))) else ((uf.f k a7 a6).bind fun aw=>(some (aw,0,(⟨#[]⟩:ByteArray),0,false,([]:List ByteArray)))))) else ((oq.f 4).bind fun an=>(some (a8,an.1,an.2.1,an.2.2.1,an.2.2.2.1,an.2.2.2.2))))) else (if a5=5 then ((oI.f k a7 a5 a6 a9 aa ab ac).bind fun aH=>(some (aH.1,aH.2.1,aH.2.2.1,aH.2.2.2.1,aH.2.2.2.2.1,aH.2.2.2.2.2))) else (if a5=6 then (oh.j1 k ap aq a5 (a5 == 6) ae af ag aK a7 a5 a6 a9 aa ab ac a8) else (if a5=7 then (oh.j1 k ap aq a5 (a5 == 7) ae af ag aK a7 a5 a6 a9 aa ab ac a8) else (oh.j1 k ap aq a5 (a5 == 8) ae af ag aK a7 a5 a6 a9 aa ab ac a8)))))))) else ((oq.f ar).bind fun ao=>(some (a8,ao.1,ao.2.1,ao.2.2.1,ao.2.2.2.1,ao.2.2.2.2)))))
def oh.j1:Nat→Bool→Int→Int→Bool→Int→Int→Int→Int→List (aF)→Int→ByteArray→ByteArray→Int→Int→ByteArray→List (aF)→Option ((List (aF)) × Int × ByteArray × Int × Bool × List ByteArray)
 | 0,_,_,_,_,_,_,_,_,_,_,_,_,_,_,_,_=>none
 | k+1,am,al,ao,ap,ab,ac,ae,af,a6,ag,aa,aK,ai,aH,aO,a5=>if ap=true then (if am=true then ((oq.f 5).bind fun a8=>(some (a5,a8.1,a8.2.1,a8.2.2.1,a8.2.2.2.1,a8.2.2.2.2))) else ((kV.f k ab ac ae af a6 al ag aa aK ai aH aO).bind fun a7=>(some (a7.1,a7.2.1,a7.2.2.1,a7.2.2.2.1,a7.2.2.2.2.1,a7.2.2.2.2.2)))) else (if ao=9 then (if am=true then (some (a5,0,(⟨#[]⟩:ByteArray),0,true,([]:List ByteArray))) else (if 0≤al then (if al < (a6.length:Int) then (some (a5,0,(⟨#[]⟩:ByteArray),(((aB a6 al).f2).size:Int),false,([]:List ByteArray))) else (none)) else (none))) else (if ao=10 then (if am=true then ((ug.f k a6 aa).bind fun an=>(some (a5,0,(⟨#[]⟩:ByteArray),0,false,an))) else ((oq.f 4).bind fun a9=>(some (a5,a9.1,a9.2.1,a9.2.2.1,a9.2.2.2.1,a9.2.2.2.2)))) else (some (a5,0,(⟨#[]⟩:ByteArray),0,false,([]:List ByteArray)))))
end
def oh.f (k:Nat) (af:Int) (ag:Int) (aK:Int) (ai:Int) (a7:List (aF)) (a6:Int) (a8:ByteArray) (a9:ByteArray) (aa:Int) (ab:Int) (ac:ByteArray):Option ((List (aF)) × Int × ByteArray × Int × Bool × List ByteArray):=(rY.f a7).bind fun ae=>((F6.f a6 a8 a9 aa ab ac).bind fun aH=>(if aH=true then (if a6=1 then (oh.j0 k true af ag aK ai a7 a6 a8 a9 aa ab ac ae) else (oh.j0 k (a6 == 2) af ag aK ai a7 a6 a8 a9 aa ab ac ae)) else ((oq.f 16).bind fun a5=>(some (ae,a5.1,a5.2.1,a5.2.2.1,a5.2.2.2.1,a5.2.2.2.2)))))
def oh.Rw:Bool × List (List Nat × List Nat):=(true,[([],[]),([],[]),([1],[1]),([],[]),([2,3],[2,3]),([4],[4]),([5],[5]),([6],[6]),([7],[7]),([0,0],[0]),([8,9,0,1,2,3,4,5,6,7,8,9],[8])])
def oh.QN:List Nat:=[0,0,2,0,14,30,62,126,254,1,1023]
def oh.afl:Bool × List (List Nat × List Nat):=(true,[([],[]),([],[]),([],[]),([2],[2]),([1,3],[1,3]),([4],[4]),([0,4,0],[0]),([5,6,0,1,2,3,4,5,6],[5])])
def oh.aeo:List Nat:=[0,0,0,4,14,30,31,127]
theorem MF {p:Prop} (h:p:=by
  refine qX (i:=0) (N:=some _) (v:=?_) (a':=?_) N8 rfl rfl aC (fun _ _ _ h=>h) (Or.inl ⟨(by rfl),?_⟩) hH ?_ ?_;rotate_left
  ·intro w' w0';go_simp
   with_reducible rfl
  rotate_left
  ·simp only [fM,aV,aZ]
   rfl
  refine iy (i:=1) (N:=some _) Oc rfl rfl aC (by decide) (fun K hK=>?_);refine jw func75 aC rfl #[ah _] (by rfl) rfl rfl bJ ?_
  with_reducible refine (oq.calls _ w1' w2' w3' w4' BO _ w6'.out).mono ?_
  rintro e y5 ⟨apo,rfl,Nh,hb⟩;refine ⟨_,rfl,?_⟩;obtain ⟨jh,Nb,aa,a6,a7,eY,dB,a8,HB⟩:=p_ (Kd.bG (aN jh) hb) <| p_ (Kd.dR Nh (bU ay)) <| rO (au aa) (au a6) (au a7) (au eY) (au dB) (au a8) ay hb;(try clear hb)
  (try clear Nh)
  obtain ⟨Xe,Xf,Nc⟩:=Kd.dN Nb.out;(first|subst Nc|(injection Nc with eu iE eF;have Xg:=eu.symm;have Xh:=eF.symm;clear eu iE eF;subst Xg;subst Xh))
  refine hK.out _ _ ((aQ a8.out 0).trans rfl) (fun hH=>?_);clear hK K;refine gY (some _) ?_;refine iy (i:=2) (N:=none) Oh rfl rfl aC (by decide) (fun K hK=>?_);have aoW:y5.cell? ⟨bb,0,none⟩=some (.slice none 0 0):=(aQ eY.out 0).trans rfl;have aoX:=cZ eY.out 0;obtain ⟨aoY,aoZ,ao0,ao1,ao2,ao3,ao4,ao5⟩:=iq ax am ae b2 af bD an ag;obtain ⟨ao6,ao7⟩:=gy b1 av;refine jD (w1:=?_) (by rfl) rfl ?_ ?_;rotate_left
  ·go_simp
   rfl
  refine hK.out _ _ ((aG af hH)) (fun hH=>?_);clear hK K;refine iy (i:=3) (N:=none) Oi rfl rfl aC (by decide) (fun K hK=>?_);have ao8:y5.cell? ⟨ab,0,none⟩=some (ah 0):=(aQ dB.out 0).trans rfl;have ao9:=cZ dB.out 0;obtain ⟨ao_,apa,apb,apc,apd,ape,apf,apg⟩:=iq az ac a9 a5 b0 ao aK aw;have aph:y5.cell? ⟨ab,1,none⟩=some (.string (⟨#[]⟩:ByteArray)):=(aQ dB.out 1).trans rfl;have apj:=cZ dB.out 1;have apk:y5.cell? ⟨ab,2,none⟩=some (ah 0):=(aQ dB.out 2).trans rfl;have apl:=cZ dB.out 2;have Xi:y5.cell? ⟨ab,3,none⟩=some (.bool false):=(aQ dB.out 3).trans rfl;have apm:=cZ dB.out 3;have QB:y5.cell? ⟨ab,4,none⟩=some (.slice none 0 0):=(aQ dB.out 4).trans rfl;have QC:=cZ dB.out 4;refine jD (w1:=?_) (by rfl) rfl ?_ ?_;rotate_left
  ·go_simp
   rfl
  refine hK.out _ _ ((aG a5 (aG a5 (aG a5 (aG a5 (aG a5 hH)))))) (fun hH=>?_);clear hK K;refine jd aC ?_;try go_wp2
  refine bodyPost_ret (jq rfl _ _ bb ab 28 49 #[.slice cf cd.length cg] #[ah w1',.string w2',ah w3',.bool w4',.slice Xe BO.length Xf] (0,0) (0,0) _ _ rfl bf underlying28 rfl aC rfl bf underlying49 rfl aC) rfl ?_;exact ⟨_,_,bK,Gh,(by (with_reducible repeat (first|apply Kd.bW|apply Kd.bY|apply Kd.bH));exact Kd.bF (aJ (aJ (aJ (aJ (aJ (aJ (Kd.bV (Kd.bV Nb.out eY.out (by decide)) dB.out (by decide)) (fun _ hk=>hk.1.2))))))) (fun _ hk=>trivial)),ay⟩):p:=h
theorem oh.calls (k:Nat) (d2:Int) (d3:Int) (d4:Int) (d5:Int) (co:Option Addr) (cl:Nat) (bg:List (aF)) (ce:Int) (cc:ByteArray) (cp:ByteArray) (cq:Int) (cr:Int) (ct:ByteArray) (r1:List (aF)) (r2:Int) (r3:ByteArray) (r4:Int) (r5:Bool) (r6:List ByteArray) (w:World) (er:Kd.C aS w co bg.length bg) (es:bg.length≤cl) (h:oh.f k d2 d3 d4 d5 bg ce cc cp cq cr ct=some (r1,r2,r3,r4,r5,r6)) :
  Calls Tryz.prog 29 #[.agg #[ah d2,ah d3,ah d4,ah d5],.agg #[.slice co bg.length cl],.agg #[ah ce,.string cc,.string cp,ah cq,ah cr,.string ct]] w fun e w'=>∃ fC nG:Value,e=.returned (.tuple #[.agg #[fC],.agg #[ah r2,.string r3,ah r4,.bool r5,nG]])∧Kd.R aS 43 w' w.heap.size (fun _=>True) fC r1∧Kd.R Kd.string 9 w' w.heap.size (fun _=>True) nG r6∧Below w.heap.size w w':=by
 have LV:=underlying25;have nT:=underlying28;have Fb:=underlying45;have wE:=underlying49;have xK:=m_ er;have fE:=m_ es;clear er es;have HB:=m_ (Below.refl w.heap.size w);unfold oh.f at h
 have H:=h;clear h;obtain ⟨cd,A4,H⟩:=bd_ H;obtain ⟨go,A5,H⟩:=bd_ H;have n5:=m_ H;clear H;go_enter func29,ntmps29
 go_upto_if 16 with (first|((with_reducible refine dJ 3 ?_);refine dO 3 (cs:=#[ah d2,ah d3,ah d4,ah d5]) 25 ?_;intro e6 hg w7 hbox hb;obtain ⟨HB,aa,n7,n8⟩:=jR ay hb hbox hg;clear hb hbox hg)|((with_reducible refine dJ 4 ?_);refine dO 4 (cs:=#[.slice co bg.length cl]) 28 ?_;intro dg hg w8 hbox hb;obtain ⟨aa,HB,a6,n9,na,bz,ca⟩:=oO (au aa) ay hb hbox hg;clear hb hbox hg)|((with_reducible refine dJ 5 ?_);refine dO 5 (cs:=#[ah ce,.string cc,.string cp,ah cq,ah cr,.string ct]) 45 ?_;intro cy hg w9 hbox hb;obtain ⟨aa,a6,HB,a7,nb,nc,fG,bo,bp,bq⟩:=rP (au aa) (au a6) ay hb hbox hg;clear hb hbox hg)|((with_reducible refine dJ 6 ?_);refine dO 6 (cs:=#[.slice none 0 0]) 28 ?_;intro bb hg ab9 hbox hb;obtain ⟨aa,a6,a7,HB,eY,cm,ne,ax,bD,am,an,ae,ag⟩:=zl (au aa) (au a6) (au a7) ay hb hbox hg;clear hb hbox hg)|((with_reducible refine dJ 7 ?_);refine dO 7 (cs:=#[ah 0,.string (⟨#[]⟩:ByteArray),ah 0,.bool false,.slice none 0 0]) 49 ?_;intro ab hg ab_ hbox hb;obtain ⟨aa,a6,a7,eY,HB,dB,y8,nf,az,b0,ac,ao,a9,aK,b1,b2⟩:=Ho (au aa) (au a6) (au a7) (au eY) ay hb hbox hg;clear hb hbox hg;obtain ⟨bw,bx,bc,bd,ap,aq,ar,aT⟩:=iq ca bz bp bq am an ac ao;have QI:=bZ a6.out)|((with_reducible refine cu 73 ?_);refine cO (some 13) rfl rfl func73 aC rfl #[.agg #[.slice co bg.length cl]] rfl bJ ?_;(with_reducible refine (rY.calls _ _ bg cd _ pK fE.out A4.out).mono ?_);rintro e qn ⟨aDI,rfl,ho0,hb⟩;refine ⟨_,rfl,?_⟩;obtain ⟨ch,aa,a6,a7,eY,dB,HB⟩:=p_ (Kd.dR ho0 (bU ay)) <| qJ (au aa) (au a6) (au a7) (au eY) (au dB) ay hb;(try clear hb);(try clear ho0))|((with_reducible refine dJ 8 ?_);refine dO 8 (cs:=#[.slice none 0 0]) 28 ?_;intro cj hg acd hbox hb;obtain ⟨ch,aa,a6,a7,eY,dB,HB,a8,V4,nh,ci,ck,br,bv,b9,ba,av,af,aw,a5⟩:=p_ (Kd.bG (aN ch) hb) <| BQ (au aa) (au a6) (au a7) (au eY) (au dB) ay hb hbox hg;clear hb hbox hg;obtain ⟨cf,cg,ma⟩:=Kd.dN ch.out;subst ma;obtain ⟨cv,cw,bs,bu,b3,b4,b5,b6⟩:=iq ck ci bv br ba b9 af av;obtain ⟨b7,b8⟩:=gy a5 aw;have ad_:=bZ a8.out;obtain ⟨be,fA,ai,aH,aO,al⟩:=lU bo fG ae ag a9 aK;have ej:=mg a7.out)|((with_reducible refine cu 74 ?_);refine cO (some 15) rfl rfl func74 aC rfl #[.agg #[ah ce,.string cc,.string cp,ah cq,ah cr,.string ct]] rfl bJ ?_;(with_reducible refine (F6.calls ce cc cp cq cr ct go _ A5.out).mono ?_);rintro e nr ⟨rfl,hb⟩;refine ⟨_,rfl,?_⟩;have ji:=p_ (Kd.bG (by (with_reducible repeat (first|apply Kd.bW|apply Kd.bY|apply Kd.bH));exact (Kd.bF (aJ (Kd.bV ch.out a8.out (by decide))) (fun _ bI=>bI.1))) hb) <| p_ (aU (g:=e6) (o:=.cells #[ah d2,ah d3,ah d4,ah d5] 25) (qK aa.out ci.out) hb) <| p_ (aU (g:=dg) (o:=.cells #[.slice co bg.length cl] 28) (qK a6.out br.out) hb) <| p_ (aU (g:=cy) (o:=.cells #[ah ce,.string cc,.string cp,ah cq,ah cr,.string ct] 45) (qK a7.out b9.out) hb) <| p_ (aU (g:=bb) (o:=.cells #[.slice none 0 0] 28) (qK eY.out av.out) hb) <| p_ (aU (g:=ab) (o:=.cells #[ah 0,.string (⟨#[]⟩:ByteArray),ah 0,.bool false,.slice none 0 0] 49) (qK dB.out aw.out) hb) <| p_ (aU (g:=cj) (o:=.cells #[.slice cf cd.length cg] 28) (DV a8.out) hb) <| a_ (dV ay hb);clear ch aa a6 a7 eY dB a8 HB;obtain ⟨ch,aa,a6,a7,eY,dB,a8,HB⟩:=ji;(try clear hb);(try clear hk)))
 (try simp only [fM])
 (try clear bx fA cw bw bc ap ar bu be bd ai aO b4 aq aH b6 aT al b8 cv bs b3 b5 b7)
 (try clear QI)
 (try clear ad_)
 (try clear ej)
 (try clear QI)
 (try clear ad_)
 obtain ⟨H⟩:=n5;by_cases gp:go=true
 rotate_left
 ·replace gp:=Bool.eq_false_iff.mpr gp;subst gp;rw [if_neg iF] at H;obtain ⟨⟨BU,gr,gs,gt,vN⟩,mb,H⟩:=bd_ H;simp only [gV] at H
  obtain ⟨rfl,rfl,rfl,rfl,rfl,rfl⟩:=H;try go_wp2
  obtain ⟨ch,aa,a6,a7,eY,dB,a8,HB⟩:=p_ (Kd.bH ch.out) <| xR aa a6 a7 eY dB a8 HB;refine iU (n:=4) (S:=fun w'=>w'.cell? ⟨cj,0,none⟩=some (.slice cf cd.length cg)) (ds:=[]) BP aC rfl rfl ((aQ a8.out 0).trans rfl) (fun hH=>?_);generalize nr.drew=ns at ch aa a6 a7 eY dB a8 HB hH ⊢;refine qX (i:=0) (N:=some 17) (v:=?_) (a':=?_) N8 rfl rfl aC (fun _ _ _ h=>h) (Or.inl ⟨(by rfl),?_⟩) hH ?_ ?_;rotate_left
  ·intro w' s0;go_simp
   with_reducible rfl
  rotate_left
  ·simp only [fM,aV,aZ]
   rfl
  refine iy (i:=1) (N:=some 18) Oc rfl rfl aC (by decide) (fun K hK=>?_);refine jw func75 aC rfl #[ah 16] (by rfl) rfl rfl bJ ?_
  with_reducible refine (oq.calls 16 BU gr gs gt vN _ mb.out).mono ?_
  rintro e du ⟨aDJ,rfl,ho0,hb⟩;refine ⟨_,rfl,?_⟩;obtain ⟨ch,et,aa,a6,a7,eY,dB,a8,HB⟩:=p_ (Kd.bG (aN ch) hb) <| p_ (Kd.dR ho0 (bU ay)) <| rO (au aa) (au a6) (au a7) (au eY) (au dB) (au a8) ay hb;(try clear hb)
  (try clear ho0)
  obtain ⟨gv,gw,tN⟩:=Kd.dN et.out;(first|subst tN|(injection tN with eu iE eF;have iJ:=eu.symm;have iK:=eF.symm;clear eu iE eF;subst iJ;subst iK))
  refine hK.out _ _ ((aQ a8.out 0).trans rfl) (fun hH=>?_);clear hK K;refine gY (some 18) ?_;refine iy (i:=2) (N:=none) Oh rfl rfl aC (by decide) (fun K hK=>?_);have aBI:du.cell? ⟨bb,0,none⟩=some (.slice none 0 0):=(aQ eY.out 0).trans rfl;have avN:=cZ eY.out 0;obtain ⟨dL,ap,ai,bh,b5,bi,aq,aH⟩:=iq ax am ae b2 af bD an ag;obtain ⟨bj,b6⟩:=gy b1 av;refine jD (w1:=?_) (by rfl) rfl ?_ ?_;rotate_left
  ·go_simp
   rfl
  refine hK.out _ _ ((aG af hH)) (fun hH=>?_);clear hK K;refine iy (i:=3) (N:=none) Oi rfl rfl aC (by decide) (fun K hK=>?_);have aBJ:du.cell? ⟨ab,0,none⟩=some (ah 0):=(aQ dB.out 0).trans rfl;have avO:=cZ dB.out 0;obtain ⟨bl,ar,aO,b7,bm,aT,al,b8⟩:=iq az ac a9 a5 b0 ao aK aw;have aBK:du.cell? ⟨ab,1,none⟩=some (.string (⟨#[]⟩:ByteArray)):=(aQ dB.out 1).trans rfl;have avP:=cZ dB.out 1;have aBL:du.cell? ⟨ab,2,none⟩=some (ah 0):=(aQ dB.out 2).trans rfl;have avQ:=cZ dB.out 2;have aBM:du.cell? ⟨ab,3,none⟩=some (.bool false):=(aQ dB.out 3).trans rfl;have avR:=cZ dB.out 3;have aBN:du.cell? ⟨ab,4,none⟩=some (.slice none 0 0):=(aQ dB.out 4).trans rfl;have avS:=cZ dB.out 4;refine jD (w1:=?_) (by rfl) rfl ?_ ?_;rotate_left
  ·go_simp
   rfl
  refine hK.out _ _ ((aG a5 (aG a5 (aG a5 (aG a5 (aG a5 hH)))))) (fun hH=>?_);clear hK K;refine jd aC ?_;try go_wp2
  refine bodyPost_ret (jq rfl _ _ bb ab 28 49 #[.slice cf cd.length cg] #[ah BU,.string gr,ah gs,.bool gt,.slice gv vN.length gw] (0,0) (0,0) _ _ rfl bf underlying28 rfl aC rfl bf underlying49 rfl aC) rfl ?_;exact ⟨_,_,bK,(by (with_reducible repeat (first|apply Kd.bW|apply Kd.bY|apply Kd.bH));exact Kd.bF (aJ (aJ (aJ (aJ (aJ (aJ (Kd.bV (Kd.bV ch.out eY.out (by decide)) dB.out (by decide)) (fun _ hk=>hk.1.2))))))) (fun _ hk=>trivial)),(by (with_reducible repeat (first|apply Kd.bW|apply Kd.bY|apply Kd.bH));exact Kd.bF (aJ (aJ (aJ (aJ (aJ (aJ (Kd.bV (Kd.bV et.out eY.out (by decide)) dB.out (by decide)) (fun _ hk=>hk.1.2))))))) (fun _ hk=>trivial)),ay⟩
 subst gp;rw [if_pos rfl] at H;have gc:=m_ H;clear H;go_upto_region 4 with (fail)
 go_cut [26] (fun v26 wc=>∃ (kq:Nat) (de:Bool),v26=.bool de∧aA (oh.j0 kq de d2 d3 d4 d5 bg ce cc cp cq cr ct cd=some (r1,r2,r3,r4,r5,r6))∧aA (kq≤k)∧aA (Kd.R aS 43 wc w.heap.size (fun _=>True) (.slice cf cd.length cg) cd)∧aA (wc.heap[e6]?=some (.cells #[ah d2,ah d3,ah d4,ah d5] 25))∧aA (wc.heap[dg]?=some (.cells #[(.slice co bg.length cl)] 28))∧aA (wc.heap[cy]?=some (.cells #[ah ce,.string cc,.string cp,ah cq,ah cr,.string ct] 45))∧aA (wc.heap[bb]?=some (.cells #[(.slice none 0 0)] 28))∧aA (wc.heap[ab]?=some (.cells #[ah 0,.string (⟨#[]⟩:ByteArray),ah 0,.bool false,(.slice none 0 0)] 49))∧aA (wc.heap[cj]?=some (.cells #[(.slice cf cd.length cg)] 28))∧aA (Below w.heap.size w wc))
 case first =>
  obtain ⟨H⟩:=gc;revert H;refine eU (fun ev H=>?_) fun ev H=>?_;rotate_left
  ·have db:=fZ ev;have ew:=f_ ev;try simp only [aV,aZ,db]
   have H':=m_ H;clear H;obtain ⟨be,fA,bd,bc,ai,aH,aO,al⟩:=iq bo fG bq bp ae ag a9 aK;obtain ⟨b4,b3⟩:=gy b9 ba;have gx:=mg a7.out;go_wp2
   go_meet
   case rel=>exact ⟨_,((ce == 2)),bC,H',⟨lM⟩,⟨(aN ch)⟩,⟨(au aa)⟩,⟨(au a6)⟩,⟨(au a7)⟩,⟨(au eY)⟩,⟨(au dB)⟩,⟨(au a8)⟩,⟨ay⟩⟩
  have db:=fU ev;have ew:=fV ev;clear ev;try simp only [aV,aZ,db]
  have H':=m_ H;clear H;obtain ⟨be,fA,bd,bc,ai,aH,aO,al⟩:=iq bo fG bq bp ae ag a9 aK;obtain ⟨b4,b3⟩:=gy b9 ba;have zy:=mg a7.out;go_wp2
  go_meet
  case rel=>exact ⟨_,(true),bC,H',⟨lM⟩,⟨(aN ch)⟩,⟨(au aa)⟩,⟨(au a6)⟩,⟨(au a7)⟩,⟨(au eY)⟩,⟨(au dB)⟩,⟨(au a8)⟩,⟨ay⟩⟩
 case rest =>
 clear gc;try clear gp
 obtain ⟨kq,de,rfl,HA,AQ,jh,aa,a6,a7,eY,dB,a8,HB⟩:=hcut;cases kq with
 | zero=>exact absurd HA.out (by simp [oh.j0])
 | succ Aq =>
 obtain ⟨H⟩:=HA;simp only [oh.j0] at H
 by_cases m9:de=true
 ·subst m9;rw [if_pos rfl] at H;obtain ⟨⟨gz,hs,hu,hy,i1,i2⟩,oc,H⟩:=bd_ H;simp only [gV] at H
  obtain ⟨rfl,rfl,rfl,rfl,rfl,rfl⟩:=H;obtain ⟨bx,bw,fA,be,dL,bi,bl,bm⟩:=iq bz ca fG bo ax bD az b0;obtain ⟨cw,cv⟩:=gy ci ck;have od:=EI aa.out;obtain ⟨bc,bd,ap,aq,ar,aT,bu,bs⟩:=iq bp bq am an ac ao br bv;have aEM:=bZ a6.out;obtain ⟨ai,aH,aO,al,b4,b3⟩:=lU ae ag a9 aK b9 ba;have oe:=mg a7.out;go_wp2_with (first|((with_reducible refine cu 76 ?_);refine cO (some 30) rfl rfl func76 aC rfl #[.agg #[ah d2,ah d3,ah d4,ah d5],.agg #[.slice co bg.length cl],.agg #[ah ce,.string cc,.string cp,ah cq,ah cr,.string ct]] rfl bJ ?_;(with_reducible refine (rX.calls Aq d2 d3 d4 d5 _ _ bg ce cc cp cq cr ct gz hs hu hy i1 i2 _ pK fE.out oc.out).mono ?_);rintro e sd ⟨aDK,aDL,rfl,ho0,ho1,hb⟩;refine ⟨_,rfl,?_⟩;obtain ⟨jh,ex,ey,aa,a6,a7,eY,dB,a8,HB⟩:=p_ (Kd.jP (aN jh) (Kd.iY ho0) hb) <| p_ (Kd.dR (Kd.jQ ho0 (Kd.jl (aN jh))) (bU ay)) <| p_ (Kd.dR ho1 (bU ay)) <| rO (au aa) (au a6) (au a7) (au eY) (au dB) (au a8) ay hb;(try clear hb);(try clear ho0);(try clear ho1);obtain ⟨mc,me,mf⟩:=Kd.dN ex.out;subst mf;obtain ⟨bj,bh,b6,b5⟩:=iD b1 b2 av af;have aER:=bZ eY.out;obtain ⟨b8,b7⟩:=gy aw a5;have V5:=jc dB.out;obtain ⟨MG,mh,mi⟩:=Kd.dN ey.out;subst mi))
  refine bodyPost_ret (jq rfl _ _ bb ab 28 49 #[.slice mc gz.length me] #[ah hs,.string hu,ah hy,.bool i1,.slice MG i2.length mh] (0,0) (0,0) _ _ rfl bf underlying28 rfl aC rfl bf underlying49 rfl aC) rfl ?_;exact ⟨_,_,bK,(by (with_reducible repeat (first|apply Kd.bW|apply Kd.bY|apply Kd.bH));exact Kd.bF (aJ (aJ (aJ (aJ (aJ (aJ (Kd.bV (Kd.bV ex.out eY.out (by decide)) dB.out (by decide)) (fun _ hk=>hk.1.2))))))) (fun _ hk=>trivial)),(by (with_reducible repeat (first|apply Kd.bW|apply Kd.bY|apply Kd.bH));exact Kd.bF (aJ (aJ (aJ (aJ (aJ (aJ (Kd.bV (Kd.bV ey.out eY.out (by decide)) dB.out (by decide)) (fun _ hk=>hk.1.2))))))) (fun _ hk=>trivial)),ay⟩
 replace m9:=Bool.eq_false_iff.mpr m9;subst m9;rw [if_neg iF] at H;obtain ⟨ek,abT,H⟩:=bd_ H;have i3:=m_ H;clear H;obtain ⟨bw,bx,bc,bd,ap,aq,ar,aT⟩:=iq ca bz bp bq am an ac ao;obtain ⟨bu,bs⟩:=gy br bv;have apO:=bZ a6.out;obtain ⟨be,fA,ai,aH,aO,al,b4,b3⟩:=iq bo fG ae ag a9 aK b9 ba;have mj:=mg a7.out;go_upto_if 38 with (first|((with_reducible refine cu 26 ?_);refine cO (some 36) rfl rfl func26 aC rfl #[.agg #[.slice co bg.length cl],.string cc] rfl bJ ?_;(with_reducible refine (rC.calls Aq _ _ bg cc ek _ pK fE.out abT.out).mono ?_);rintro e oj ⟨rfl,hb⟩;refine ⟨_,rfl,?_⟩;obtain ⟨jh,aa,a6,a7,eY,dB,a8,HB⟩:=p_ (Kd.bG (aN jh) hb) <| rO (au aa) (au a6) (au a7) (au eY) (au dB) (au a8) ay hb;(try clear hb)))
 (try simp only [fM])
 (try clear bx fA bw bc ap ar bu be bd ai aO b4 aq aH aT al bs b3)
 (try clear mj)
 obtain ⟨H⟩:=i3;revert H;refine eU (fun gd H=>?_) fun gd H=>?_;rotate_left
 ·have pF:=fZ gd;have i4:=f_ gd;try simp only [aV,aZ,pF]
  obtain ⟨⟨i5,i6,i7,i8,i9⟩,ml,H⟩:=bd_ H;simp only [gV] at H
  obtain ⟨rfl,rfl,rfl,rfl,rfl,rfl⟩:=H;try go_wp2
  obtain ⟨jh,aa,a6,a7,eY,dB,a8,HB⟩:=p_ (Kd.bH jh.out) <| xR aa a6 a7 eY dB a8 HB;refine iU (n:=5) (S:=fun w'=>w'.cell? ⟨cj,0,none⟩=some (.slice cf cd.length cg)) (ds:=[]) EL aC rfl rfl ((aQ a8.out 0).trans rfl) (fun hH=>?_);generalize oj.drew=ol at jh aa a6 a7 eY dB a8 HB hH ⊢;refine uF (i:=1) (N:=some 40) Og aC ?_;refine qX (i:=0) (N:=some 39) (v:=?_) (a':=?_) KT rfl rfl aC (fun _ _ _ h=>h) (Or.inl ⟨(by rfl),?_⟩) hH ?_ ?_;rotate_left
  ·intro w' s0;go_simp
   with_reducible rfl
  rotate_left
  ·simp only [fM,aV,aZ]
   rfl
  refine iy (i:=2) (N:=some 41) He rfl rfl aC (by decide) (fun K hK=>?_);refine jw func75 aC rfl #[ah ek] (by rfl) rfl rfl bJ ?_
  with_reducible refine (oq.calls ek i5 i6 i7 i8 i9 _ ml.out).mono ?_
  rintro e dv ⟨aDM,rfl,ho0,hb⟩;refine ⟨_,rfl,?_⟩;obtain ⟨jh,ez,aa,a6,a7,eY,dB,a8,HB⟩:=p_ (Kd.bG (aN jh) hb) <| p_ (Kd.dR ho0 (bU ay)) <| rO (au aa) (au a6) (au a7) (au eY) (au dB) (au a8) ay hb;(try clear hb)
  (try clear ho0)
  obtain ⟨ia,ib,f3⟩:=Kd.dN ez.out;(first|subst f3|(injection f3 with eu iE eF;have iJ:=eu.symm;have iK:=eF.symm;clear eu iE eF;subst iJ;subst iK))
  refine hK.out _ _ ((aQ a8.out 0).trans rfl) (fun hH=>?_);clear hK K;refine gY (some 41) ?_;refine iy (i:=3) (N:=none) EM rfl rfl aC (by decide) (fun K hK=>?_);have aBC:dv.cell? ⟨bb,0,none⟩=some (.slice none 0 0):=(aQ eY.out 0).trans rfl;have avH:=cZ eY.out 0;obtain ⟨dL,ap,ai,bh,b5,bi,aq,aH⟩:=iq ax am ae b2 af bD an ag;obtain ⟨bj,b6⟩:=gy b1 av;refine jD (w1:=?_) (by rfl) rfl ?_ ?_;rotate_left
  ·go_simp
   rfl
  refine hK.out _ _ ((aG af hH)) (fun hH=>?_);clear hK K;refine iy (i:=4) (N:=none) EN rfl rfl aC (by decide) (fun K hK=>?_);have aBD:dv.cell? ⟨ab,0,none⟩=some (ah 0):=(aQ dB.out 0).trans rfl;have avI:=cZ dB.out 0;obtain ⟨bl,ar,aO,b7,bm,aT,al,b8⟩:=iq az ac a9 a5 b0 ao aK aw;have aBE:dv.cell? ⟨ab,1,none⟩=some (.string (⟨#[]⟩:ByteArray)):=(aQ dB.out 1).trans rfl;have avJ:=cZ dB.out 1;have aBF:dv.cell? ⟨ab,2,none⟩=some (ah 0):=(aQ dB.out 2).trans rfl;have avK:=cZ dB.out 2;have aBG:dv.cell? ⟨ab,3,none⟩=some (.bool false):=(aQ dB.out 3).trans rfl;have avL:=cZ dB.out 3;have aBH:dv.cell? ⟨ab,4,none⟩=some (.slice none 0 0):=(aQ dB.out 4).trans rfl;have avM:=cZ dB.out 4;refine jD (w1:=?_) (by rfl) rfl ?_ ?_;rotate_left
  ·go_simp
   rfl
  refine hK.out _ _ ((aG a5 (aG a5 (aG a5 (aG a5 (aG a5 hH)))))) (fun hH=>?_);clear hK K;refine jd aC ?_;try go_wp2
  refine bodyPost_ret (jq rfl _ _ bb ab 28 49 #[.slice cf cd.length cg] #[ah i5,.string i6,ah i7,.bool i8,.slice ia i9.length ib] (0,0) (0,0) _ _ rfl bf underlying28 rfl aC rfl bf underlying49 rfl aC) rfl ?_;exact ⟨_,_,bK,Gh,(by (with_reducible repeat (first|apply Kd.bW|apply Kd.bY|apply Kd.bH));exact Kd.bF (aJ (aJ (aJ (aJ (aJ (aJ (Kd.bV (Kd.bV ez.out eY.out (by decide)) dB.out (by decide)) (fun _ hk=>hk.1.2))))))) (fun _ hk=>trivial)),ay⟩
 have pF:=fU gd;have i4:=fV gd;clear gd;try simp only [aV,aZ,pF]
 obtain ⟨lJ,om,H⟩:=bd_ H;obtain ⟨cx,on,H⟩:=bd_ H;have ic:=m_ H;clear H;have apP:=bZ a6.out;have id:=mg a7.out;go_upto_if 52 with (first|((with_reducible refine cu 54 ?_);refine cO (some 45) rfl rfl func54 aC rfl #[.agg #[.slice co bg.length cl],.string cc] rfl bJ ?_;(with_reducible refine (zO.calls Aq _ _ bg cc lJ _ pK fE.out om.out).mono ?_);rintro e oo ⟨rfl,hb⟩;refine ⟨_,rfl,?_⟩;obtain ⟨jh,aa,a6,a7,eY,dB,a8,HB⟩:=p_ (Kd.bG (aN jh) hb) <| rO (au aa) (au a6) (au a7) (au eY) (au dB) (au a8) ay hb;(try clear hb);have Xm:=bZ a6.out;have f4:=mg a7.out)|((with_reducible refine cu 13 ?_);refine cO (some 49) rfl rfl func13 aC rfl #[.agg #[.slice co bg.length cl],.string cc] rfl bJ ?_;(with_reducible refine (rW.calls Aq _ _ bg cc cx _ pK fE.out on.out).mono ?_);rintro e ge ⟨rfl,hb⟩;refine ⟨_,rfl,?_⟩;obtain ⟨jh,aa,a6,a7,eY,dB,a8,HB⟩:=p_ (Kd.bG (aN jh) hb) <| rO (au aa) (au a6) (au a7) (au eY) (au dB) (au a8) ay hb;(try clear hb);have f7:=mg a7.out))
 (try simp only [fM])
 (try clear bx fA bw bc ap ar bu be bd ai aO b4 aq aH aT al bs b3)
 (try clear Xm)
 (try clear f4)
 (try clear f7)
 (try clear id)
 (try clear Xm)
 obtain ⟨H⟩:=ic;revert H;refine eU (fun dp H=>?_) fun dp H=>?_
 ·have da:=fU dp;have gf:=fV dp;clear dp;try simp only [aV,aZ,da]
  by_cases el:lJ=true
  rotate_left
  ·replace el:=Bool.eq_false_iff.mpr el;subst el;rw [if_neg iF] at H;obtain ⟨ie,mm,H⟩:=bd_ H;simp only [gV] at H
   obtain ⟨rfl,rfl,rfl,rfl,rfl,rfl⟩:=H;have aEf:=bZ a6.out;have PW:=mg a7.out;go_wp2_with (first|((with_reducible refine cu 77 ?_);refine cO (some 60) rfl rfl func77 aC rfl #[.agg #[.slice co bg.length cl],.string cc] rfl bJ ?_;(with_reducible refine (uf.calls Aq _ _ bg cc ie _ pK fE.out mm.out).mono ?_);rintro e abW ⟨aDN,rfl,ho0,hb⟩;refine ⟨_,rfl,?_⟩;obtain ⟨jh,f8,aa,a6,a7,eY,dB,a8,HB⟩:=p_ (Kd.jP (aN jh) (Kd.iY ho0) hb) <| p_ (Kd.dR (Kd.jQ ho0 (Kd.jl (aN jh))) (bU ay)) <| rO (au aa) (au a6) (au a7) (au eY) (au dB) (au a8) ay hb;(try clear hb);(try clear ho0);obtain ⟨Ah,ii,ij⟩:=Kd.dN f8.out;subst ij;obtain ⟨bi,dL,bj,bh,b6,b5⟩:=lU bD ax b1 b2 av af;have aEi:=bZ eY.out;obtain ⟨bm,bl,b8,b7⟩:=iD b0 az aw a5;have nj:=jc dB.out))
   refine bodyPost_ret (jq rfl _ _ bb ab 28 49 #[.slice Ah ie.length ii] #[ah 0,.string (⟨#[]⟩:ByteArray),ah 0,.bool false,.slice none 0 0] (0,0) (0,0) _ _ rfl bf underlying28 rfl aC rfl bf underlying49 rfl aC) rfl ?_;exact ⟨_,_,bK,(by (with_reducible repeat (first|apply Kd.bW|apply Kd.bY|apply Kd.bH));exact Kd.bF (aJ (aJ (aJ (aJ (aJ (aJ (Kd.bV (Kd.bV f8.out eY.out (by decide)) dB.out (by decide)) (fun _ hk=>hk.1.2))))))) (fun _ hk=>trivial)),lH,ay⟩
  subst el;rw [if_pos rfl] at H;obtain ⟨⟨w1',w2',w3',w4',BO⟩,w6',H⟩:=bd_ H;simp only [gV] at H
  obtain ⟨rfl,rfl,rfl,rfl,rfl,rfl⟩:=H;try go_wp2
  obtain ⟨jh,aa,a6,a7,eY,dB,a8,HB⟩:=p_ (Kd.bH jh.out) <| xR aa a6 a7 eY dB a8 HB;refine iU (n:=4) (S:=fun w'=>w'.cell? ⟨cj,0,none⟩=some (.slice cf cd.length cg)) (ds:=[]) BP aC rfl rfl ((aQ a8.out 0).trans rfl) (fun hH=>?_);generalize ge.drew=C9 at jh aa a6 a7 eY dB a8 HB hH ⊢;exact MF
 have da:=fZ dp;have gf:=f_ dp;try simp only [aV,aZ,da]
 revert H;refine eU (fun di H=>?_) fun di H=>?_
 ·have e7:=fU di;have e8:=fV di;clear di;have fc:=m_ H;clear H;have iu:=mg a7.out;go_upto_if 64 with (fail)
  (try clear fA bc be bd ai aO b4 aH al b3)
  (try clear iu)
  obtain ⟨H⟩:=fc;revert H;refine eU (fun dj H=>?_) fun dj H=>?_
  ·have C9:=fU dj;have QD:=fV dj;clear dj;try simp only [aV,aZ,C9]
   obtain ⟨⟨w1',w2',w3',w4',BO⟩,w6',H⟩:=bd_ H;simp only [gV] at H
   obtain ⟨rfl,rfl,rfl,rfl,rfl,rfl⟩:=H;try go_wp2
   obtain ⟨jh,aa,a6,a7,eY,dB,a8,HB⟩:=p_ (Kd.bH jh.out) <| xR aa a6 a7 eY dB a8 HB;refine iU (n:=4) (S:=fun w'=>w'.cell? ⟨cj,0,none⟩=some (.slice cf cd.length cg)) (ds:=[]) BP aC rfl rfl ((aQ a8.out 0).trans rfl) (fun hH=>?_);generalize ge.drew=QE at jh aa a6 a7 eY dB a8 HB hH ⊢;exact MF
  have cz:=fZ dj;have e9:=f_ dj;try simp only [aV,aZ,cz]
  by_cases ea:lJ=true
  rotate_left
  ·replace ea:=Bool.eq_false_iff.mpr ea;subst ea;rw [if_neg iF] at H;obtain ⟨⟨w1',w2',w3',w4',BO⟩,w6',H⟩:=bd_ H;simp only [gV] at H
   obtain ⟨rfl,rfl,rfl,rfl,rfl,rfl⟩:=H;try go_wp2
   obtain ⟨jh,aa,a6,a7,eY,dB,a8,HB⟩:=p_ (Kd.bH jh.out) <| xR aa a6 a7 eY dB a8 HB;refine iU (n:=4) (S:=fun w'=>w'.cell? ⟨cj,0,none⟩=some (.slice cf cd.length cg)) (ds:=[]) BP aC rfl rfl ((aQ a8.out 0).trans rfl) (fun hH=>?_);generalize ge.drew=C9 at jh aa a6 a7 eY dB a8 HB hH ⊢;exact MF
  subst ea;rw [if_pos rfl] at H;obtain ⟨em,ms,H⟩:=bd_ H;have fh:=m_ H;clear H;have aEm:=bZ a6.out;have eb:=mg a7.out;go_upto_if 75 with (first|((with_reducible refine cu 20 ?_);refine cO (some 79) rfl rfl func20 aC rfl #[.agg #[.slice co bg.length cl],.string cc] rfl bJ ?_;(with_reducible refine (ug.calls Aq _ _ bg cc em _ pK fE.out ms.out).mono ?_);rintro e mt ⟨aDO,rfl,ho0,hb⟩;refine ⟨_,rfl,?_⟩;obtain ⟨jh,cn,aa,a6,a7,eY,dB,a8,HB⟩:=p_ (Kd.bG (aN jh) hb) <| p_ (Kd.dR ho0 (bU ay)) <| rO (au aa) (au a6) (au a7) (au eY) (au dB) (au a8) ay hb;(try clear hb);(try clear ho0);obtain ⟨nk,nl,Ci⟩:=Kd.dN cn.out;subst Ci))
  (try simp only [fM])
  (try clear bx fA bw bc ap ar bu be bd ai aO b4 aq aH aT al bs b3)
  (try clear eb)
  obtain ⟨H⟩:=fh;revert H;refine eU (fun dq H=>?_) fun dq H=>?_;rotate_left
  ·have d0:=wQ dq;have df:decide (0 < em.length)=false:=wQ (by omega);clear dq;(first|rw [d0]|rw [df]|(simp only [aV,aZ];rw [d0])|skip)
   obtain ⟨Cj,mu,H⟩:=bd_ H;simp only [gV] at H
   obtain ⟨rfl,rfl,rfl,rfl,rfl,rfl⟩:=H;have apz:=bZ a6.out;have fi:=mg a7.out;go_wp2_with (first|((with_reducible refine cu 77 ?_);refine cO (some 87) rfl rfl func77 aC rfl #[.agg #[.slice co bg.length cl],.string cc] rfl bJ ?_;(with_reducible refine (uf.calls Aq _ _ bg cc Cj _ pK fE.out mu.out).mono ?_);rintro e ov ⟨aDQ,rfl,ho0,hb⟩;refine ⟨_,rfl,?_⟩;obtain ⟨jh,cn,fj,aa,a6,a7,eY,dB,a8,HB⟩:=p_ (Kd.jP (aN jh) (Kd.iY ho0) hb) <| p_ (Kd.bG (aN cn) hb) <| p_ (Kd.dR (Kd.jQ ho0 (Kd.jl (aN jh))) (bU ay)) <| rO (au aa) (au a6) (au a7) (au eY) (au dB) (au a8) ay hb;(try clear hb);(try clear ho0);obtain ⟨jj,Cm,zF⟩:=Kd.dN fj.out;subst zF;obtain ⟨bi,dL,bj,bh,b6,b5⟩:=lU bD ax b1 b2 av af;have aEq:=bZ eY.out;obtain ⟨bm,bl,b8,b7⟩:=iD b0 az aw a5;have fk:=jc dB.out))
   refine bodyPost_ret (jq rfl _ _ bb ab 28 49 #[.slice jj Cj.length Cm] #[ah 0,.string (⟨#[]⟩:ByteArray),ah 0,.bool false,.slice none 0 0] (0,0) (0,0) _ _ rfl bf underlying28 rfl aC rfl bf underlying49 rfl aC) rfl ?_;exact ⟨_,_,bK,(by (with_reducible repeat (first|apply Kd.bW|apply Kd.bY|apply Kd.bH));exact Kd.bF (aJ (aJ (aJ (aJ (aJ (aJ (Kd.bV (Kd.bV fj.out eY.out (by decide)) dB.out (by decide)) (fun _ hk=>hk.1.2))))))) (fun _ hk=>trivial)),lH,ay⟩
  have d0:=nJ dq;have df:decide (0 < em.length)=true:=nJ (by omega);clear dq;(first|rw [d0]|rw [df]|(simp only [aV,aZ];rw [d0])|skip)
  obtain ⟨⟨zG,jn,FD,jp,PD⟩,mv,H⟩:=bd_ H;simp only [gV] at H
  obtain ⟨rfl,rfl,rfl,rfl,rfl,rfl⟩:=H;try go_wp2
  obtain ⟨jh,cn,aa,a6,a7,eY,dB,a8,HB⟩:=p_ (Kd.bH jh.out) <| p_ (Kd.bH cn.out) <| xR aa a6 a7 eY dB a8 HB;refine iU (n:=4) (S:=fun w'=>w'.cell? ⟨cj,0,none⟩=some (.slice cf cd.length cg)) (ds:=[]) BP aC rfl rfl ((aQ a8.out 0).trans rfl) (fun hH=>?_);generalize mt.drew=ow at jh cn aa a6 a7 eY dB a8 HB hH ⊢;refine qX (i:=0) (N:=some 82) (v:=?_) (a':=?_) N8 rfl rfl aC (fun _ _ _ h=>h) (Or.inl ⟨(by rfl),?_⟩) hH ?_ ?_;rotate_left
  ·intro w' s0;go_simp
   with_reducible rfl
  rotate_left
  ·simp only [fM,aV,aZ]
   rfl
  refine iy (i:=1) (N:=some 83) Oc rfl rfl aC (by decide) (fun K hK=>?_);refine jw func75 aC rfl #[ah 10] (by rfl) rfl rfl bJ ?_
  with_reducible refine (oq.calls 10 zG jn FD jp PD _ mv.out).mono ?_
  rintro e dz ⟨aDP,rfl,ho0,hb⟩;refine ⟨_,rfl,?_⟩;obtain ⟨jh,cn,fl,aa,a6,a7,eY,dB,a8,HB⟩:=p_ (Kd.bG (aN jh) hb) <| p_ (Kd.jP (aN cn) (Kd.iY ho0) hb) <| p_ (Kd.dR (Kd.jQ ho0 (Kd.jl (aN cn))) (bU ay)) <| rO (au aa) (au a6) (au a7) (au eY) (au dB) (au a8) ay hb;(try clear hb)
  (try clear ho0)
  obtain ⟨VR,js,fm⟩:=Kd.dN fl.out;(first|subst fm|(injection fm with eu iE eF;have iJ:=eu.symm;have iK:=eF.symm;clear eu iE eF;subst iJ;subst iK))
  refine hK.out _ _ ((aQ a8.out 0).trans rfl) (fun hH=>?_);clear hK K;refine gY (some 83) ?_;refine iy (i:=2) (N:=none) Oh rfl rfl aC (by decide) (fun K hK=>?_);have alD:dz.cell? ⟨bb,0,none⟩=some (.slice none 0 0):=(aQ eY.out 0).trans rfl;have ai7:=cZ eY.out 0;obtain ⟨dL,ap,ai,bh,b5,bi,aq,aH⟩:=iq ax am ae b2 af bD an ag;obtain ⟨bj,b6⟩:=gy b1 av;refine jD (w1:=?_) (by rfl) rfl ?_ ?_;rotate_left
  ·go_simp
   rfl
  refine hK.out _ _ ((aG af hH)) (fun hH=>?_);clear hK K;refine iy (i:=3) (N:=none) Oi rfl rfl aC (by decide) (fun K hK=>?_);have alE:dz.cell? ⟨ab,0,none⟩=some (ah 0):=(aQ dB.out 0).trans rfl;have ai8:=cZ dB.out 0;obtain ⟨bl,ar,aO,b7,bm,aT,al,b8⟩:=iq az ac a9 a5 b0 ao aK aw;have alF:dz.cell? ⟨ab,1,none⟩=some (.string (⟨#[]⟩:ByteArray)):=(aQ dB.out 1).trans rfl;have ai9:=cZ dB.out 1;have alG:dz.cell? ⟨ab,2,none⟩=some (ah 0):=(aQ dB.out 2).trans rfl;have ai_:=cZ dB.out 2;have aBf:dz.cell? ⟨ab,3,none⟩=some (.bool false):=(aQ dB.out 3).trans rfl;have avj:=cZ dB.out 3;have aBh:dz.cell? ⟨ab,4,none⟩=some (.slice none 0 0):=(aQ dB.out 4).trans rfl;have avl:=cZ dB.out 4;refine jD (w1:=?_) (by rfl) rfl ?_ ?_;rotate_left
  ·go_simp
   rfl
  refine hK.out _ _ ((aG a5 (aG a5 (aG a5 (aG a5 (aG a5 hH)))))) (fun hH=>?_);clear hK K;refine jd aC ?_;try go_wp2
  refine bodyPost_ret (jq rfl _ _ bb ab 28 49 #[.slice cf cd.length cg] #[ah zG,.string jn,ah FD,.bool jp,.slice VR PD.length js] (0,0) (0,0) _ _ rfl bf underlying28 rfl aC rfl bf underlying49 rfl aC) rfl ?_;exact ⟨_,_,bK,Gh,(by (with_reducible repeat (first|apply Kd.bW|apply Kd.bY|apply Kd.bH));exact Kd.bF (aJ (aJ (aJ (aJ (aJ (aJ (Kd.bV (Kd.bV fl.out eY.out (by decide)) dB.out (by decide)) (fun _ hk=>hk.1.2))))))) (fun _ hk=>trivial)),ay⟩
 have e7:=fZ di;have e8:=f_ di;revert H;refine eU (fun dk H=>?_) fun dk H=>?_
 ·have ec:=fU dk;have ed:=fV dk;clear dk;obtain ⟨⟨jt,ju,JA,JB,jx,JC⟩,mw,H⟩:=bd_ H;simp only [gV] at H
  obtain ⟨rfl,rfl,rfl,rfl,rfl,rfl⟩:=H;have aEr:=bZ a6.out;have fo:=mg a7.out;go_wp2_with (first|((with_reducible refine cu 78 ?_);refine cO (some 93) rfl rfl func78 aC rfl #[.agg #[.slice co bg.length cl],.agg #[ah ce,.string cc,.string cp,ah cq,ah cr,.string ct]] rfl bJ ?_;(with_reducible refine (oI.calls Aq _ _ bg ce cc cp cq cr ct jt ju JA JB jx JC _ pK fE.out mw.out).mono ?_);rintro e ox ⟨aDR,aDS,rfl,ho0,ho1,hb⟩;refine ⟨_,rfl,?_⟩;obtain ⟨jh,fp,fq,aa,a6,a7,eY,dB,a8,HB⟩:=p_ (Kd.jP (aN jh) (Kd.iY ho0) hb) <| p_ (Kd.dR (Kd.jQ ho0 (Kd.jl (aN jh))) (bU ay)) <| p_ (Kd.dR ho1 (bU ay)) <| rO (au aa) (au a6) (au a7) (au eY) (au dB) (au a8) ay hb;(try clear hb);(try clear ho0);(try clear ho1);obtain ⟨jz,l5,l6⟩:=Kd.dN fp.out;subst l6;obtain ⟨bi,dL,bj,bh,b6,b5⟩:=lU bD ax b1 b2 av af;have aEs:=bZ eY.out;obtain ⟨bm,bl,b8,b7⟩:=iD b0 az aw a5;have fr:=jc dB.out;obtain ⟨DN,l8,FK⟩:=Kd.dN fq.out;subst FK))
  refine bodyPost_ret (jq rfl _ _ bb ab 28 49 #[.slice jz jt.length l5] #[ah ju,.string JA,ah JB,.bool jx,.slice DN JC.length l8] (0,0) (0,0) _ _ rfl bf underlying28 rfl aC rfl bf underlying49 rfl aC) rfl ?_;exact ⟨_,_,bK,(by (with_reducible repeat (first|apply Kd.bW|apply Kd.bY|apply Kd.bH));exact Kd.bF (aJ (aJ (aJ (aJ (aJ (aJ (Kd.bV (Kd.bV fp.out eY.out (by decide)) dB.out (by decide)) (fun _ hk=>hk.1.2))))))) (fun _ hk=>trivial)),(by (with_reducible repeat (first|apply Kd.bW|apply Kd.bY|apply Kd.bH));exact Kd.bF (aJ (aJ (aJ (aJ (aJ (aJ (Kd.bV (Kd.bV fq.out eY.out (by decide)) dB.out (by decide)) (fun _ hk=>hk.1.2))))))) (fun _ hk=>trivial)),ay⟩
 have ec:=fZ dk;have ed:=f_ dk;have ee:=m_ H;clear H;go_upto_if 96 with (fail)
 go_cut [96] (fun aoV wc=>∃ (kq:Nat) (d6:Bool),aoV=.bool d6∧aA (oh.j1 kq lJ cx ce d6 d2 d3 d4 d5 bg ce cc cp cq cr ct cd=some (r1,r2,r3,r4,r5,r6))∧aA (kq≤Aq)∧aA (Kd.R aS 43 wc w.heap.size (fun _=>True) (.slice cf cd.length cg) cd)∧aA (wc.heap[e6]?=some (.cells #[ah d2,ah d3,ah d4,ah d5] 25))∧aA (wc.heap[dg]?=some (.cells #[(.slice co bg.length cl)] 28))∧aA (wc.heap[cy]?=some (.cells #[ah ce,.string cc,.string cp,ah cq,ah cr,.string ct] 45))∧aA (wc.heap[bb]?=some (.cells #[(.slice none 0 0)] 28))∧aA (wc.heap[ab]?=some (.cells #[ah 0,.string (⟨#[]⟩:ByteArray),ah 0,.bool false,(.slice none 0 0)] 49))∧aA (wc.heap[cj]?=some (.cells #[(.slice cf cd.length cg)] 28))∧aA (Below w.heap.size w wc))
 case first =>
  obtain ⟨H⟩:=ee;revert H;refine eU (fun dl H=>?_) fun dl H=>?_
  ·have d1:=fU dl;have ef:=fV dl;clear dl;try simp only [aV,aZ,d1]
   have H':=m_ H;clear H;go_wp2
   go_meet
   case rel=>exact ⟨_,((ce == 6)),bC,H',⟨(by have:=AQ.out;first|omega|exact Nat.le_refl _)⟩,⟨(aN jh)⟩,⟨(au aa)⟩,⟨(au a6)⟩,⟨(au a7)⟩,⟨(au eY)⟩,⟨(au dB)⟩,⟨(au a8)⟩,⟨ay⟩⟩
  have d1:=fZ dl;have ef:=f_ dl;try simp only [aV,aZ,d1]
  revert H;refine eU (fun dm H=>?_) fun dm H=>?_;rotate_left
  ·have eh:=fZ dm;have ei:=f_ dm;have H':=m_ H;clear H;go_wp2
   go_meet
   case rel=>exact ⟨_,((ce == 8)),bC,H',⟨(by have:=AQ.out;first|omega|exact Nat.le_refl _)⟩,⟨(aN jh)⟩,⟨(au aa)⟩,⟨(au a6)⟩,⟨(au a7)⟩,⟨(au eY)⟩,⟨(au dB)⟩,⟨(au a8)⟩,⟨ay⟩⟩
  have eh:=fU dm;have ei:=fV dm;clear dm;have H':=m_ H;clear H;go_wp2
  go_meet
  case rel=>exact ⟨_,((ce == 7)),bC,H',⟨(by have:=AQ.out;first|omega|exact Nat.le_refl _)⟩,⟨(aN jh)⟩,⟨(au aa)⟩,⟨(au a6)⟩,⟨(au a7)⟩,⟨(au eY)⟩,⟨(au dB)⟩,⟨(au a8)⟩,⟨ay⟩⟩
 case rest =>
 clear ee;try clear di;try clear e7;try clear e8;try clear dk;try clear ec;try clear ed
 obtain ⟨kq,d6,rfl,HA,ap6,jh,aa,a6,a7,eY,dB,a8,HB⟩:=hcut;cases kq with
 | zero=>exact absurd HA.out (by simp [oh.j1])
 | succ abr =>
 obtain ⟨H⟩:=HA;simp only [oh.j1] at H
 by_cases en:d6=true
 ·subst en;rw [if_pos rfl] at H;by_cases eo:lJ=true
  rotate_left
  ·replace eo:=Bool.eq_false_iff.mpr eo;subst eo;rw [if_neg iF] at H;obtain ⟨⟨la,lc,ld,lf,xw,lh⟩,my,H⟩:=bd_ H;simp only [gV] at H
   obtain ⟨rfl,rfl,rfl,rfl,rfl,rfl⟩:=H;obtain ⟨bx,bw,fA,be,dL,bi,bl,bm⟩:=iq bz ca fG bo ax bD az b0;obtain ⟨cw,cv⟩:=gy ci ck;have nm:=EI aa.out;obtain ⟨bc,bd,ap,aq,ar,aT,bu,bs⟩:=iq bp bq am an ac ao br bv;have apB:=bZ a6.out;obtain ⟨ai,aH,aO,al,b4,b3⟩:=lU ae ag a9 aK b9 ba;have nn:=mg a7.out;go_wp2_with (first|((with_reducible refine cu 79 ?_);refine cO (some 107) rfl rfl func79 aC rfl #[.agg #[ah d2,ah d3,ah d4,ah d5],.agg #[.slice co bg.length cl],ah cx,.agg #[ah ce,.string cc,.string cp,ah cq,ah cr,.string ct]] rfl bJ ?_;(with_reducible refine (kV.calls abr d2 d3 d4 d5 _ _ bg cx ce cc cp cq cr ct la lc ld lf xw lh _ pK fE.out my.out).mono ?_);rintro e V8 ⟨aDT,aDU,rfl,ho0,ho1,hb⟩;refine ⟨_,rfl,?_⟩;obtain ⟨jh,fs,ft,aa,a6,a7,eY,dB,a8,HB⟩:=p_ (Kd.jP (aN jh) (Kd.iY ho0) hb) <| p_ (Kd.dR (Kd.jQ ho0 (Kd.jl (aN jh))) (bU ay)) <| p_ (Kd.dR ho1 (bU ay)) <| rO (au aa) (au a6) (au a7) (au eY) (au dB) (au a8) ay hb;(try clear hb);(try clear ho0);(try clear ho1);obtain ⟨li,lj,lk⟩:=Kd.dN fs.out;subst lk;obtain ⟨bj,bh,b6,b5⟩:=iD b1 b2 av af;have apC:=bZ eY.out;obtain ⟨b8,b7⟩:=gy aw a5;have no:=jc dB.out;obtain ⟨ll,lm,ln⟩:=Kd.dN ft.out;subst ln))
   refine bodyPost_ret (jq rfl _ _ bb ab 28 49 #[.slice li la.length lj] #[ah lc,.string ld,ah lf,.bool xw,.slice ll lh.length lm] (0,0) (0,0) _ _ rfl bf underlying28 rfl aC rfl bf underlying49 rfl aC) rfl ?_;exact ⟨_,_,bK,(by (with_reducible repeat (first|apply Kd.bW|apply Kd.bY|apply Kd.bH));exact Kd.bF (aJ (aJ (aJ (aJ (aJ (aJ (Kd.bV (Kd.bV fs.out eY.out (by decide)) dB.out (by decide)) (fun _ hk=>hk.1.2))))))) (fun _ hk=>trivial)),(by (with_reducible repeat (first|apply Kd.bW|apply Kd.bY|apply Kd.bH));exact Kd.bF (aJ (aJ (aJ (aJ (aJ (aJ (Kd.bV (Kd.bV ft.out eY.out (by decide)) dB.out (by decide)) (fun _ hk=>hk.1.2))))))) (fun _ hk=>trivial)),ay⟩
  subst eo;rw [if_pos rfl] at H;obtain ⟨⟨w1',w2',w3',w4',BO⟩,w6',H⟩:=bd_ H;simp only [gV] at H
  obtain ⟨rfl,rfl,rfl,rfl,rfl,rfl⟩:=H;try go_wp2
  obtain ⟨jh,aa,a6,a7,eY,dB,a8,HB⟩:=p_ (Kd.bH jh.out) <| xR aa a6 a7 eY dB a8 HB;refine iU (n:=4) (S:=fun w'=>w'.cell? ⟨cj,0,none⟩=some (.slice cf cd.length cg)) (ds:=[]) BP aC rfl rfl ((aQ a8.out 0).trans rfl) (fun hH=>?_);generalize wc.drew=C9 at jh aa a6 a7 eY dB a8 HB hH ⊢;exact MF
 replace en:=Bool.eq_false_iff.mpr en;subst en;rw [if_neg iF] at H;revert H;refine eU (fun dr H=>?_) fun dr H=>?_;rotate_left
 ·have gh:=fZ dr;have gi:=f_ dr;revert H;refine eU (fun dt H=>?_) fun dt H=>?_;rotate_left
  ·have gj:=fZ dt;have gl:=f_ dt;simp only [gV] at H
   obtain ⟨rfl,rfl,rfl,rfl,rfl,rfl⟩:=H;obtain ⟨cv,cw,bs,bu,b3,b4,b5,b6⟩:=iq ck ci bv br ba b9 af av;obtain ⟨b7,b8⟩:=gy a5 aw;have aEA:=bZ a8.out;obtain ⟨bi,dL,aq,ap,aH,ai,bj,bh⟩:=iq bD ax an am ag ae b1 b2;have aEB:=bZ eY.out;obtain ⟨bm,bl,aT,ar,al,aO⟩:=lU b0 az ao ac aK a9;have np:=jc dB.out;go_wp2
   refine bodyPost_ret (jq rfl _ _ bb ab 28 49 #[.slice cf cd.length cg] #[ah 0,.string (⟨#[]⟩:ByteArray),ah 0,.bool false,.slice none 0 0] (0,0) (0,0) _ _ rfl bf underlying28 rfl aC rfl bf underlying49 rfl aC) rfl ?_;exact ⟨_,_,bK,Gh,lH,ay⟩
  have gj:=fU dt;have gl:=fV dt;clear dt;by_cases ep:lJ=true
  rotate_left
  ·replace ep:=Bool.eq_false_iff.mpr ep;subst ep;rw [if_neg iF] at H;obtain ⟨⟨w1',w2',w3',w4',BO⟩,w6',H⟩:=bd_ H;simp only [gV] at H
   obtain ⟨rfl,rfl,rfl,rfl,rfl,rfl⟩:=H;try go_wp2
   obtain ⟨jh,aa,a6,a7,eY,dB,a8,HB⟩:=p_ (Kd.bH jh.out) <| xR aa a6 a7 eY dB a8 HB;refine iU (n:=4) (S:=fun w'=>w'.cell? ⟨cj,0,none⟩=some (.slice cf cd.length cg)) (ds:=[]) BP aC rfl rfl ((aQ a8.out 0).trans rfl) (fun hH=>?_);generalize wc.drew=C9 at jh aa a6 a7 eY dB a8 HB hH ⊢;exact MF
  subst ep;rw [if_pos rfl] at H;obtain ⟨m4,n1,H⟩:=bd_ H;simp only [gV] at H
  obtain ⟨rfl,rfl,rfl,rfl,rfl,rfl⟩:=H;try go_wp2
  obtain ⟨jh,aa,a6,a7,eY,dB,a8,HB⟩:=p_ (Kd.bH jh.out) <| xR aa a6 a7 eY dB a8 HB;refine iU (n:=8) (S:=fun w'=>jE w' cj (.slice cf cd.length cg) <| jE w' dg (.slice co bg.length cl) <| oZ w' cy (ah ce) (.string cc) (.string cp) (ah cq) (ah cr) (.string ct)) (ds:=[]) EO aC rfl rfl ⟨(aQ a8.out 0).trans rfl,(aQ a6.out 0).trans rfl,jX a7.out⟩ (fun hH=>?_);refine kF (T:=oh.afl) (B:=oh.aeo) aC aC (fun aP fK=>?_);generalize wc.drew=qk at jh aa a6 a7 eY dB a8 HB hH ⊢;refine dF 2 132 #[F_,F_,aj,F_,F_,F_,F_,F_] aP ?_;refine j_ 0 130 #[aj,F_,aj,F_,F_,F_,F_,F_] aP fK hH ?_;refine kE 1 hH ?_;refine kE 3 hH ?_;refine iy (i:=4) (N:=some 134) #[aj,aj,aj,aj,aj,F_,F_,F_] rfl rfl (lG aP.out aC) (by decide) (fun K hK=>?_);refine jw func20 aC rfl #[.agg #[.slice co bg.length cl],.string cc] (by rfl) rfl rfl bJ ?_
  with_reducible refine (ug.calls abr _ _ bg cc m4 _ pK fE.out n1.out).mono ?_
  rintro e e4 ⟨aDV,rfl,ho0,hb⟩;refine ⟨_,rfl,?_⟩;obtain ⟨jh,fz,aa,a6,a7,eY,dB,a8,HB⟩:=p_ (Kd.bG (aN jh) hb) <| p_ (Kd.dR ho0 (bU ay)) <| rO (au aa) (au a6) (au a7) (au eY) (au dB) (au a8) ay hb;(try clear hb)
  (try clear ho0)
  obtain ⟨m5,m6,ga⟩:=Kd.dN fz.out;(first|subst ga|(injection ga with eu iE eF;have iJ:=eu.symm;have iK:=eF.symm;clear eu iE eF;subst iJ;subst iK))
  refine hK.out _ _ ⟨(aQ a8.out 0).trans rfl,(aQ a6.out 0).trans rfl,jX a7.out⟩ (fun hH=>?_);clear hK K;refine gY (some 134) ?_;refine bM 5 ?_;refine oH 6 (fun K hK=>?_);have aBw:e4.cell? ⟨bb,0,none⟩=some (.slice none 0 0):=(aQ eY.out 0).trans rfl;have avA:=cZ eY.out 0;obtain ⟨dL,ap,ai,bh,b5,bi,aq,aH⟩:=iq ax am ae b2 af bD an ag;obtain ⟨bj,b6⟩:=gy b1 av;refine jD (w1:=?_) (by rfl) rfl ?_ ?_;rotate_left
  ·go_simp
   rfl
  refine hK.out _ _ ⟨(aG af hH.1),(aG am hH.2.1),(aG ae hH.2.2.1),(aG ae hH.2.2.2.1),(aG ae hH.2.2.2.2.1),(aG ae hH.2.2.2.2.2.1),(aG ae hH.2.2.2.2.2.2.1),(aG ae hH.2.2.2.2.2.2.2)⟩ (fun hH=>?_);clear hK K;refine oH 7 (fun K hK=>?_);have aBx:e4.cell? ⟨ab,0,none⟩=some (ah 0):=(aQ dB.out 0).trans rfl;have avC:=cZ dB.out 0;obtain ⟨bl,ar,aO,b7,bm,aT,al,b8⟩:=iq az ac a9 a5 b0 ao aK aw;have aBy:e4.cell? ⟨ab,1,none⟩=some (.string (⟨#[]⟩:ByteArray)):=(aQ dB.out 1).trans rfl;have avD:=cZ dB.out 1;have aBz:e4.cell? ⟨ab,2,none⟩=some (ah 0):=(aQ dB.out 2).trans rfl;have avE:=cZ dB.out 2;have aBA:e4.cell? ⟨ab,3,none⟩=some (.bool false):=(aQ dB.out 3).trans rfl;have avF:=cZ dB.out 3;have aBB:e4.cell? ⟨ab,4,none⟩=some (.slice none 0 0):=(aQ dB.out 4).trans rfl;have avG:=cZ dB.out 4;refine jD (w1:=?_) (by rfl) rfl ?_ ?_;rotate_left
  ·go_simp
   rfl
  refine hK.out _ _ ⟨(aG a5 (aG a5 (aG a5 (aG a5 (aG a5 hH.1))))),(aG ac (aG ac (aG ac (aG ac (aG ac hH.2.1))))),(aG a9 (aG a9 (aG a9 (aG a9 (aG a9 hH.2.2.1))))),(aG a9 (aG a9 (aG a9 (aG a9 (aG a9 hH.2.2.2.1))))),(aG a9 (aG a9 (aG a9 (aG a9 (aG a9 hH.2.2.2.2.1))))),(aG a9 (aG a9 (aG a9 (aG a9 (aG a9 hH.2.2.2.2.2.1))))),(aG a9 (aG a9 (aG a9 (aG a9 (aG a9 hH.2.2.2.2.2.2.1))))),(aG a9 (aG a9 (aG a9 (aG a9 (aG a9 hH.2.2.2.2.2.2.2)))))⟩ (fun hH=>?_);clear hK K;refine jd (kC aP.out aC) ?_;try go_wp2
  refine bodyPost_ret (jq rfl _ _ bb ab 28 49 #[.slice cf cd.length cg] #[ah 0,.string (⟨#[]⟩:ByteArray),ah 0,.bool false,.slice m5 m4.length m6] (0,0) (0,0) _ _ rfl bf underlying28 rfl aC rfl bf underlying49 rfl aC) rfl ?_;exact ⟨_,_,bK,Gh,(by (with_reducible repeat (first|apply Kd.bW|apply Kd.bY|apply Kd.bH));exact Kd.bF (aJ (aJ (aJ (aJ (aJ (aJ (Kd.bV (Kd.bV fz.out eY.out (by decide)) dB.out (by decide)) (fun _ hk=>hk.1.2))))))) (fun _ hk=>trivial)),ay⟩
 have gh:=fU dr;have gi:=fV dr;clear dr;by_cases eq:lJ=true
 ·subst eq;rw [if_pos rfl] at H;simp only [gV] at H
  obtain ⟨rfl,rfl,rfl,rfl,rfl,rfl⟩:=H;obtain ⟨cv,cw,bs,bu,b3,b4,b5,b6⟩:=iq ck ci bv br ba b9 af av;obtain ⟨b7,b8⟩:=gy a5 aw;have aEv:=bZ a8.out;obtain ⟨bi,dL,aq,ap,aH,ai,bj,bh⟩:=iq bD ax an am ag ae b1 b2;have aEw:=bZ eY.out;obtain ⟨bm,bl,aT,ar,al,aO⟩:=lU b0 az ao ac aK a9;have nq:=jc dB.out;go_wp2
  refine bodyPost_ret (jq rfl _ _ bb ab 28 49 #[.slice cf cd.length cg] #[ah 0,.string (⟨#[]⟩:ByteArray),ah 0,.bool true,.slice none 0 0] (0,0) (0,0) _ _ rfl bf underlying28 rfl aC rfl bf underlying49 rfl aC) rfl ?_;exact ⟨_,_,bK,Gh,lH,ay⟩
 replace eq:=Bool.eq_false_iff.mpr eq;subst eq;rw [if_neg iF] at H;obtain ⟨n2,H⟩:=gI H;obtain ⟨n3,H⟩:=gI H;simp only [gV] at H
 obtain ⟨rfl,rfl,rfl,rfl,rfl,rfl⟩:=H;try go_wp2
 obtain ⟨jh,aa,a6,a7,eY,dB,a8,HB⟩:=p_ (Kd.bH jh.out) <| xR aa a6 a7 eY dB a8 HB;have gm:0≤(cx:Int):=aX aY;have gn:cx < (bg.length:Int):=aX aY;obtain ⟨dd,n4,d7,d8,d9⟩:=jV xK.out cx gm gn;have VL:=d9;have VK:=d8;have VJ:=d7;cases n4;replace d7:=fF HB.out d7;replace d8:=fF HB.out d8;replace d9:=fF HB.out d9;replace gm:=eq_true gm;replace gn:=eq_true gn;refine iU (n:=11) (S:=fun w'=>jE w' cj (.slice cf cd.length cg) <| jE w' dg (.slice (some dd) bg.length cl) <| uS w' (dd.add ((cx).toNat * 3)) (.string ((aB bg cx).f0)) (.bool ((aB bg cx).f1)) (.string ((aB bg cx).f2))) (ds:=[]) EK aC rfl rfl ⟨(aQ a8.out 0).trans rfl,(aQ a6.out 0).trans rfl,((HB.out.cell (World.block_lt_of_cell? w _ VJ)).trans VJ),((HB.out.cell (World.block_lt_of_cell? w _ VK)).trans VK),((HB.out.cell (World.block_lt_of_cell? w _ VL)).trans VL)⟩ (fun hH=>?_);refine kF (T:=oh.Rw) (B:=oh.QN) aC aC (fun aP fK=>?_);generalize wc.drew=e5 at jh aa a6 a7 eY dB a8 HB d7 d8 d9 hH ⊢;refine dF 1 116 #[F_,aj,F_,F_,F_,F_,F_,F_,F_,F_,F_] aP ?_;refine dF 3 118 #[F_,aj,F_,aj,F_,F_,F_,F_,F_,F_,F_] aP ?_;refine j_ 0 115 #[aj,aj,F_,aj,F_,F_,F_,F_,F_,F_,F_] aP fK hH ?_;refine kE 2 hH ?_;refine bM 4 ?_;refine bM 5 ?_;refine kE 6 hH ?_;refine bM 7 ?_;refine bM 8 ?_;refine oH 9 (fun K hK=>?_);have aBq:e5.cell? ⟨bb,0,none⟩=some (.slice none 0 0):=(aQ eY.out 0).trans rfl;have avu:=cZ eY.out 0;obtain ⟨dL,ap,ai,bh,b5,bi,aq,aH⟩:=iq ax am ae b2 af bD an ag;obtain ⟨bj,b6⟩:=gy b1 av;refine jD (w1:=?_) (by rfl) rfl ?_ ?_;rotate_left
 ·go_simp
  rfl
 refine hK.out _ _ ⟨(aG af hH.1),(aG am hH.2.1),((cell_far (p:=⟨bb,_,none⟩) (by first|exact Nat.ne_of_lt (Nat.lt_of_lt_of_le Eb cm.out)|(rw [add_block];exact Nat.ne_of_lt (Nat.lt_of_lt_of_le Eb cm.out))|(show (Addr.add _ _).block≠_;rw [add_block];exact Nat.ne_of_lt (Nat.lt_of_lt_of_le Eb cm.out))|(dsimp only;exact Nat.ne_of_lt (Nat.lt_of_lt_of_le Eb cm.out))) _).trans (hH.2.2.1)),((cell_far (p:=⟨bb,_,none⟩) (by first|exact Nat.ne_of_lt (Nat.lt_of_lt_of_le Ea cm.out)|(rw [add_block];exact Nat.ne_of_lt (Nat.lt_of_lt_of_le Ea cm.out))|(show (Addr.add _ _).block≠_;rw [add_block];exact Nat.ne_of_lt (Nat.lt_of_lt_of_le Ea cm.out))|(dsimp only;exact Nat.ne_of_lt (Nat.lt_of_lt_of_le Ea cm.out))) _).trans (hH.2.2.2.1)),((cell_far (p:=⟨bb,_,none⟩) (by first|exact Nat.ne_of_lt (Nat.lt_of_lt_of_le D_ cm.out)|(rw [add_block];exact Nat.ne_of_lt (Nat.lt_of_lt_of_le D_ cm.out))|(show (Addr.add _ _).block≠_;rw [add_block];exact Nat.ne_of_lt (Nat.lt_of_lt_of_le D_ cm.out))|(dsimp only;exact Nat.ne_of_lt (Nat.lt_of_lt_of_le D_ cm.out))) _).trans (hH.2.2.2.2))⟩ (fun hH=>?_);clear hK K;refine oH 10 (fun K hK=>?_);have aBr:e5.cell? ⟨ab,0,none⟩=some (ah 0):=(aQ dB.out 0).trans rfl;have avv:=cZ dB.out 0;obtain ⟨bl,ar,aO,b7,bm,aT,al,b8⟩:=iq az ac a9 a5 b0 ao aK aw;have aBs:e5.cell? ⟨ab,1,none⟩=some (.string (⟨#[]⟩:ByteArray)):=(aQ dB.out 1).trans rfl;have avw:=cZ dB.out 1;have aBt:e5.cell? ⟨ab,2,none⟩=some (ah 0):=(aQ dB.out 2).trans rfl;have avx:=cZ dB.out 2;have aBu:e5.cell? ⟨ab,3,none⟩=some (.bool false):=(aQ dB.out 3).trans rfl;have avy:=cZ dB.out 3;have aBv:e5.cell? ⟨ab,4,none⟩=some (.slice none 0 0):=(aQ dB.out 4).trans rfl;have avz:=cZ dB.out 4;refine jD (w1:=?_) (by rfl) rfl ?_ ?_;rotate_left
 ·go_simp
  rfl
 refine hK.out _ _ ⟨(aG a5 (aG a5 (aG a5 (aG a5 (aG a5 hH.1))))),(aG ac (aG ac (aG ac (aG ac (aG ac hH.2.1))))),((cell_far (p:=⟨ab,_,none⟩) MX _).trans (((cell_far (p:=⟨ab,_,none⟩) MX _).trans (((cell_far (p:=⟨ab,_,none⟩) MX _).trans (((cell_far (p:=⟨ab,_,none⟩) MX _).trans (((cell_far (p:=⟨ab,_,none⟩) MX _).trans (hH.2.2.1)))))))))),((cell_far (p:=⟨ab,_,none⟩) MW _).trans (((cell_far (p:=⟨ab,_,none⟩) MW _).trans (((cell_far (p:=⟨ab,_,none⟩) MW _).trans (((cell_far (p:=⟨ab,_,none⟩) MW _).trans (((cell_far (p:=⟨ab,_,none⟩) MW _).trans (hH.2.2.2.1)))))))))),((cell_far (p:=⟨ab,_,none⟩) MV _).trans (((cell_far (p:=⟨ab,_,none⟩) MV _).trans (((cell_far (p:=⟨ab,_,none⟩) MV _).trans (((cell_far (p:=⟨ab,_,none⟩) MV _).trans (((cell_far (p:=⟨ab,_,none⟩) MV _).trans (hH.2.2.2.2))))))))))⟩ (fun hH=>?_);clear hK K;refine jd (kC aP.out aC) ?_;try go_wp2
 refine bodyPost_ret (jq rfl _ _ bb ab 28 49 #[.slice cf cd.length cg] #[ah 0,.string (⟨#[]⟩:ByteArray),ah (((aB bg cx).f2).size:Int),.bool false,.slice none 0 0] (0,0) (0,0) _ _ rfl bf underlying28 rfl aC rfl bf underlying49 rfl aC) rfl ?_;exact ⟨_,_,bK,Gh,lH,ay⟩

def BD.f (a5:Int) (a6:Int) (a7:Int) (a8:Int):Option (Int × Int × Int × Int):=some (a5,a6,a7,a8)
theorem BD.calls (ae:Int) (af:Int) (ag:Int) (aK:Int) (r1:Int) (r2:Int) (r3:Int) (r4:Int) (w:World) (h:BD.f ae af ag aK=some (r1,r2,r3,r4)) :
  Calls Tryz.prog 30 #[.agg #[ah ae,ah af,ah ag,ah aK]] w fun e w'=>e=.returned (.agg #[ah r1,ah r2,ah r3,ah r4])∧Below w.heap.size w w':=by
 have alT:=underlying54;have LV:=underlying25;have HB:=m_ (Below.refl w.heap.size w);unfold BD.f at h
 have H:=h;clear h;simp only [gV] at H
 obtain ⟨rfl,rfl,rfl,rfl⟩:=H;go_enter func30,ntmps30
 go_wp2_with (first|((with_reducible refine dJ 1 ?_);refine dO 1 (cs:=#[ah ae,ah af,ah ag,ah aK]) 54 ?_;intro aO hg w2 hbox hb;obtain ⟨HB,a5,al,am⟩:=jR ay hb hbox hg;clear hb hbox hg)|((with_reducible refine dJ 2 ?_);refine dO 2 (cs:=#[ah 0,ah 0,ah 0,ah 0]) 25 ?_;intro ai hg w3 hbox hb;obtain ⟨a5,HB,a6,an,ao,a7,a8⟩:=oO (au a5) ay hb hbox hg;clear hb hbox hg)|((with_reducible refine dJ 3 ?_);refine dO 3 (cs:=#[ah 0,ah 0,ah 0,ah 0]) 25 ?_;intro ap hg w4 hbox hb;obtain ⟨a5,a6,HB,aH,aq,ar,a9,aa,ab,ac⟩:=rP (au a5) (au a6) ay hb hbox hg;clear hb hbox hg;obtain ⟨aT,av,aw,ax⟩:=iD a7 a8 a9 aa;have b1:=EI a5.out;obtain ⟨bD,az⟩:=gy ac ab;have b2:=EI aH.out;have b0:=EI a6.out))
 refine bodyPost_ret (results_cell_row rfl _ _ ai 25 #[ah ae,ah af,ah ag,ah aK] (0,0) _ rfl bf underlying25 rfl aC) rfl ?_;exact ⟨bK,ay⟩

def MC.f (a5:ByteArray) (a6:Bool) (a7:ByteArray):Option (ByteArray × Bool × ByteArray):=some (a5,a6,a7)
theorem MC.calls (ae:ByteArray) (af:Bool) (ag:ByteArray) (r1:ByteArray) (r2:Bool) (r3:ByteArray) (w:World) (h:MC.f ae af ag=some (r1,r2,r3)) :
  Calls Tryz.prog 127 #[.agg #[.string ae,.bool af,.string ag]] w fun e w'=>e=.returned (.agg #[.string r1,.bool r2,.string r3])∧Below w.heap.size w w':=by
 have VH:=underlying120;have tX:=underlying43;have HB:=m_ (Below.refl w.heap.size w);unfold MC.f at h
 have H:=h;clear h;simp only [gV] at H
 obtain ⟨rfl,rfl,rfl⟩:=H;go_enter func127,ntmps127
 go_wp2_with (first|((with_reducible refine dJ 1 ?_);refine dO 1 (cs:=#[.string ae,.bool af,.string ag]) 120 ?_;intro aH hg w2 hbox hb;obtain ⟨HB,a5,aO,al⟩:=jR ay hb hbox hg;clear hb hbox hg)|((with_reducible refine dJ 2 ?_);refine dO 2 (cs:=#[.string (⟨#[]⟩:ByteArray),.bool false,.string (⟨#[]⟩:ByteArray)]) 43 ?_;intro aK hg w3 hbox hb;obtain ⟨a5,HB,a6,am,an,a7,a8⟩:=oO (au a5) ay hb hbox hg;clear hb hbox hg)|((with_reducible refine dJ 3 ?_);refine dO 3 (cs:=#[.string (⟨#[]⟩:ByteArray),.bool false,.string (⟨#[]⟩:ByteArray)]) 43 ?_;intro ao hg w4 hbox hb;obtain ⟨a5,a6,HB,ai,ap,aq,a9,aa,ab,ac⟩:=rP (au a5) (au a6) ay hb hbox hg;clear hb hbox hg;obtain ⟨ar,aT,av,aw⟩:=iD a7 a8 a9 aa;have b0:=qj a5.out;obtain ⟨ax,bD⟩:=gy ac ab;have b1:=qj ai.out;have az:=qj a6.out))
 refine bodyPost_ret (results_cell_row rfl _ _ aK 43 #[.string ae,.bool af,.string ag] (0,0) _ rfl bf underlying43 rfl aC) rfl ?_;exact ⟨bK,ay⟩

def xq.l0:Nat→List (nY)→List (aF)→Int→Option ((List (aF)))
 | 0,_,_,_=>none
 | k+1,x0,x3,x4=>if x4 < (x0.length:Int) then (if 0≤x4 then ((MC.f ((tZ x0 x4).f0) ((tZ x0 x4).f1) ((tZ x0 x4).f2)).bind fun a5=>(if x4 < (x3.length:Int) then (xq.l0 k x0 (x3.set (x4:Int).toNat (⟨a5.1,a5.2.1,a5.2.2⟩:aF)) (wrap64 (x4+1))) else (none))) else (none)) else (some x3)
def xq.f (k:Nat) (l0:List (nY)):Option ((List (aF))):=if 0≤(l0.length:Int) then (if ((l0.length:Int):Int).toNat≤7036874417766 then (xq.l0 k l0 (List.replicate ((l0.length:Int):Int).toNat z43) 0) else (none)) else (none)
theorem xq.calls (k:Nat) (A0:Option Addr) (c0:Nat) (l0:List (nY)) (r:List (aF)) (w:World) (hr0:Kd.C DL w A0 l0.length l0) (hc0:l0.length≤c0) (h:xq.f k l0=some r) :
  Calls Tryz.prog 80 #[.slice A0 l0.length c0] w fun e w'=>∃ fC:Value,e=.returned (fC)∧Kd.R aS 43 w' w.heap.size (fun _=>True) fC r∧Below w.heap.size w w':=by
 have VH:=underlying120;have tX:=underlying43;have HR0:=m_ hr0;have cd:=m_ hc0;clear hr0 hc0;have HB:=m_ (Below.refl w.heap.size w);unfold xq.f at h
 have H:=h;clear h;obtain ⟨bc,bd,H⟩:=jF H;obtain ⟨be,fA,H⟩:=jF H;obtain ⟨b1,aO⟩:∃ y_:List (aF),y_=(List.replicate ((l0.length:Int):Int).toNat z43):=⟨_,rfl⟩;rw [← aO] at H;have an:=m_ aO;clear aO;have H':=m_ H;clear H;go_enter func80,ntmps80
 go_wp2_with (first|((with_reducible refine dJ 7 ?_);refine Kd.XW aS _ 43 rfl (N:=7) rfl 26 _ _ rfl (l0.length:Int) rfl rfl underlying26 (.agg #[(.string ⟨#[]⟩),(.bool false),(.string ⟨#[]⟩)]) 40 q_ rfl (by decide) (by omega) z43 (ok:=fun _=>True) (jG:=fun _=>True) (qU _ _ _ z43 ) (fun _ hk=>hk) trivial (aX aY) (Nat.le_trans (Nat.mul_le_mul_right _ (aX aY:(l0.length:Int).toNat≤7036874417766)) (by omega)) (Below.refl _ _) (Nat.le_refl _) ?_;intro aoU w4 Ag hb mF mG;clear mF mG;(first|rw [← an.out] at Ag|(simp only [Int.reduceToNat] at Ag;rw [← an.out] at Ag));obtain ⟨b2,HB⟩:=p_ (Kd.dR Ag (bU ay)) <| a_ (dV ay hb);clear hb Ag))
 go_loopg [4] k (fun kq v4 w'=>∃ (a6:List (aF)) (a5:Int),v4=ah a5∧aA (xq.l0 kq l0 a6 a5=some r)∧aA (kq≤k)∧aA (Kd.R aS 43 w' w.heap.size (fun _=>True) aoU a6)∧aA (Below w.heap.size w w'))
 case atStart=>exact ⟨(b1),(0),bC,H',⟨Nat.le_refl _⟩,⟨(aN b2)⟩,⟨ay⟩⟩
 case round =>
 clear H';try clear c2;try clear bc;try clear bd;try clear c3;try clear be;try clear fA
 obtain ⟨a6,a5,rfl,HA,gG,a7,HB⟩:=hrel;cases gk with
 | zero=>exact absurd HA.out (by simp [xq.l0])
 | succ k1 =>
 obtain ⟨H⟩:=HA;simp only [xq.l0] at H
 revert H;refine fB (fun dL H=>?_) fun dL H=>?_;rotate_left
 ·obtain rfl:=bQ H;go_wp2
  go_ret
  exact ⟨_,bK,(aN a7),ay⟩
 obtain ⟨bv,H⟩:=gI H;obtain ⟨⟨aK,ai,aH⟩,Ko,H⟩:=bd_ H;obtain ⟨bw,H⟩:=gI H;obtain ⟨ap,al⟩:∃ y_:List (aF),y_=(a6.set (a5:Int).toNat (⟨aK,ai,aH⟩:aF)):=⟨_,rfl⟩;rw [← al] at H;have b3:=m_ al;clear al;have H':=m_ H;clear H;have aq:0≤(a5:Int):=aX aY;have ar:a5 < (l0.length:Int):=aX aY;obtain ⟨bu,bh,aa,ab,ac⟩:=X5 HR0.out a5 aq ar;cases bh;replace aa:=fF HB.out aa;replace ab:=fF HB.out ab;replace ac:=fF HB.out ac;replace aq:=eq_true aq;replace ar:=eq_true ar;go_wp2_with (first|((with_reducible refine cu 127 ?_);refine cO (some 20) rfl rfl func127 aC rfl #[.agg #[.string ((tZ l0 a5).f0),.bool ((tZ l0 a5).f1),.string ((tZ l0 a5).f2)]] rfl bJ ?_;(with_reducible refine (MC.calls ((tZ l0 a5).f0) ((tZ l0 a5).f1) ((tZ l0 a5).f2) aK ai aH _ Ko.out).mono ?_);rintro e am ⟨rfl,hb⟩;refine ⟨_,rfl,?_⟩;obtain ⟨a7,HB⟩:=p_ (Kd.bG (aN a7) hb) <| a_ (dV ay hb);(try clear hb);have bi:0≤(a5:Int):=aX aY;have bj:(a5:Int) < ((a6.length:Int):Int):=aX aY;obtain ⟨a8,b4,b5,b6,bl,bx,b7⟩:=Kd.xQ a7.out (by omega);(first|cases b5|(injection b5 with jA sQ sO;(first|subst jA|(injection jA with jA;subst jA));subst sO;clear sQ));have aT:=m_ b6;have bz:=m_ b7;clear b6 bl b7;obtain ⟨ca,b8,b9,ae,af⟩:=Kd.nX a7.out z43 (a5:Int) bi bj;obtain rfl:=og b9;have bm:am.cell? ⟨a8,(a5:Int).toNat * 3,none⟩=some (.string ((aB a6 a5).f0)):=ae 0 _ rfl;have fG:am.cell? ⟨a8,(a5:Int).toNat * 3+1,none⟩=some (.bool ((aB a6 a5).f1)):=ae 1 _ rfl;have bo:am.cell? ⟨a8,(a5:Int).toNat * 3+2,none⟩=some (.string ((aB a6 a5).f2)):=ae 2 _ rfl;have bp:am.frozen? ⟨a8,(a5:Int).toNat * 3,none⟩=false:=af 0;have bq:am.frozen? ⟨a8,(a5:Int).toNat * 3+1,none⟩=false:=af 1;have br:am.frozen? ⟨a8,(a5:Int).toNat * 3+2,none⟩=false:=af 2;clear b8 ae af b9;replace bi:=eq_true bi;replace bj:=eq_true bj;have ba:=m_ (show Kd.R aS 43 am w.heap.size (fun _=>True) (.slice (some ⟨a8,0,none⟩) a6.length b4) a6 from (aN a7));obtain ⟨cc,ao,bb,a9,ag⟩:=Kd.nX ba.out z43 (a5:Int) (aX aY) (by have bI:(a5:Int) < ((a6.length:Int):Int):=aX aY;first|exact bI|(have e_:=(Kd.dn a7.out).1;omega)|simpa using bI);obtain rfl:=og bb;have QV:=Kd.vW ba.out (a5:Int) (aX aY) (by have bI:(a5:Int) < ((a6.length:Int):Int):=aX aY;first|exact bI|(have e_:=(Kd.dn a7.out).1;omega)|simpa using bI) (seg:=[.string aK,.bool ai,.string aH]) (j:=0) ao a9 (show 3≤3 from by decide) (x':=(⟨aK,ai,aH⟩:aF)) (qU _ _ _ (⟨aK,ai,aH⟩:aF) ) (fun _ hk=>hk);have av:=a9 0 _ rfl;(try simp only [show (aS).sz=3 from rfl,Nat.mul_one,Nat.add_zero] at av);have aw:=ag 0;(try simp only [show (aS).sz=3 from rfl,Nat.mul_one,Nat.add_zero] at aw);have ax:=a9 1 _ rfl;(try simp only [show (aS).sz=3 from rfl,Nat.mul_one,Nat.add_zero] at ax);have bD:=ag 1;(try simp only [show (aS).sz=3 from rfl,Nat.mul_one,Nat.add_zero] at bD);have az:=a9 2 _ rfl;(try simp only [show (aS).sz=3 from rfl,Nat.mul_one,Nat.add_zero] at az);have b0:=ag 2;(try simp only [show (aS).sz=3 from rfl,Nat.mul_one,Nat.add_zero] at b0);clear ao a9 ag bb)|((with_reducible refine DF (t:=43) (p:=21) rfl ?_);refine D8 (t:=43) (p:=21) (v:=?aD0) (w1:=(((am.setCell ⟨a8,(a5:Int).toNat * 3,none⟩ (.string aK)).setCell ⟨a8,(a5:Int).toNat * 3+1,none⟩ (.bool ai)).setCell ⟨a8,(a5:Int).toNat * 3+2,none⟩ (.string aH))) ?hg ?ho ?hn ?hr ?_;(case ho=>rfl);(case hg=>rfl);(case hn=>rfl);(case hr=>first|(go_simp;done)|(go_simp;rfl));intro bs hw;have hg:am.grownBy bs (some a8):=(by rw [hw];exact QV.2);have uP:Kd.R aS 43 bs w.heap.size (fun _=>True) (.slice (some ⟨a8,0,none⟩) a6.length b4) ap:=(by rw [hw,b3.out];exact QV.1);clear QV;have ji:=p_ (uP) <| a_ ((by rw [hw];exact jy (jy (jy (HB.out) aT.out) aT.out) aT.out:Below w.heap.size w bs));clear a7 HB;obtain ⟨a7,HB⟩:=ji;clear hg hw uP))
 go_roundg k1
 case measure=>have:=gG.out;omega
 case rel=>exact ⟨(ap),(wrap64 (a5+1)),bC,H',⟨oz⟩,⟨(aN a7)⟩,⟨ay⟩⟩

def yM.f (k:Nat) (a5:List (nY)):Option ((List (aF))):=(xq.f k a5).bind fun a6=>(some a6)
theorem yM.calls (k:Nat) (af:Option Addr) (ag:Nat) (aI:List (nY)) (r:List (aF)) (w:World) (aK:Kd.C DL w af aI.length aI) (ai:aI.length≤ag) (h:yM.f k aI=some r) :
  Calls Tryz.prog 31 #[.agg #[.slice af aI.length ag]] w fun e w'=>∃ fC:Value,e=.returned (.agg #[fC])∧Kd.R aS 43 w' w.heap.size (fun _=>True) fC r∧Below w.heap.size w w':=by
 have aaU:=underlying57;have nT:=underlying28;have lg:=m_ aK;have aO:=m_ ai;clear aK ai;have HB:=m_ (Below.refl w.heap.size w);unfold yM.f at h
 have H:=h;clear h;obtain ⟨al,A2,H⟩:=bd_ H;obtain rfl:=bQ H;go_enter func31,ntmps31
 go_wp2_with (first|((with_reducible refine dJ 1 ?_);refine dO 1 (cs:=#[.slice af aI.length ag]) 57 ?_;intro aq hg w3 hbox hb;obtain ⟨HB,a5,ar,aT⟩:=jR ay hb hbox hg;clear hb hbox hg)|((with_reducible refine dJ 2 ?_);refine dO 2 (cs:=#[.slice none 0 0]) 28 ?_;intro am hg w4 hbox hb;obtain ⟨a5,HB,a6,av,aw,a8,a9⟩:=oO (au a5) ay hb hbox hg;clear hb hbox hg)|((with_reducible refine dJ 3 ?_);refine dO 3 (cs:=#[.slice none 0 0]) 28 ?_;intro ax hg w5 hbox hb;obtain ⟨a5,a6,HB,a7,bD,az,aa,ab,ac,ae⟩:=rP (au a5) (au a6) ay hb hbox hg;clear hb hbox hg;obtain ⟨b2,b3,b4,b5⟩:=iD a8 a9 aa ab;have y7:=bZ a5.out)|((with_reducible refine cu 80 ?_);refine cO (some 6) rfl rfl func80 aC rfl #[.slice af aI.length ag] rfl bJ ?_;(with_reducible refine (xq.calls k _ _ aI al _ qp aO.out A2.out).mono ?_);rintro e w9 ⟨aDW,rfl,ho0,hb⟩;refine ⟨_,rfl,?_⟩;obtain ⟨aH,a5,a6,a7,HB⟩:=p_ (Kd.dR ho0 (bU ay)) <| mP (au a5) (au a6) (au a7) ay hb;(try clear hb);(try clear ho0);obtain ⟨an,ao,ap⟩:=Kd.dN aH.out;subst ap;obtain ⟨b0,b1⟩:=gy ae ac;have Ei:=bZ a7.out;have Dc:=bZ a6.out))
 refine bodyPost_ret (results_cell_row rfl _ _ am 28 #[.slice an al.length ao] (0,0) _ rfl bf underlying28 rfl aC) rfl ?_;exact ⟨_,bK,(by (with_reducible repeat (first|apply Kd.bW|apply Kd.bY|apply Kd.bH));exact Kd.bF (aJ (aJ (Kd.bV (Kd.bV aH.out a7.out (by decide)) a6.out (by decide)) (fun _ hk=>hk.1.2))) (fun _ hk=>trivial)),ay⟩

def BA.f (a5:Int) (a6:ByteArray) (a7:ByteArray) (a8:Int) (a9:Int) (aa:ByteArray):Option (Int × ByteArray × ByteArray × Int × Int × ByteArray):=some (a5,a6,a7,a8,a9,aa)
theorem BA.calls (ae:Int) (af:ByteArray) (ag:ByteArray) (aK:Int) (ai:Int) (aH:ByteArray) (r1:Int) (r2:ByteArray) (r3:ByteArray) (r4:Int) (r5:Int) (r6:ByteArray) (w:World) (h:BA.f ae af ag aK ai aH=some (r1,r2,r3,r4,r5,r6)) :
  Calls Tryz.prog 32 #[.agg #[ah ae,.string af,.string ag,ah aK,ah ai,.string aH]] w fun e w'=>e=.returned (.agg #[ah r1,.string r2,.string r3,ah r4,ah r5,.string r6])∧Below w.heap.size w w':=by
 have aaV:=underlying58;have Fb:=underlying45;have HB:=m_ (Below.refl w.heap.size w);unfold BA.f at h
 have H:=h;clear h;simp only [gV] at H
 obtain ⟨rfl,rfl,rfl,rfl,rfl,rfl⟩:=H;go_enter func32,ntmps32
 go_wp2_with (first|((with_reducible refine dJ 1 ?_);refine dO 1 (cs:=#[ah ae,.string af,.string ag,ah aK,ah ai,.string aH]) 58 ?_;intro am hg w2 hbox hb;obtain ⟨HB,a5,an,ao⟩:=jR ay hb hbox hg;clear hb hbox hg)|((with_reducible refine dJ 2 ?_);refine dO 2 (cs:=#[ah 0,.string (⟨#[]⟩:ByteArray),.string (⟨#[]⟩:ByteArray),ah 0,ah 0,.string (⟨#[]⟩:ByteArray)]) 45 ?_;intro aO hg w3 hbox hb;obtain ⟨a5,HB,a6,ap,aq,a7,a8⟩:=oO (au a5) ay hb hbox hg;clear hb hbox hg)|((with_reducible refine dJ 3 ?_);refine dO 3 (cs:=#[ah 0,.string (⟨#[]⟩:ByteArray),.string (⟨#[]⟩:ByteArray),ah 0,ah 0,.string (⟨#[]⟩:ByteArray)]) 45 ?_;intro ar hg w4 hbox hb;obtain ⟨a5,a6,HB,al,aT,av,a9,aa,ab,ac⟩:=rP (au a5) (au a6) ay hb hbox hg;clear hb hbox hg;obtain ⟨aw,ax,bD,az⟩:=iD a7 a8 a9 aa;have b3:=mg a5.out;obtain ⟨b0,b1⟩:=gy ac ab;have b4:=mg al.out;have b2:=mg a6.out))
 refine bodyPost_ret (results_cell_row rfl _ _ aO 45 #[ah ae,.string af,.string ag,ah aK,ah ai,.string aH] (0,0) _ rfl bf underlying45 rfl aC) rfl ?_;exact ⟨bK,ay⟩

def FN.f (a5:ByteArray) (a6:Bool) (a7:ByteArray) (a8:ByteArray) (a9:Bool) (aa:ByteArray):Option (Bool):=if a5.toList=a8.toList then (if (a6 != a9)=true then (some false) else (if a7.toList=aa.toList then (some true) else (some false))) else (some false)
theorem FN.calls (aK:ByteArray) (a5:Bool) (ai:ByteArray) (iW:ByteArray) (iC:Bool) (iM:ByteArray) (r:Bool) (w:World) (h:FN.f aK a5 ai iW iC iM=some r) :
  Calls Tryz.prog 128 #[.agg #[.string aK,.bool a5,.string ai],.agg #[.string iW,.bool iC,.string iM]] w fun e w'=>e=.returned (.bool r)∧Below w.heap.size w w':=by
 have tX:=underlying43;have HB:=m_ (Below.refl w.heap.size w);unfold FN.f at h
 have H:=h;clear h;have aw:=m_ H;clear H;go_enter func128,ntmps128
 go_upto_if 9 with (first|((with_reducible refine dJ 2 ?_);refine dO 2 (cs:=#[.string aK,.bool a5,.string ai]) 43 ?_;intro ax hg w4 hbox hb;obtain ⟨HB,a9,bD,az⟩:=jR ay hb hbox hg;clear hb hbox hg)|((with_reducible refine dJ 3 ?_);refine dO 3 (cs:=#[.string iW,.bool iC,.string iM]) 43 ?_;intro b0 hg w5 hbox hb;obtain ⟨a9,HB,ab,b1,b2,a6,a7⟩:=oO (au a9) ay hb hbox hg;clear hb hbox hg;obtain ⟨b8,b9⟩:=gy a6 a7;have b3:=qj a9.out;have b4:=qj ab.out))
 (try simp only [fM])
 (try clear b3)
 (try clear b4)
 obtain ⟨H⟩:=aw;revert H;refine eU (fun c9 H=>?_) fun c9 H=>?_;rotate_left
 ·have ac:=fZ c9;have av:=f_ c9;try simp only [aV,aZ,ac]
  obtain rfl:=bQ H;go_wp2
  go_ret
  exact ⟨bK,ay⟩
 have ac:=fU c9;have av:=fV c9;clear c9;try simp only [aV,aZ,ac]
 have aO:=m_ H;clear H;obtain ⟨b5,b6⟩:=gy a6 a7;have al:=qj a9.out;have am:=qj ab.out;go_upto_if 14 with (fail)
 (try clear al)
 (try clear am)
 obtain ⟨H⟩:=aO;revert H;refine eU (fun ae H=>?_) fun ae H=>?_
 ·have a8:(a5 != iC)=true:=ae;(try (have an:decide (a5=iC)=false:=by simpa using ae))
  (try (have ao:(a5 == iC)=false:=by simpa using ae))
  (try (have b7:¬ (a5=iC):=by simpa using ae))
  clear ae;(first|rw [a8]|(simp only [aV,aZ];rw [a8])|rw [show (!(a5 == iC))=true from a8]|skip)
  obtain rfl:=bQ H;go_wp2
  go_ret
  exact ⟨bK,ay⟩
 have a8:(a5 != iC)=false:=by simpa using ae
 (try (have an:decide (a5=iC)=true:=by simpa using ae))
 (try (have ao:(a5 == iC)=true:=by simpa using ae))
 clear ae;(first|rw [a8]|(simp only [aV,aZ];rw [a8])|rw [show (!(a5 == iC))=false from a8]|skip)
 have ap:=m_ H;clear H;have aq:=qj a9.out;have ar:=qj ab.out;go_upto_if 19 with (fail)
 (try clear af ag)
 (try clear aq)
 (try clear ar)
 obtain ⟨H⟩:=ap;revert H;refine eU (fun aH H=>?_) fun aH H=>?_;rotate_left
 ·have aa:=fZ aH;have aT:=f_ aH;try simp only [aV,aZ,aa]
  obtain rfl:=bQ H;go_wp2
  go_ret
  exact ⟨bK,ay⟩
 have aa:=fU aH;have aT:=fV aH;clear aH;try simp only [aV,aZ,aa]
 obtain rfl:=bQ H;go_wp2
 go_ret
 exact ⟨bK,ay⟩

def uQ.l0:Nat→List (aF)→List (aF)→Int→Option (Bool)
 | 0,_,_,_=>none
 | k+1,x0,x1,x5=>if x5 < (x0.length:Int) then (if 0≤x5 then (if x5 < (x1.length:Int) then ((FN.f ((aB x0 x5).f0) ((aB x0 x5).f1) ((aB x0 x5).f2) ((aB x1 x5).f0) ((aB x1 x5).f1) ((aB x1 x5).f2)).bind fun a5=>(if a5=true then (uQ.l0 k x0 x1 (wrap64 (x5+1))) else (some false))) else (none)) else (none)) else (some true)
def uQ.f (k:Nat) (l0:List (aF)) (l1:List (aF)):Option (Bool):=if (l0.length:Int)=(l1.length:Int) then (uQ.l0 k l0 l1 0) else (some false)
def uQ.T6:Bool × List (List Nat × List Nat):=(true,[([],[]),([],[]),([0,1],[0,1]),([2],[2]),([],[]),([],[]),([4,5],[4,5]),([6],[6]),([3,7],[3,7]),([8],[8])])
def uQ.B6:List Nat:=[0,0,3,7,0,0,48,112,255,511]
theorem uQ.calls (k:Nat) (A0:Option Addr) (c0:Nat) (l0:List (aF)) (A1:Option Addr) (c1:Nat) (l1:List (aF)) (r:Bool) (w:World) (hr0:Kd.C aS w A0 l0.length l0) (hc0:l0.length≤c0) (hr1:Kd.C aS w A1 l1.length l1) (hc1:l1.length≤c1) (h:uQ.f k l0 l1=some r) :
  Calls Tryz.prog 81 #[.slice A0 l0.length c0,.slice A1 l1.length c1] w fun e w'=>e=.returned (.bool r)∧Below w.heap.size w w':=by
 have tX:=underlying43;have HR0:=m_ hr0;have b3:=m_ hc0;clear hr0 hc0;have b0:=m_ hr1;have b4:=m_ hc1;clear hr1 hc1;have HB:=m_ (Below.refl w.heap.size w);unfold uQ.f at h
 have H:=h;clear h;revert H;refine eU (fun c3 H=>?_) fun c3 H=>?_;rotate_left
 ·have ap:=fZ c3;have aq:=f_ c3;have ar:(l0.length == l1.length)=false:=by first|simpa using c3|(simp at c3 ⊢;omega)
  obtain rfl:=bQ H;go_enter func81,ntmps81
  go_wp2
  go_ret
  exact ⟨bK,ay⟩
 have ap:=fU c3;have aq:=fV c3;have ar:(l0.length == l1.length)=true:=by first|simpa using c3|(simp at c3 ⊢;omega)
 clear c3;have H':=m_ H;clear H;go_enter func81,ntmps81
 go_wp2
 go_loopg [5] k (fun kq v5 w'=>∃ (a5:Int),v5=ah a5∧aA (uQ.l0 kq l0 l1 a5=some r)∧aA (kq≤k)∧aA (Below w.heap.size w w'))
 case atStart=>exact ⟨(0),bC,H',⟨Nat.le_refl _⟩,⟨ay⟩⟩
 case round =>
 clear H';try clear c1;try clear c3;try clear ap;try clear aq;try clear ar
 obtain ⟨a5,rfl,HA,gG,HB⟩:=hrel;cases gk with
 | zero=>exact absurd HA.out (by simp [uQ.l0])
 | succ k1 =>
 obtain ⟨H⟩:=HA;simp only [uQ.l0] at H
 revert H;refine fB (fun aw H=>?_) fun aw H=>?_;rotate_left
 ·obtain rfl:=bQ H;go_wp2
  go_ret
  exact ⟨bK,ay⟩
 obtain ⟨b1,H⟩:=gI H;obtain ⟨b2,H⟩:=gI H;obtain ⟨aT,A7,H⟩:=bd_ H;have az:=m_ H;clear H;try go_wp2
 have dH:=m_ (nZ HB.out);clear HB;have HB:=dH;clear dH;have al:0≤(a5:Int):=aX aY;have am:a5 < (l0.length:Int):=aX aY;obtain ⟨aH,ax,a6,a7,a8⟩:=jV HR0.out a5 al am;have ac:=a8;have ae:=a7;have af:=a6;cases ax;replace a6:=fF HB.out a6;replace a7:=fF HB.out a7;replace a8:=fF HB.out a8;replace al:=eq_true al;replace am:=eq_true am;have an:0≤(a5:Int):=aX aY;have ao:a5 < (l1.length:Int):=aX aY;obtain ⟨aO,bD,a9,aa,ab⟩:=jV b0.out a5 an ao;have ag:=ab;have aK:=aa;have ai:=a9;cases bD;replace a9:=fF HB.out a9;replace aa:=fF HB.out aa;replace ab:=fF HB.out ab;replace an:=eq_true an;replace ao:=eq_true ao;refine iU (n:=10) (S:=fun w'=>Kq w' (aH.add ((a5).toNat * 3)) (.string ((aB l0 a5).f0)) (.bool ((aB l0 a5).f1)) (.string ((aB l0 a5).f2)) <| uS w' (aO.add ((a5).toNat * 3)) (.string ((aB l1 a5).f0)) (.bool ((aB l1 a5).f1)) (.string ((aB l1 a5).f2))) (ds:=[]) RV aC rfl rfl ⟨((HB.out.cell (World.block_lt_of_cell? w _ af)).trans af),((HB.out.cell (World.block_lt_of_cell? w _ ae)).trans ae),((HB.out.cell (World.block_lt_of_cell? w _ ac)).trans ac),((HB.out.cell (World.block_lt_of_cell? w _ ai)).trans ai),((HB.out.cell (World.block_lt_of_cell? w _ aK)).trans aK),((HB.out.cell (World.block_lt_of_cell? w _ ag)).trans ag)⟩ (fun hH=>?_);refine kF (T:=uQ.T6) (B:=uQ.B6) aC aC (fun aP fK=>?_);generalize wr.drew=w9 at HB a6 a7 a8 a9 aa ab hH ⊢;refine dF 0 17 #[aj,F_,F_,F_,F_,F_,F_,F_,F_,F_] aP ?_;refine dF 1 18 #[aj,aj,F_,F_,F_,F_,F_,F_,F_,F_] aP ?_;refine dF 2 19 #[aj,aj,aj,F_,F_,F_,F_,F_,F_,F_] aP ?_;refine dF 4 21 #[aj,aj,aj,F_,aj,F_,F_,F_,F_,F_] aP ?_;refine dF 5 22 #[aj,aj,aj,F_,aj,aj,F_,F_,F_,F_] aP ?_;refine dF 6 23 #[aj,aj,aj,F_,aj,aj,aj,F_,F_,F_] aP ?_;refine kE 3 hH ?_;refine kE 7 hH ?_;refine oH 8 (fun K hK=>?_);refine jw func128 aC rfl #[.agg #[.string ((aB l0 a5).f0),.bool ((aB l0 a5).f1),.string ((aB l0 a5).f2)],.agg #[.string ((aB l1 a5).f0),.bool ((aB l1 a5).f1),.string ((aB l1 a5).f2)]] (by rfl) rfl rfl bJ ?_
 with_reducible refine (FN.calls ((aB l0 a5).f0) ((aB l0 a5).f1) ((aB l0 a5).f2) ((aB l1 a5).f0) ((aB l1 a5).f1) ((aB l1 a5).f2) aT _ A7.out).mono ?_
 rintro e b5 ⟨rfl,hb⟩;refine ⟨_,rfl,?_⟩;have dH:=m_ (dV ay hb);clear HB;have HB:=dH;clear dH;(try clear hb)
 refine hK.out _ _ ⟨((HB.out.cell (World.block_lt_of_cell? w _ af)).trans af),((HB.out.cell (World.block_lt_of_cell? w _ ae)).trans ae),((HB.out.cell (World.block_lt_of_cell? w _ ac)).trans ac),((HB.out.cell (World.block_lt_of_cell? w _ ai)).trans ai),((HB.out.cell (World.block_lt_of_cell? w _ aK)).trans aK),((HB.out.cell (World.block_lt_of_cell? w _ ag)).trans ag)⟩ (fun hH=>?_);clear hK K;refine gY (some 25) ?_;refine bM 9 ?_;refine jd (kC aP.out aC) ?_;go_upto_if 26 with (fail)
 (try clear a6 a7 a8)
 (try clear a9 aa ab)
 obtain ⟨H⟩:=az;by_cases av:aT=true
 rotate_left
 ·replace av:=Bool.eq_false_iff.mpr av;subst av;rw [if_neg iF] at H;obtain rfl:=bQ H;go_wp2
  go_ret
  exact ⟨bK,ay⟩
 subst av;rw [if_pos rfl] at H;have H':=m_ H;clear H;go_wp2
 go_roundg k1
 case measure=>have:=gG.out;omega
 case rel=>exact ⟨(wrap64 (a5+1)),bC,H',⟨oz⟩,⟨ay⟩⟩

def wG.f (k:Nat) (a5:List (aF)) (a6:List (aF)):Option (Bool):=(uQ.f k a5 a6).bind fun a7=>(if a7=true then (some true) else (some false))
theorem wG.calls (k:Nat) (a9:Option Addr) (aa:Nat) (aI:List (aF)) (ab:Option Addr) (ac:Nat) (bg:List (aF)) (r:Bool) (w:World) (ae:Kd.C aS w a9 aI.length aI) (af:aI.length≤aa) (ag:Kd.C aS w ab bg.length bg) (aK:bg.length≤ac) (h:wG.f k aI bg=some r) :
  Calls Tryz.prog 33 #[.agg #[.slice a9 aI.length aa],.agg #[.slice ab bg.length ac]] w fun e w'=>e=.returned (.bool r)∧Below w.heap.size w w':=by
 have nT:=underlying28;have lg:=m_ ae;have ai:=m_ af;clear ae af;have xK:=m_ ag;have aH:=m_ aK;clear ag aK;have HB:=m_ (Below.refl w.heap.size w);unfold wG.f at h
 have H:=h;clear h;obtain ⟨aO,A3,H⟩:=bd_ H;have am:=m_ H;clear H;go_enter func33,ntmps33
 go_upto_if 10 with (first|((with_reducible refine dJ 2 ?_);refine dO 2 (cs:=#[.slice a9 aI.length aa]) 28 ?_;intro an hg w5 hbox hb;obtain ⟨HB,a5,ao,ap⟩:=jR ay hb hbox hg;clear hb hbox hg)|((with_reducible refine dJ 3 ?_);refine dO 3 (cs:=#[.slice ab bg.length ac]) 28 ?_;intro aq hg w6 hbox hb;obtain ⟨a5,HB,a6,ar,aT,a7,a8⟩:=oO (au a5) ay hb hbox hg;clear hb hbox hg;obtain ⟨av,aw⟩:=gy a7 a8;have y7:=bZ a5.out;have Ej:=bZ a6.out)|((with_reducible refine cu 81 ?_);refine cO (some 9) rfl rfl func81 aC rfl #[.slice a9 aI.length aa,.slice ab bg.length ac] rfl bJ ?_;(with_reducible refine (uQ.calls k _ _ aI _ _ bg aO _ qp ai.out pK aH.out A3.out).mono ?_);rintro e ax ⟨rfl,hb⟩;refine ⟨_,rfl,?_⟩;obtain ⟨a5,a6,HB⟩:=Hl (au a5) (au a6) ay hb;(try clear hb)))
 (try simp only [fM])
 (try clear y7)
 (try clear Ej)
 (try clear y7)
 (try clear Ej)
 obtain ⟨H⟩:=am;by_cases al:aO=true
 ·subst al;rw [if_pos rfl] at H;obtain rfl:=bQ H;go_wp2
  go_ret
  exact ⟨bK,ay⟩
 replace al:=Bool.eq_false_iff.mpr al;subst al;rw [if_neg iF] at H;obtain rfl:=bQ H;go_wp2
 go_ret
 exact ⟨bK,ay⟩

def wZ.l0:Nat→List ByteArray→List ByteArray→Int→Option (Bool)
 | 0,_,_,_=>none
 | k+1,x0,x1,x5=>if x5 < (x0.length:Int) then (if 0≤x5 then (if x5 < (x1.length:Int) then (if (qV ByteArray.empty x0 x5).toList=(qV ByteArray.empty x1 x5).toList then (wZ.l0 k x0 x1 (wrap64 (x5+1))) else (some false)) else (none)) else (none)) else (some true)
def wZ.f (k:Nat) (l0:List ByteArray) (l1:List ByteArray):Option (Bool):=if (l0.length:Int)=(l1.length:Int) then (wZ.l0 k l0 l1 0) else (some false)
theorem wZ.calls (k:Nat) (A0:Option Addr) (c0:Nat) (l0:List ByteArray) (A1:Option Addr) (c1:Nat) (l1:List ByteArray) (r:Bool) (w:World) (hr0:Kd.C Kd.string w A0 l0.length l0) (hc0:l0.length≤c0) (hr1:Kd.C Kd.string w A1 l1.length l1) (hc1:l1.length≤c1) (h:wZ.f k l0 l1=some r) :
  Calls Tryz.prog 82 #[.slice A0 l0.length c0,.slice A1 l1.length c1] w fun e w'=>e=.returned (.bool r)∧pO w w':=by
 have HR0:=m_ hr0;have ar:=m_ hc0;clear hr0 hc0;have ao:=m_ hr1;have aT:=m_ hc1;clear hr1 hc1;unfold wZ.f at h
 have H:=h;clear h;revert H;refine eU (fun c3 H=>?_) fun c3 H=>?_;rotate_left
 ·have ae:=fZ c3;have af:=f_ c3;have ag:(l0.length == l1.length)=false:=by first|simpa using c3|(simp at c3 ⊢;omega)
  obtain rfl:=bQ H;go_enter func82,ntmps82
  go_wp2
  repeat (go_quiet (fail);try go_wp2)
  go_ret
  exact ⟨bC,kL⟩
 have ae:=fU c3;have af:=fV c3;have ag:(l0.length == l1.length)=true:=by first|simpa using c3|(simp at c3 ⊢;omega)
 clear c3;have H':=m_ H;clear H;go_enter func82,ntmps82
 go_wp2
 repeat (go_quiet (fail);try go_wp2)
 go_loopg [5] k (fun kq v5 w'=>∃ (a5:Int),v5=ah a5∧aA (wZ.l0 kq l0 l1 a5=some r)∧aA (kq≤k)∧pO w w')
 case atStart=>exact ⟨(0),bC,H',⟨Nat.le_refl _⟩,kL⟩
 case round =>
 clear H';try clear c1;try clear c3;try clear ae;try clear af;try clear ag
 obtain ⟨a5,rfl,HA,gG,⟨m1,rfl⟩⟩:=hrel;cases gk with
 | zero=>exact absurd HA.out (by simp [wZ.l0])
 | succ k1 =>
 obtain ⟨H⟩:=HA;simp only [wZ.l0] at H
 revert H;refine fB (fun aK H=>?_) fun aK H=>?_;rotate_left
 ·obtain rfl:=bQ H;go_wp2
  repeat (go_quiet (fail);try go_wp2)
  go_ret
  exact ⟨bC,kL⟩
 obtain ⟨ap,H⟩:=gI H;obtain ⟨aq,H⟩:=gI H;have al:=m_ H;clear H;have a9:0≤(a5:Int):=aX aY;have aa:a5 < (l0.length:Int):=aX aY;obtain ⟨am,ai,a7⟩:=Kd.Aa HR0.out a5 a9 aa;cases ai;replace a9:=eq_true a9;replace aa:=eq_true aa;have ab:0≤(a5:Int):=aX aY;have ac:a5 < (l1.length:Int):=aX aY;obtain ⟨an,aH,a8⟩:=Kd.Aa ao.out a5 ab ac;cases aH;replace ab:=eq_true ab;replace ac:=eq_true ac;go_upto_if 25 with (fail)
 repeat (go_quiet (fail);go_upto_if 25 with (fail))
 (try clear a7)
 (try clear a8)
 obtain ⟨H⟩:=al;revert H;refine eU (fun c8 H=>?_) fun c8 H=>?_;rotate_left
 ·have a6:=fZ c8;have aO:=f_ c8;try simp only [aV,aZ,a6]
  obtain rfl:=bQ H;go_wp2
  repeat (go_quiet (fail);try go_wp2)
  go_ret
  exact ⟨bC,kL⟩
 have a6:=fU c8;have aO:=fV c8;clear c8;try simp only [aV,aZ,a6]
 have H':=m_ H;clear H;go_wp2
 repeat (go_quiet (fail);try go_wp2)
 go_roundg k1
 case measure=>have:=gG.out;omega
 case rel=>exact ⟨(wrap64 (a5+1)),bC,H',⟨oz⟩,kL⟩

end Go.Proofs.YthejdhjpbpamoaaGreatDoor.pU
