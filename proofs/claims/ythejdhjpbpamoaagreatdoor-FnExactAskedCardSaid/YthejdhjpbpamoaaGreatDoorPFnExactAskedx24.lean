/- Calls return what the Lean functions beside them compute. Conditions: each theorem's own. -/
import Derived.Test.YthejdhjpbpamoaaGreatDoorPkFnExactAsked
import Derived.Test.YthejdhjpbpamoaaGreatDoorPFnExactAskedx2
import Derived.Test.YthejdhjpbpamoaaGreatDoorPFnExactAskedx18
import Derived.Test.YthejdhjpbpamoaaGreatDoorPFnExactAskedx21
namespace Go.Proofs.YthejdhjpbpamoaaGreatDoor.pU
open Go.RowKit Go.Proofs.YthejdhjpbpamoaaGreatDoorW.jk Go.Proofs.YthejdhjpbpamoaaGreatDoorW.qI Go.Proofs.YthejdhjpbpamoaaGreatDoorW.vV Go.Proofs.Tryz
attribute [local go_sem] yN yR yQ yU yP yT yO yS
set_option linter.unusedVariables false
set_option maxHeartbeats 8000000
set_option maxRecDepth 100000
set_option linter.unusedSimpArgs false

def oI.j0:Nat→Int→Bool→List (aF)→Int→ByteArray→ByteArray→Int→Int→ByteArray→List (aF)→Option ((List (aF)) × Int × ByteArray × Int × Bool × List ByteArray)
 | 0,_,_,_,_,_,_,_,_,_,_=>none
 | k+1,x7,ag,a6,aa,a7,a8,ab,ac,ae,a9=>if ag=true then ((oq.f x7).bind fun a5=>(some (a9,a5.1,a5.2.1,a5.2.2.1,a5.2.2.2.1,a5.2.2.2.2))) else ((jf.f k a6 a7 a8).bind fun af=>(some (af,0,(⟨#[]⟩:ByteArray),0,false,([]:List ByteArray))))
def oI.f (k:Nat) (a9:List (aF)) (ac:Int) (a7:ByteArray) (a8:ByteArray) (ae:Int) (af:Int) (ag:ByteArray):Option ((List (aF)) × Int × ByteArray × Int × Bool × List ByteArray):=(rY.f a9).bind fun aa=>(if a7.toList=([47]:List UInt8) then ((oq.f 9).bind fun a5=>(some (aa,a5.1,a5.2.1,a5.2.2.1,a5.2.2.2.1,a5.2.2.2.2))) else ((qW.f k a8 a7).bind fun aK=>(if aK=true then ((oq.f 11).bind fun a6=>(some (aa,a6.1,a6.2.1,a6.2.2.1,a6.2.2.2.1,a6.2.2.2.2))) else ((CX.f k a9 a8).bind fun ab=>(if ab=0 then (oI.j0 k ab false a9 ac a7 a8 ae af ag aa) else (if ab=7 then ((vT.f k a8).bind fun ai=>((vT.f k a7).bind fun aH=>(oI.j0 k ab (ai.toList != aH.toList) a9 ac a7 a8 ae af ag aa))) else (oI.j0 k ab true a9 ac a7 a8 ae af ag aa)))))))
def oI.T7:Bool × List (List Nat × List Nat):=(true,[([],[]),([0],[0]),([1],[1]),([2],[2]),([3,2],[2,3]),([4,2,2],[2,4]),([5],[5]),([6,5],[5,6]),([7,5,5],[5,7]),([5],[5]),([9,5],[5,9]),([10,8,5],[5,10]),([8,11,5],[5,8,11]),([5,12,2],[2,5,12]),([2,13],[2,13])])
def oI.B7:List Nat:=[0,1,3,7,15,31,63,127,255,63,575,2047,4095,8191,16383]
theorem oI.WG:kZ .any (opsOf Tryz.f78 7)=oI.T7:=by kernel_rfl
theorem oI.RI:vF oI.T7.2 oI.B7=true:=by kernel_rfl
theorem abI {p:Prop} (h:p:=by
  refine qX (i:=0) (N:=some _) (v:=?_) (a':=?_) N8 rfl rfl aC (fun _ _ _ h=>h) (Or.inl ⟨(by rfl),?_⟩) hH ?_ ?_;rotate_left
  ·intro w' w0';go_simp
   with_reducible rfl
  rotate_left
  ·simp only [fM,aV,aZ]
   rfl
  refine iy (i:=1) (N:=some _) Oc rfl rfl aC (by decide) (fun K hK=>?_);refine jw func75 aC rfl #[ah _] (by rfl) rfl rfl bJ ?_
  with_reducible refine (oq.calls _ w1' w2' w3' w4' BO _ w6'.out).mono ?_
  rintro e y5 ⟨apo,rfl,Nh,hb⟩;refine ⟨_,rfl,?_⟩;obtain ⟨nV,Nb,a5,a6,jM,iV,a7,HB⟩:=p_ (Kd.bG (aN nV) hb) <| p_ (Kd.dR Nh (bU ay)) <| qJ (au a5) (au a6) (au jM) (au iV) (au a7) ay hb;(try clear hb)
  (try clear Nh)
  obtain ⟨Xe,Xf,Nc⟩:=Kd.dN Nb.out;(first|subst Nc|(injection Nc with eu iE eF;have Xg:=eu.symm;have Xh:=eF.symm;clear eu iE eF;subst Xg;subst Xh))
  refine hK.out _ _ ((aQ a7.out 0).trans rfl) (fun hH=>?_);clear hK K;refine gY (some _) ?_;refine iy (i:=2) (N:=none) Oh rfl rfl aC (by decide) (fun K hK=>?_);have aoW:y5.cell? ⟨b4,0,none⟩=some (.slice none 0 0):=(aQ jM.out 0).trans rfl;have aoX:=cZ jM.out 0;obtain ⟨aoY,aoZ,ao0,ao1,ao2,ao3,ao4,ao5⟩:=iq ax aK b2 ab bD ai b1 ac;refine jD (w1:=?_) (by rfl) rfl ?_ ?_;rotate_left
  ·go_simp
   rfl
  refine hK.out _ _ ((aG ab hH)) (fun hH=>?_);clear hK K;refine iy (i:=3) (N:=none) Oi rfl rfl aC (by decide) (fun K hK=>?_);have ao6:y5.cell? ⟨aa,0,none⟩=some (ah 0):=(aQ iV.out 0).trans rfl;have ao7:=cZ iV.out 0;obtain ⟨ao8,ao9,ao_,apa,apb,apc⟩:=lU az aH a8 b0 aO ae;have apd:y5.cell? ⟨aa,1,none⟩=some (.string (⟨#[]⟩:ByteArray)):=(aQ iV.out 1).trans rfl;have ape:=cZ iV.out 1;have apf:y5.cell? ⟨aa,2,none⟩=some (ah 0):=(aQ iV.out 2).trans rfl;have apg:=cZ iV.out 2;have aph:y5.cell? ⟨aa,3,none⟩=some (.bool false):=(aQ iV.out 3).trans rfl;have apj:=cZ iV.out 3;have apk:y5.cell? ⟨aa,4,none⟩=some (.slice none 0 0):=(aQ iV.out 4).trans rfl;have apl:=cZ iV.out 4;refine jD (w1:=?_) (by rfl) rfl ?_ ?_;rotate_left
  ·go_simp
   rfl
  refine hK.out _ _ ((aG a8 (aG a8 (aG a8 (aG a8 (aG a8 hH)))))) (fun hH=>?_);clear hK K;refine jd aC ?_;try go_wp2
  refine bodyPost_ret (jq rfl _ _ b4 aa 28 49 #[.slice ap af.length aq] #[ah w1',.string w2',ah w3',.bool w4',.slice Xe BO.length Xf] (0,0) (0,0) _ _ rfl bf underlying28 rfl aC rfl bf underlying49 rfl aC) rfl ?_;exact ⟨_,_,bK,aoe,(by (with_reducible repeat (first|apply Kd.bW|apply Kd.bY|apply Kd.bH));exact Kd.bF (aJ (aJ (aJ (aJ (aJ (aJ (Kd.bV (Kd.bV Nb.out jM.out (by decide)) iV.out (by decide)) (fun _ hk=>hk.1.2))))))) (fun _ hk=>trivial)),ay⟩):p:=h
theorem oI.calls (k:Nat) (fG:Option Addr) (bo:Nat) (aI:List (aF)) (iW:Int) (iC:ByteArray) (iM:ByteArray) (bq:Int) (br:Int) (bs:ByteArray) (r1:List (aF)) (r2:Int) (r3:ByteArray) (r4:Int) (r5:Bool) (r6:List ByteArray) (w:World) (cc:Kd.C aS w fG aI.length aI) (cd:aI.length≤bo) (h:oI.f k aI iW iC iM bq br bs=some (r1,r2,r3,r4,r5,r6)) :
  Calls Tryz.prog 78 #[.agg #[.slice fG aI.length bo],.agg #[ah iW,.string iC,.string iM,ah bq,ah br,.string bs]] w fun e w'=>∃ fC nG:Value,e=.returned (.tuple #[.agg #[fC],.agg #[ah r2,.string r3,ah r4,.bool r5,nG]])∧Kd.R aS 43 w' w.heap.size (fun _=>True) fC r1∧Kd.R Kd.string 9 w' w.heap.size (fun _=>True) nG r6∧Below w.heap.size w w':=by
 have nT:=underlying28;have Fb:=underlying45;have wE:=underlying49;have lg:=m_ cc;have bz:=m_ cd;clear cc cd;have HB:=m_ (Below.refl w.heap.size w);unfold oI.f at h
 have H:=h;clear h;obtain ⟨af,A3,H⟩:=bd_ H;have e3:=m_ H;clear H;go_enter func78,ntmps78
 go_upto_if 12 with (first|((with_reducible refine dJ 2 ?_);refine dO 2 (cs:=#[.slice fG aI.length bo]) 28 ?_;intro ca hg w5 hbox hb;obtain ⟨HB,a5,e4,e5⟩:=jR ay hb hbox hg;clear hb hbox hg)|((with_reducible refine dJ 3 ?_);refine dO 3 (cs:=#[ah iW,.string iC,.string iM,ah bq,ah br,.string bs]) 45 ?_;intro b5 hg w6 hbox hb;obtain ⟨a5,HB,a6,e6,e7,be,fA⟩:=oO (au a5) ay hb hbox hg;clear hb hbox hg)|((with_reducible refine dJ 4 ?_);refine dO 4 (cs:=#[.slice none 0 0]) 28 ?_;intro b4 hg w7 hbox hb;obtain ⟨a5,a6,HB,jM,e8,e9,ax,bD,aK,ai⟩:=rP (au a5) (au a6) ay hb hbox hg;clear hb hbox hg)|((with_reducible refine dJ 5 ?_);refine dO 5 (cs:=#[ah 0,.string (⟨#[]⟩:ByteArray),ah 0,.bool false,.slice none 0 0]) 49 ?_;intro aa hg w8 hbox hb;obtain ⟨a5,a6,jM,HB,iV,ea,eb,az,b0,aH,aO,b1,b2⟩:=zl (au a5) (au a6) (au jM) ay hb hbox hg;clear hb hbox hg;obtain ⟨b6,b7,b8,b9,ba,bb⟩:=lU be fA ax bD az b0;have Ei:=bZ a5.out)|((with_reducible refine cu 73 ?_);refine cO (some 9) rfl rfl func73 aC rfl #[.agg #[.slice fG aI.length bo]] rfl bJ ?_;(with_reducible refine (rY.calls _ _ aI af _ qp bz.out A3.out).mono ?_);rintro e er ⟨aDt,rfl,ho0,hb⟩;refine ⟨_,rfl,?_⟩;obtain ⟨nV,a5,a6,jM,iV,HB⟩:=p_ (Kd.dR ho0 (bU ay)) <| Oj (au a5) (au a6) (au jM) (au iV) ay hb;(try clear hb);(try clear ho0))|((with_reducible refine dJ 6 ?_);refine dO 6 (cs:=#[.slice none 0 0]) 28 ?_;intro ag hg ce hbox hb;obtain ⟨nV,a5,a6,jM,iV,HB,a7,ec,ed,dL,bl,b3,bh,ac,ab,ae,a8⟩:=p_ (Kd.bG (aN nV) hb) <| Ho (au a5) (au a6) (au jM) (au iV) ay hb hbox hg;clear hb hbox hg;obtain ⟨ap,aq,lJ⟩:=Kd.dN nV.out;subst lJ;obtain ⟨bu,bv,bc,bd,ar,aT,av,aw⟩:=iq bl dL bh b3 ab ac a8 ae;have Nk:=bZ a7.out;obtain ⟨al,am,an,ao⟩:=iD aK ai aH aO;have fE:=mg a6.out))
 (try simp only [fM])
 (try clear b6 b8 ba bv b7 al an bd b9 am aT bb ao aw bu bc ar av)
 (try clear Ei)
 (try clear Nk)
 (try clear fE)
 (try clear Ei)
 (try clear Nk)
 obtain ⟨H⟩:=e3;revert H;refine eU (fun co H=>?_) fun co H=>?_
 ·have Xi:=fU co;have apm:=fV co;clear co;try simp only [aV,aZ,Xi]
  obtain ⟨⟨w1',w2',w3',w4',BO⟩,w6',H⟩:=bd_ H;simp only [gV] at H
  obtain ⟨rfl,rfl,rfl,rfl,rfl,rfl⟩:=H;try go_wp2
  have QB:aA (Kd.R aS 43 (ce.setCell ⟨ag,0,none⟩ (.slice ap af.length aq)) w.heap.size (fun _=>True) (.slice ap af.length aq) af):=⟨(by (with_reducible repeat (first|apply Kd.bW|apply Kd.bY|apply Kd.bH));exact Kd.bF (aJ (Kd.bV nV.out a7.out (by decide))) (fun _ hk=>trivial))⟩;have QC:aA ((ce.setCell ⟨ag,0,none⟩ (.slice ap af.length aq)).heap[ca]?=some (.cells #[.slice fG aI.length bo] 28)):=⟨bf⟩;have C9:aA ((ce.setCell ⟨ag,0,none⟩ (.slice ap af.length aq)).heap[b5]?=some (.cells #[ah iW,.string iC,.string iM,ah bq,ah br,.string bs] 45)):=⟨bf⟩;have QD:aA ((ce.setCell ⟨ag,0,none⟩ (.slice ap af.length aq)).heap[b4]?=some (.cells #[.slice none 0 0] 28)):=⟨bf⟩;have QE:aA ((ce.setCell ⟨ag,0,none⟩ (.slice ap af.length aq)).heap[aa]?=some (.cells #[ah 0,.string (⟨#[]⟩:ByteArray),ah 0,.bool false,.slice none 0 0] 49)):=⟨bf⟩;have Xj:aA ((ce.setCell ⟨ag,0,none⟩ (.slice ap af.length aq)).heap[ag]?=some (.cells #[.slice ap af.length aq] 28)):=⟨bf⟩;have Xk:aA (Below w.heap.size w (ce.setCell ⟨ag,0,none⟩ (.slice ap af.length aq))):=⟨ay⟩;(try clear nV)
  (try clear a5)
  (try clear a6)
  (try clear jM)
  (try clear iV)
  (try clear a7)
  (try clear HB)
  generalize (ce.setCell ⟨ag,0,none⟩ (.slice ap af.length aq))=apn at QB QC C9 QD QE Xj Xk ⊢;have nV:=QB;have a5:=QC;have a6:=C9;have jM:=QD;have iV:=QE;have a7:=Xj;have HB:=Xk;clear QB QC C9 QD QE Xj Xk;obtain ⟨nV,a5,a6,jM,iV,a7,HB⟩:=p_ (Kd.bH nV.out) <| Ad a5 a6 jM iV a7 HB;refine iU (n:=4) (S:=fun w'=>w'.cell? ⟨ag,0,none⟩=some (.slice ap af.length aq)) (ds:=[]) BP aC rfl rfl ((aQ a7.out 0).trans rfl) (fun hH=>?_);generalize apn.drew=aD7 at nV a5 a6 jM iV a7 HB hH ⊢;exact abI
 have bw:=fZ co;have cv:=f_ co;try simp only [aV,aZ,bw]
 obtain ⟨d2,ei,H⟩:=bd_ H;have d3:=m_ H;clear H;obtain ⟨b7,b6,al,am,an,ao,bd,bc⟩:=iq fA be aK ai aH aO b3 bh;have dr:=mg a6.out;go_upto_if 19 with (first|((with_reducible refine cu 15 ?_);refine cO (some 19) rfl rfl func15 aC rfl #[.string iM,.string iC] rfl bJ ?_;(with_reducible refine (qW.calls k iM iC d2 _ ei.out).mono ?_);rintro e ej ⟨rfl,hb⟩;refine ⟨_,rfl,?_⟩;have ji:=p_ (Kd.bG (by (with_reducible repeat (first|apply Kd.bW|apply Kd.bY|apply Kd.bH));exact (Kd.bF (aJ (Kd.bV nV.out a7.out (by decide))) (fun _ bI=>bI.1))) hb) <| p_ (aU (g:=ca) (o:=.cells #[.slice fG aI.length bo] 28) (qK a5.out dL.out) hb) <| p_ (aU (g:=b5) (o:=.cells #[ah iW,.string iC,.string iM,ah bq,ah br,.string bs] 45) (qK a6.out b3.out) hb) <| p_ (aU (g:=b4) (o:=.cells #[.slice none 0 0] 28) (qK jM.out ac.out) hb) <| p_ (aU (g:=aa) (o:=.cells #[ah 0,.string (⟨#[]⟩:ByteArray),ah 0,.bool false,.slice none 0 0] 49) (qK iV.out ae.out) hb) <| p_ (aU (g:=ag) (o:=.cells #[.slice ap af.length aq] 28) (DV a7.out) hb) <| a_ (dV ay hb);clear nV a5 a6 jM iV a7 HB;obtain ⟨nV,a5,a6,jM,iV,a7,HB⟩:=ji;(try clear hb);(try clear hk)))
 (try simp only [fM])
 (try clear b6 b7 al an bd am ao bc)
 (try clear dr)
 obtain ⟨H⟩:=d3;by_cases d4:d2=true
 ·subst d4;rw [if_pos rfl] at H;obtain ⟨⟨w1',w2',w3',w4',BO⟩,w6',H⟩:=bd_ H;simp only [gV] at H
  obtain ⟨rfl,rfl,rfl,rfl,rfl,rfl⟩:=H;try go_wp2
  obtain ⟨nV,a5,a6,jM,iV,a7,HB⟩:=p_ (Kd.bH nV.out) <| Ad a5 a6 jM iV a7 HB;refine iU (n:=4) (S:=fun w'=>w'.cell? ⟨ag,0,none⟩=some (.slice ap af.length aq)) (ds:=[]) BP aC rfl rfl ((aQ a7.out 0).trans rfl) (fun hH=>?_);generalize ej.drew=Xi at nV a5 a6 jM iV a7 HB hH ⊢;exact abI
 replace d4:=Bool.eq_false_iff.mpr d4;subst d4;rw [if_neg iF] at H;obtain ⟨bx,el,H⟩:=bd_ H;have cp:=m_ H;clear H;obtain ⟨b6,b7,b8,b9,ba,bb,bv,bu⟩:=iq be fA ax bD az b0 dL bl;have Xr:=bZ a5.out;have db:=mg a6.out;go_upto_region 7 with (first|((with_reducible refine cu 14 ?_);refine cO (some 25) rfl rfl func14 aC rfl #[.agg #[.slice fG aI.length bo],.string iM] rfl bJ ?_;(with_reducible refine (CX.calls k _ _ aI iM bx _ qp bz.out el.out).mono ?_);rintro e dv ⟨rfl,hb⟩;refine ⟨_,rfl,?_⟩;obtain ⟨nV,a5,a6,jM,iV,a7,HB⟩:=p_ (Kd.bG (aN nV) hb) <| qJ (au a5) (au a6) (au jM) (au iV) (au a7) ay hb;(try clear hb);(try clear hk)))
 (try simp only [fM])
 go_cut [40] (fun v40 wc=>∃ (kq:Nat) (bp:Bool),v40=.bool bp∧aA (oI.j0 kq bx bp aI iW iC iM bq br bs af=some (r1,r2,r3,r4,r5,r6))∧aA (kq≤k)∧aA (Kd.R aS 43 wc w.heap.size (fun _=>True) (.slice ap af.length aq) af)∧aA (wc.heap[ca]?=some (.cells #[(.slice fG aI.length bo)] 28))∧aA (wc.heap[b5]?=some (.cells #[ah iW,.string iC,.string iM,ah bq,ah br,.string bs] 45))∧aA (wc.heap[b4]?=some (.cells #[(.slice none 0 0)] 28))∧aA (wc.heap[aa]?=some (.cells #[ah 0,.string (⟨#[]⟩:ByteArray),ah 0,.bool false,(.slice none 0 0)] 49))∧aA (wc.heap[ag]?=some (.cells #[(.slice ap af.length aq)] 28))∧aA (Below w.heap.size w wc))
 case first =>
  obtain ⟨H⟩:=cp;revert H;refine eU (fun ch H=>?_) fun ch H=>?_
  ·have bm:=fU ch;have ci:=fV ch;clear ch;try simp only [aV,aZ,bm]
   have H':=m_ H;clear H;try go_wp2
   obtain ⟨nV,a5,a6,jM,iV,a7,HB⟩:=p_ (Kd.bH nV.out) <| Ad a5 a6 jM iV a7 HB;refine iU (n:=15) (S:=fun w'=>True) (ds:=[]) RX aC rfl rfl trivial (fun hH=>?_);refine kF oI.WG oI.RI (fun aP fK=>?_);generalize dv.drew=tN at nV a5 a6 jM iV a7 HB hH ⊢;refine bM 0 ?_;refine bM 1 ?_;refine bM 2 ?_;refine lN 3 ?_;refine lN 4 ?_;refine lN 5 ?_;refine lN 6 ?_;refine lN 7 ?_;refine lN 8 ?_;refine lN 9 ?_;refine lN 10 ?_;refine lN 11 ?_;refine lN 12 ?_;refine lN 13 ?_;refine bM 14 ?_;refine jd (kC aP.out aC) ?_;try go_wp2
   go_meet
   case rel=>exact ⟨_,(false),bC,H',⟨lM⟩,⟨(aN nV)⟩,⟨(au a5)⟩,⟨(au a6)⟩,⟨(au jM)⟩,⟨(au iV)⟩,⟨(au a7)⟩,⟨ay⟩⟩
  have bm:=fZ ch;have ci:=f_ ch;try simp only [aV,aZ,bm]
  revert H;refine eU (fun cj H=>?_) fun cj H=>?_;rotate_left
  ·have ck:=fZ cj;have cl:=f_ cj;have H':=m_ H;clear H;try go_wp2
   obtain ⟨nV,a5,a6,jM,iV,a7,HB⟩:=p_ (Kd.bH nV.out) <| Ad a5 a6 jM iV a7 HB;refine iU (n:=15) (S:=fun w'=>True) (ds:=[]) RX aC rfl rfl trivial (fun hH=>?_);refine kF oI.WG oI.RI (fun aP fK=>?_);generalize dv.drew=ev at nV a5 a6 jM iV a7 HB hH ⊢;refine bM 0 ?_;refine bM 1 ?_;refine bM 2 ?_;refine bM 3 ?_;refine bM 4 ?_;refine bM 5 ?_;refine lN 6 ?_;refine lN 7 ?_;refine lN 8 ?_;refine lN 9 ?_;refine lN 10 ?_;refine lN 11 ?_;refine lN 12 ?_;refine bM 13 ?_;refine bM 14 ?_;refine jd (kC aP.out aC) ?_;try go_wp2
   go_meet
   case rel=>exact ⟨_,(true),bC,H',⟨lM⟩,⟨(aN nV)⟩,⟨(au a5)⟩,⟨(au a6)⟩,⟨(au jM)⟩,⟨(au iV)⟩,⟨(au a7)⟩,⟨ay⟩⟩
  have ck:=fU cj;have cl:=fV cj;clear cj;obtain ⟨dd,em,H⟩:=bd_ H;obtain ⟨de,en,H⟩:=bd_ H;have H':=m_ H;clear H;try go_wp2
  obtain ⟨nV,a5,a6,jM,iV,a7,HB⟩:=p_ (Kd.bH nV.out) <| Ad a5 a6 jM iV a7 HB;refine iU (n:=15) (S:=fun w'=>oZ w' b5 (ah iW) (.string iC) (.string iM) (ah bq) (ah br) (.string bs)) (ds:=[]) RX aC rfl rfl (jX a6.out) (fun hH=>?_);refine kF oI.WG oI.RI (fun aP fK=>?_);generalize dv.drew=ew at nV a5 a6 jM iV a7 HB hH ⊢;refine bM 0 ?_;refine bM 1 ?_;refine bM 2 ?_;refine bM 3 ?_;refine bM 4 ?_;refine bM 5 ?_;refine bM 6 ?_;refine dF 9 35 #[aj,aj,aj,aj,aj,aj,aj,F_,F_,aj,F_,F_,F_,F_,F_] aP ?_;refine j_ 7 33 #[aj,aj,aj,aj,aj,aj,aj,aj,F_,aj,F_,F_,F_,F_,F_] aP fK hH ?_;refine j_ 10 36 #[aj,aj,aj,aj,aj,aj,aj,aj,F_,aj,aj,F_,F_,F_,F_] aP fK hH ?_;refine oH 8 (fun K hK=>?_);refine jw func51 aC rfl #[.string iM] (by rfl) rfl rfl bJ ?_
  with_reducible refine (vT.calls k iM dd _ em.out).mono ?_
  rintro e ex ⟨rfl,hb⟩;refine ⟨_,rfl,?_⟩;obtain ⟨nV,a5,a6,jM,iV,a7,HB⟩:=p_ (Kd.bG (aN nV) hb) <| qJ (au a5) (au a6) (au jM) (au iV) (au a7) ay hb;(try clear hb)
  refine hK.out _ _ (jX a6.out) (fun hH=>?_);clear hK K;refine gY (some 34) ?_;refine oH 11 (fun K hK=>?_);refine jw func51 aC rfl #[.string iC] (by rfl) rfl rfl bJ ?_
  with_reducible refine (vT.calls k iC de _ en.out).mono ?_
  rintro e ey ⟨rfl,hb⟩;refine ⟨_,rfl,?_⟩;obtain ⟨nV,a5,a6,jM,iV,a7,HB⟩:=p_ (Kd.bG (aN nV) hb) <| qJ (au a5) (au a6) (au jM) (au iV) (au a7) ay hb;(try clear hb)
  refine hK.out _ _ (jX a6.out) (fun hH=>?_);clear hK K;refine gY (some 37) ?_;refine bM 12 ?_;refine bM 13 ?_;refine bM 14 ?_;refine jd (kC aP.out aC) ?_;try go_wp2
  go_meet
  case rel=>exact ⟨_,((dd.toList != de.toList)),bC,H',⟨lM⟩,⟨(aN nV)⟩,⟨(au a5)⟩,⟨(au a6)⟩,⟨(au jM)⟩,⟨(au iV)⟩,⟨(au a7)⟩,⟨ay⟩⟩
 case rest =>
 clear cp;try clear d4;try clear Xr;try clear db;try clear Xr
 obtain ⟨kq,bp,rfl,HA,y9,a9,a5,a6,jM,iV,a7,HB⟩:=hcut;cases kq with
 | zero=>exact absurd HA.out (by simp [oI.j0])
 | succ PL =>
 obtain ⟨H⟩:=HA;simp only [oI.j0] at H
 by_cases dm:bp=true
 rotate_left
 ·replace dm:=Bool.eq_false_iff.mpr dm;subst dm;rw [if_neg iF] at H;obtain ⟨df,eo,H⟩:=bd_ H;simp only [gV] at H
  obtain ⟨rfl,rfl,rfl,rfl,rfl,rfl⟩:=H;have aE0:=bZ a5.out;have ep:=mg a6.out;go_wp2_with (first|((with_reducible refine cu 11 ?_);refine cO (some 49) rfl rfl func11 aC rfl #[.agg #[.slice fG aI.length bo],.string iC,.string iM] rfl bJ ?_;(with_reducible refine (jf.calls PL _ _ aI iC iM df _ qp bz.out eo.out).mono ?_);rintro e fe ⟨aDv,rfl,ho0,hb⟩;refine ⟨_,rfl,?_⟩;obtain ⟨a9,cm,a5,a6,jM,iV,a7,HB⟩:=p_ (Kd.jP (aN a9) (Kd.iY ho0) hb) <| p_ (Kd.dR (Kd.jQ ho0 (Kd.jl (aN a9))) (bU ay)) <| qJ (au a5) (au a6) (au jM) (au iV) (au a7) ay hb;(try clear hb);(try clear ho0);obtain ⟨lC,dx,dy⟩:=Kd.dN cm.out;subst dy;obtain ⟨bj,bi,aT,ar⟩:=iD b1 b2 ac ab;have Xm:=bZ jM.out;obtain ⟨aw,av⟩:=gy ae a8;have ee:=jc iV.out))
  refine bodyPost_ret (jq rfl _ _ b4 aa 28 49 #[.slice lC df.length dx] #[ah 0,.string (⟨#[]⟩:ByteArray),ah 0,.bool false,.slice none 0 0] (0,0) (0,0) _ _ rfl bf underlying28 rfl aC rfl bf underlying49 rfl aC) rfl ?_;exact ⟨_,_,bK,(by (with_reducible repeat (first|apply Kd.bW|apply Kd.bY|apply Kd.bH));exact Kd.bF (aJ (aJ (aJ (aJ (aJ (aJ (Kd.bV (Kd.bV cm.out jM.out (by decide)) iV.out (by decide)) (fun _ hk=>hk.1.2))))))) (fun _ hk=>trivial)),lH,ay⟩
 subst dm;rw [if_pos rfl] at H;obtain ⟨⟨dg,pF,di,dj,dk⟩,eq,H⟩:=bd_ H;simp only [gV] at H
 obtain ⟨rfl,rfl,rfl,rfl,rfl,rfl⟩:=H;try go_wp2
 obtain ⟨a9,a5,a6,jM,iV,a7,HB⟩:=p_ (Kd.bH a9.out) <| Ad a5 a6 jM iV a7 HB;refine iU (n:=5) (S:=fun w'=>w'.cell? ⟨ag,0,none⟩=some (.slice ap af.length aq)) (ds:=[]) EL aC rfl rfl ((aQ a7.out 0).trans rfl) (fun hH=>?_);generalize wc.drew=ff at a9 a5 a6 jM iV a7 HB hH ⊢;refine uF (i:=1) (N:=some 42) Og aC ?_;refine qX (i:=0) (N:=some 41) (v:=?_) (a':=?_) KT rfl rfl aC (fun _ _ _ h=>h) (Or.inl ⟨(by rfl),?_⟩) hH ?_ ?_;rotate_left
 ·intro w' s0;go_simp
  with_reducible rfl
 rotate_left
 ·simp only [fM,aV,aZ]
  rfl
 refine iy (i:=2) (N:=some 43) He rfl rfl aC (by decide) (fun K hK=>?_);refine jw func75 aC rfl #[ah bx] (by rfl) rfl rfl bJ ?_
 with_reducible refine (oq.calls bx dg pF di dj dk _ eq.out).mono ?_
 rintro e ct ⟨aDu,rfl,ho0,hb⟩;refine ⟨_,rfl,?_⟩;obtain ⟨a9,cn,a5,a6,jM,iV,a7,HB⟩:=p_ (Kd.bG (aN a9) hb) <| p_ (Kd.dR ho0 (bU ay)) <| qJ (au a5) (au a6) (au jM) (au iV) (au a7) ay hb;(try clear hb)
 (try clear ho0)
 obtain ⟨dz,e0,dl⟩:=Kd.dN cn.out;(first|subst dl|(injection dl with eu iE eF;have iJ:=eu.symm;have iK:=eF.symm;clear eu iE eF;subst iJ;subst iK))
 refine hK.out _ _ ((aQ a7.out 0).trans rfl) (fun hH=>?_);clear hK K;refine gY (some 43) ?_;refine iy (i:=3) (N:=none) EM rfl rfl aC (by decide) (fun K hK=>?_);have aB':ct.cell? ⟨b4,0,none⟩=some (.slice none 0 0):=(aQ jM.out 0).trans rfl;have awh:=cZ jM.out 0;obtain ⟨bi,ar,bj,aT⟩:=iD b2 ab b1 ac;refine jD (w1:=?_) (by rfl) rfl ?_ ?_;rotate_left
 ·go_simp
  rfl
 refine hK.out _ _ ((aG ab hH)) (fun hH=>?_);clear hK K;refine iy (i:=4) (N:=none) EN rfl rfl aC (by decide) (fun K hK=>?_);have aCa:ct.cell? ⟨aa,0,none⟩=some (ah 0):=(aQ iV.out 0).trans rfl;have awi:=cZ iV.out 0;obtain ⟨av,aw⟩:=gy a8 ae;have aCb:ct.cell? ⟨aa,1,none⟩=some (.string (⟨#[]⟩:ByteArray)):=(aQ iV.out 1).trans rfl;have awj:=cZ iV.out 1;have aCc:ct.cell? ⟨aa,2,none⟩=some (ah 0):=(aQ iV.out 2).trans rfl;have awk:=cZ iV.out 2;have aCd:ct.cell? ⟨aa,3,none⟩=some (.bool false):=(aQ iV.out 3).trans rfl;have awl:=cZ iV.out 3;have aCe:ct.cell? ⟨aa,4,none⟩=some (.slice none 0 0):=(aQ iV.out 4).trans rfl;have awm:=cZ iV.out 4;refine jD (w1:=?_) (by rfl) rfl ?_ ?_;rotate_left
 ·go_simp
  rfl
 refine hK.out _ _ ((aG a8 (aG a8 (aG a8 (aG a8 (aG a8 hH)))))) (fun hH=>?_);clear hK K;refine jd aC ?_;try go_wp2
 refine bodyPost_ret (jq rfl _ _ b4 aa 28 49 #[.slice ap af.length aq] #[ah dg,.string pF,ah di,.bool dj,.slice dz dk.length e0] (0,0) (0,0) _ _ rfl bf underlying28 rfl aC rfl bf underlying49 rfl aC) rfl ?_;exact ⟨_,_,bK,(by (with_reducible repeat (first|apply Kd.bW|apply Kd.bY|apply Kd.bH));exact Kd.bF (aJ (aJ (aJ (aJ (aJ (aJ (Kd.bV (Kd.bV a9.out jM.out (by decide)) iV.out (by decide)) (fun _ hk=>hk.1.2))))))) (fun _ hk=>trivial)),(by (with_reducible repeat (first|apply Kd.bW|apply Kd.bY|apply Kd.bH));exact Kd.bF (aJ (aJ (aJ (aJ (aJ (aJ (Kd.bV (Kd.bV cn.out jM.out (by decide)) iV.out (by decide)) (fun _ hk=>hk.1.2))))))) (fun _ hk=>trivial)),ay⟩

def yh.j0:Nat→Int→Int→Int→Bool→Option (Int)
 | 0,_,_,_,_=>none
 | k+1,x0,x1,x2,a5=>if a5=true then (some x1) else (if x0 > x2 then (some x2) else (some x0))
def yh.f (k:Nat) (a0:Int) (a1:Int) (a2:Int):Option (Int):=if a2 < a1 then (yh.j0 k a0 a1 a2 true) else (yh.j0 k a0 a1 a2 (decide (a0 < a1)))
theorem yh.calls (k:Nat) (a0:Int) (a1:Int) (a2:Int) (r:Int) (w:World) (h:yh.f k a0 a1 a2=some r) :
  Calls Tryz.prog 123 #[ah a0,ah a1,ah a2] w fun e w'=>e=.returned (ah r)∧pO w w':=by
 unfold yh.f at h
 have H:=h;clear h;have a7:=m_ H;clear H;go_enter func123,ntmps123
 go_upto_region 1 with (fail)
 go_cut [14] (fun v14 wc=>∃ (kq:Nat) (a5:Bool),v14=.bool a5∧aA (yh.j0 kq a0 a1 a2 a5=some r)∧aA (kq≤k)∧pO w wc)
 case first =>
  obtain ⟨H⟩:=a7;revert H;refine fB (fun a6 H=>?_) fun a6 H=>?_
  ·try simp only [aV,aZ,a6]
   have H':=m_ H;clear H;go_wp2
   go_meet
   case rel=>exact ⟨_,(true),bC,H',⟨lM⟩,kL⟩
  try simp only [aV,aZ,a6]
  have H':=m_ H;clear H;go_wp2
  go_meet
  case rel=>exact ⟨_,(decide (a0 < a1)),bC,H',⟨lM⟩,kL⟩
 case rest =>
 clear a7;obtain ⟨kq,a5,rfl,HA,Ku,⟨aCA,rfl⟩⟩:=hcut;cases kq with
 | zero=>exact absurd HA.out (by simp [yh.j0])
 | succ CB =>
 obtain ⟨H⟩:=HA;simp only [yh.j0] at H
 by_cases c6:a5=true
 ·subst c6;rw [if_pos rfl] at H;obtain rfl:=bQ H;go_wp2
  go_ret
  exact ⟨bC,kL⟩
 replace c6:=Bool.eq_false_iff.mpr c6;subst c6;rw [if_neg iF] at H;revert H;refine fB (fun a8 H=>?_) fun a8 H=>?_
 ·obtain rfl:=bQ H;go_wp2
  go_ret
  exact ⟨bC,kL⟩
 obtain rfl:=bQ H;go_wp2
 go_ret
 exact ⟨bC,kL⟩

def D5.f (a0:Int):Option (Int):=if a0≤0 then (some 0) else (some (wrap64 ((wrap64 (Int.tdiv (wrap64 (a0 - 1)) 32))+1)))
theorem D5.calls (a0:Int) (r:Int) (w:World) (h:D5.f a0=some r) :
  Calls Tryz.prog 99 #[ah a0] w fun e w'=>e=.returned (ah r)∧pO w w':=by
 unfold D5.f at h
 have H:=h;clear h;revert H;refine fB (fun a5 H=>?_) fun a5 H=>?_
 ·obtain rfl:=bQ H;go_enter func99,ntmps99
  go_wp2
  go_ret
  exact ⟨bC,kL⟩
 obtain rfl:=bQ H;go_enter func99,ntmps99
 go_wp2
 go_ret
 exact ⟨bC,kL⟩

def vJ.l0:Nat→Int→Int→List (aF)→Option (Int)
 | 0,_,_,_=>none
 | k+1,x3,x4,a5=>if x4 < (a5.length:Int) then (if 0≤x4 then (if ((aB a5 x4).f1=true) then (vJ.l0 k x3 (wrap64 (x4+1)) a5) else ((D5.f (((aB a5 x4).f2).size:Int)).bind fun a6=>(vJ.l0 k (wrap64 (x3+a6)) (wrap64 (x4+1)) a5))) else (none)) else (some x3)
def vJ.f (k:Nat) (a5:List (aF)):Option (Int):=vJ.l0 k 0 0 a5
theorem vJ.calls (k:Nat) (ag:Option Addr) (aK:Nat) (aI:List (aF)) (r:Int) (w:World) (aH:Kd.C aS w ag aI.length aI) (aO:aI.length≤aK) (h:vJ.f k aI=some r) :
  Calls Tryz.prog 52 #[.agg #[.slice ag aI.length aK]] w fun e w'=>e=.returned (ah r)∧Below w.heap.size w w':=by
 have nT:=underlying28;have lg:=m_ aH;have ax:=m_ aO;clear aH aO;have HB:=m_ (Below.refl w.heap.size w);unfold vJ.f at h
 have H:=h;clear h;have H':=m_ H;clear H;go_enter func52,ntmps52
 go_wp2_with (first|((with_reducible refine dJ 1 ?_);refine dO 1 (cs:=#[.slice ag aI.length aK]) 28 ?_;intro ap hg w2 hbox hb;obtain ⟨HB,a6,bD,az⟩:=jR ay hb hbox hg;clear hb hbox hg))
 go_loopg [3,4] k (fun kq v3 v4 w'=>∃ (ab:Int) (a5:Int),v3=ah ab∧v4=ah a5∧aA (vJ.l0 kq ab a5 aI=some r)∧aA (kq≤k)∧aA (w'.heap[ap]?=some (.cells #[(.slice ag aI.length aK)] 28))∧aA (Below w.heap.size w w'))
 case atStart=>exact ⟨(0),(0),bC,bC,H',⟨Nat.le_refl _⟩,⟨(au a6)⟩,⟨ay⟩⟩
 case round =>
 clear H';obtain ⟨ab,a5,rfl,rfl,HA,gG,a6,HB⟩:=hrel;cases gk with
 | zero=>exact absurd HA.out (by simp [vJ.l0])
 | succ k1 =>
 obtain ⟨H⟩:=HA;simp only [vJ.l0] at H
 have b0:=m_ H;clear H;have apI:=bZ a6.out;go_upto_if 9 with (fail)
 (try clear apI)
 obtain ⟨H⟩:=b0;revert H;refine fB (fun af H=>?_) fun af H=>?_;rotate_left
 ·try simp only [aV,aZ,af]
  obtain rfl:=bQ H;go_wp2
  go_ret
  exact ⟨bK,ay⟩
 try simp only [aV,aZ,af]
 obtain ⟨b2,H⟩:=gI H;have b1:=m_ H;clear H;have y7:=bZ a6.out;have al:0≤(a5:Int):=aX aY;have am:a5 < (aI.length:Int):=aX aY;obtain ⟨aq,av,a7,a8,a9⟩:=jV lg.out a5 al am;cases av;replace a7:=fF HB.out a7;replace a8:=fF HB.out a8;replace a9:=fF HB.out a9;replace al:=eq_true al;replace am:=eq_true am;go_upto_if 18 with (fail)
 (try clear y7)
 (try clear a7 a8 a9)
 obtain ⟨H⟩:=b1;obtain ⟨Yg,TG⟩:∃ KN:Bool,KN=((aB aI a5).f1):=⟨_,rfl⟩;replace H:(if (Yg=true) then (vJ.l0 k1 ab (wrap64 (a5+1)) aI) else ((D5.f (((aB aI a5).f2).size:Int)).bind fun ai=>(vJ.l0 k1 (wrap64 (ab+ai)) (wrap64 (a5+1)) aI)))=some r:=by rw [← TG] at H;exact H
 have XO:=m_ TG;clear TG;(try rw [← XO.out])
 by_cases aT:(Yg=true)
 ·subst aT;rw [if_pos rfl] at H;have H':=m_ H;clear H;go_wp2
  go_roundg k1
  case measure=>have:=gG.out;omega
  case rel=>exact ⟨(ab),(wrap64 (a5+1)),bC,bC,H',⟨oz⟩,⟨(au a6)⟩,⟨ay⟩⟩
 replace aT:=Bool.eq_false_iff.mpr aT;subst aT;rw [if_neg iF] at H;obtain ⟨ai,b3,H⟩:=bd_ H;have H':=m_ H;clear H;have Ei:=bZ a6.out;have an:0≤(a5:Int):=aX aY;have ao:a5 < (aI.length:Int):=aX aY;obtain ⟨ar,aw,ac,aa,ae⟩:=jV lg.out a5 an ao;(try rw [← XO.out] at aa)
 obtain rfl:aq=ar:=(by injection aw);replace ac:=fF HB.out ac;replace aa:=fF HB.out aa;replace ae:=fF HB.out ae;replace an:=eq_true an;replace ao:=eq_true ao;go_wp2_with (first|((with_reducible refine cu 99 ?_);refine cO (some 27) rfl rfl func99 aC rfl #[ah (((aB aI a5).f2).size:Int)] rfl bJ ?_;(with_reducible refine (D5.calls (((aB aI a5).f2).size:Int) ai _ b3.out).mono ?_);rintro e w' ⟨rfl,⟨nd,rfl⟩⟩;refine ⟨_,rfl,?_⟩))
 go_roundg k1
 case measure=>have:=gG.out;omega
 case rel=>exact ⟨(wrap64 (ab+ai)),(wrap64 (a5+1)),bC,bC,H',⟨oz⟩,⟨(au a6)⟩,⟨ay⟩⟩

def yX.f (k:Nat) (ab:Int) (ac:Int) (ae:Int) (a8:Int) (a5:List (aF)) (a2:Int) (a3:ByteArray):Option ((List (aF)) × Int):=if 0≤a2 then (if a2 < (a5.length:Int) then ((rY.f a5).bind fun a6=>(if a2 < (a6.length:Int) then ((some (a6.set (a2:Int).toNat (⟨(aB a5 a2).f0,(aB a5 a2).f1,a3⟩:aF):List (aF))).bind fun a7=>((vJ.f k a7).bind fun a9=>(if a9 > a8 then ((rY.f a5).bind fun aa=>(some (aa,13))) else (some (a7,0))))) else (none))) else (none)) else (none)
theorem yX.calls (k:Nat) (bs:Int) (bu:Int) (bv:Int) (bb:Int) (cr:Option Addr) (bc:Nat) (bg:List (aF)) (a2:Int) (a3:ByteArray) (r1:List (aF)) (r2:Int) (w:World) (cm:Kd.C aS w cr bg.length bg) (cn:bg.length≤bc) (h:yX.f k bs bu bv bb bg a2 a3=some (r1,r2)) :
  Calls Tryz.prog 124 #[.agg #[ah bs,ah bu,ah bv,ah bb],.agg #[.slice cr bg.length bc],ah a2,.string a3] w fun e w'=>∃ fC:Value,e=.returned (.tuple #[.agg #[fC],ah r2])∧Kd.R aS 43 w' w.heap.size (fun _=>True) fC r1∧Below w.heap.size w w':=by
 have LV:=underlying25;have nT:=underlying28;have tX:=underlying43;have xK:=m_ cm;have co:=m_ cn;clear cm cn;have HB:=m_ (Below.refl w.heap.size w);unfold yX.f at h
 have H:=h;clear h;obtain ⟨e5,H⟩:=gI H;obtain ⟨e6,H⟩:=gI H;obtain ⟨aa,A7,H⟩:=bd_ H;obtain ⟨e7,H⟩:=gI H;obtain ⟨ca,d0,H⟩:=uX H;obtain ⟨d1,e8,H⟩:=bd_ H;have d2:=m_ H;clear H;go_enter func124,ntmps124
 try go_wp2_with (first|((with_reducible refine dJ 4 ?_);refine dO 4 (cs:=#[ah bs,ah bu,ah bv,ah bb]) 25 ?_;intro ao hg ed hbox hb;obtain ⟨HB,a7,dk,dl⟩:=jR ay hb hbox hg;clear hb hbox hg)|((with_reducible refine dJ 5 ?_);refine dO 5 (cs:=#[.slice cr bg.length bc]) 28 ?_;intro cc hg ee hbox hb;obtain ⟨a7,HB,a5,dm,lJ,az,b0⟩:=oO (au a7) ay hb hbox hg;clear hb hbox hg)|((with_reducible refine dJ 8 ?_);refine dO 8 (cs:=#[.slice none 0 0]) 28 ?_;intro bd hg ef hbox hb;obtain ⟨a7,a5,HB,a8,dp,dq,b1,b2,af,ag⟩:=rP (au a7) (au a5) ay hb hbox hg;clear hb hbox hg;obtain ⟨be,fA,ap,aq⟩:=iD b0 az af ag;have Xo:=bZ a5.out;have ct:0≤(a2:Int):=aX aY;have fE:a2 < (bg.length:Int):=aX aY;obtain ⟨dL,dd,b7,b8,b9⟩:=jV xK.out a2 ct fE;cases dd;replace b7:=fF HB.out b7;replace b8:=fF HB.out b8;replace b9:=fF HB.out b9;replace ct:=eq_true ct;replace fE:=eq_true fE)|((with_reducible refine dJ 10 ?_);refine dO 10 (cs:=#[.string (⟨#[]⟩:ByteArray),.bool false,.string (⟨#[]⟩:ByteArray)]) 43 ?_;intro an hg eh hbox hb;obtain ⟨a7,a5,a8,HB,uJ,dr,dt,b3,bz,aK,b4,ab,ai⟩:=zl (au a7) (au a5) (au a8) ay hb hbox hg;clear hb hbox hg;obtain ⟨cd,ce,bh,bi,ar,aT⟩:=lU bz b3 b4 aK ai ab;have d3:=qj uJ.out;have QK:=bZ a5.out)|((with_reducible refine cu 73 ?_);refine cO (some 20) rfl rfl func73 aC rfl #[.agg #[.slice (some dL) bg.length bc]] rfl bJ ?_;(with_reducible refine (rY.calls _ _ bg aa _ (Kd.qP xK.out ay) co.out A7.out).mono ?_);rintro e ei ⟨aDw,rfl,ho0,hb⟩;refine ⟨_,rfl,?_⟩;obtain ⟨a6,a7,a5,a8,uJ,HB⟩:=p_ (Kd.dR (Kd.wL ho0 (g:=an) (o:=.cells #[.string ((aB bg a2).f0),.bool ((aB bg a2).f1),.string a3] 43) adO) (bU ay)) <| p_ (aU (g:=ao) (o:=.cells #[ah bs,ah bu,ah bv,ah bb] 25) (qK a7.out b3.out) hb) <| p_ (aU (g:=cc) (o:=.cells #[.slice (some dL) bg.length bc] 28) (qK a5.out aK.out) hb) <| p_ (aU (g:=bd) (o:=.cells #[.slice none 0 0] 28) (qK a8.out ab.out) hb) <| p_ (aU (g:=an) (o:=.cells #[.string ((aB bg a2).f0),.bool ((aB bg a2).f1),.string a3] 43) adO hb) <| a_ (dV ay hb);(try clear hb))|((with_reducible refine dJ 11 ?_);refine dO 11 (cs:=#[.slice none 0 0]) 28 ?_;intro bw hg e9 hbox hb;obtain ⟨a6,a7,a5,a8,uJ,HB,a9,du,dv,aH,b5,ac,aO,ae,al,am,b6⟩:=p_ (Kd.bG (aN a6) hb) <| Ho (au a7) (au a5) (au a8) (au uJ) ay hb hbox hg;clear hb hbox hg;obtain ⟨cv,ba,de⟩:=Kd.dN a6.out;subst de;obtain ⟨bj,bl,av,aw,ax,bD,bm,fG⟩:=iq b5 aH aO ac al ae b6 am;have aEz:=bZ a9.out)|((with_reducible refine DF (t:=28) (p:=11) rfl ?_);refine D8 (t:=28) (p:=11) (v:=?aD4) (w1:=(e9.setCell ⟨bw,0,none⟩ (.slice cv aa.length ba))) ?hg ?ho ?hn ?hr ?_;(case ho=>rfl);(case hg=>rfl);(case hn=>rfl);(case hr=>first|(go_simp;done)|(go_simp;rfl));intro bq hw;have ji:=bT (⟨(by rw [hw];exact (by (with_reducible repeat (first|apply Kd.bW|apply Kd.bY|apply Kd.bH));exact Kd.bF (aJ (Kd.bV a6.out a9.out (by decide))) (fun _ hk=>hk.1.2)))⟩:aA (Kd.R aS 43 bq w.heap.size (fun ak=>ak≠an) (.slice cv aa.length ba) aa)) <| bT (⟨(by rw [hw];exact (qK a7.out aH.out))⟩:aA (bq.heap[ao]?=some (.cells #[ah bs,ah bu,ah bv,ah bb] 25))) <| bT (⟨(by rw [hw];exact (qK a5.out ac.out))⟩:aA (bq.heap[cc]?=some (.cells #[.slice (some dL) bg.length bc] 28))) <| bT (⟨(by rw [hw];exact (qK a8.out ae.out))⟩:aA (bq.heap[bd]?=some (.cells #[.slice none 0 0] 28))) <| bT (⟨(by rw [hw];exact (qK uJ.out am.out))⟩:aA (bq.heap[an]?=some (.cells #[.string ((aB bg a2).f0),.bool ((aB bg a2).f1),.string a3] 43))) <| bT (⟨(by rw [hw];exact (DV a9.out))⟩:aA (bq.heap[bw]?=some (.cells #[.slice cv aa.length ba] 28))) <| (⟨(by rw [hw];exact ay)⟩:aA (Below w.heap.size w bq));clear hw a6 a7 a5 a8 uJ a9 HB;obtain ⟨a6,a7,a5,a8,uJ,a9,HB⟩:=ji;have aEC:=bZ a9.out;have d4:=qj uJ.out;have p9:0≤(a2:Int):=aX aY;have q9:(a2:Int) < ((aa.length:Int):Int):=aX aY;obtain ⟨br,ej,lC,dx,ea,ek,dy⟩:=Kd.xQ a6.out (by omega);(first|cases lC|(injection lC with jA sQ sO;(first|subst jA|(injection jA with jA;subst jA));subst sO;clear sQ));have df:=m_ dx;have el:=m_ dy;clear dx ea dy;obtain ⟨em,dg,dz,ck,cl⟩:=Kd.nX a6.out z43 (a2:Int) p9 q9;obtain rfl:=og dz;have d5:bq.cell? ⟨br,(a2:Int).toNat * 3,none⟩=some (.string ((aB aa a2).f0)):=ck 0 _ rfl;have d6:bq.cell? ⟨br,(a2:Int).toNat * 3+1,none⟩=some (.bool ((aB aa a2).f1)):=ck 1 _ rfl;have d7:bq.cell? ⟨br,(a2:Int).toNat * 3+2,none⟩=some (.string ((aB aa a2).f2)):=ck 2 _ rfl;have e0:bq.frozen? ⟨br,(a2:Int).toNat * 3,none⟩=false:=cl 0;have e3:bq.frozen? ⟨br,(a2:Int).toNat * 3+1,none⟩=false:=cl 1;have e4:bq.frozen? ⟨br,(a2:Int).toNat * 3+2,none⟩=false:=cl 2;clear dg ck cl dz;replace p9:=eq_true p9;replace q9:=eq_true q9;have d8:=m_ (show Kd.R aS 43 bq w.heap.size (fun ak=>ak≠an) (.slice (some ⟨br,0,none⟩) aa.length ba) aa from (aN a6));obtain ⟨eb,cp,d9,bo,bx⟩:=Kd.nX d8.out z43 (a2:Int) (aX aY) (by have bI:(a2:Int) < ((aa.length:Int):Int):=aX aY;first|exact bI|(have e_:=(Kd.dn a6.out).1;omega)|simpa using bI);obtain rfl:=og d9;have Q8:=Kd.vW d8.out (a2:Int) (aX aY) (by have bI:(a2:Int) < ((aa.length:Int):Int):=aX aY;first|exact bI|(have e_:=(Kd.dn a6.out).1;omega)|simpa using bI) (seg:=[.string ((aB bg a2).f0),.bool ((aB bg a2).f1),.string a3]) (j:=0) cp bo (show 3≤3 from by decide) (x':=(⟨(aB bg a2).f0,(aB bg a2).f1,a3⟩:aF)) (qU _ _ _ (⟨(aB bg a2).f0,(aB bg a2).f1,a3⟩:aF) ) (fun _ hk=>hk);have cf:=bo 0 _ rfl;(try simp only [show (aS).sz=3 from rfl,Nat.mul_one,Nat.add_zero] at cf);have cw:=bx 0;(try simp only [show (aS).sz=3 from rfl,Nat.mul_one,Nat.add_zero] at cw);have cg:=bo 1 _ rfl;(try simp only [show (aS).sz=3 from rfl,Nat.mul_one,Nat.add_zero] at cg);have cx:=bx 1;(try simp only [show (aS).sz=3 from rfl,Nat.mul_one,Nat.add_zero] at cx);have ch:=bo 2 _ rfl;(try simp only [show (aS).sz=3 from rfl,Nat.mul_one,Nat.add_zero] at ch);have cy:=bx 2;(try simp only [show (aS).sz=3 from rfl,Nat.mul_one,Nat.add_zero] at cy);clear cp bo bx d9)|((with_reducible refine DF (t:=43) (p:=25) rfl ?_);refine D8 (t:=43) (p:=25) (v:=?aD5) (w1:=(((bq.setCell ⟨br,(a2:Int).toNat * 3,none⟩ (.string ((aB bg a2).f0))).setCell ⟨br,(a2:Int).toNat * 3+1,none⟩ (.bool ((aB bg a2).f1))).setCell ⟨br,(a2:Int).toNat * 3+2,none⟩ (.string a3))) ?hg ?ho ?hn ?hr ?_;(case ho=>rfl);(case hg=>rfl);(case hn=>rfl);(case hr=>first|(go_simp;done)|(go_simp;rfl));intro db hw;have hg:bq.grownBy db (some br):=(by rw [hw];exact Q8.2);have uP:Kd.R aS 43 db w.heap.size (fun ak=>ak≠an) (.slice (some ⟨br,0,none⟩) aa.length ba) ca:=(by rw [hw,d0.out];exact Q8.1);clear Q8;have ji:=p_ (iT (g:=ao) (o:=.cells #[ah bs,ah bu,ah bv,ah bb] 25) (au a7) hg (Kd.fD a6.out a7.out (by decide))) <| p_ (iT (g:=cc) (o:=.cells #[.slice (some dL) bg.length bc] 28) (au a5) hg (Kd.fD a6.out a5.out (by decide))) <| p_ (iT (g:=bd) (o:=.cells #[.slice none 0 0] 28) (au a8) hg (Kd.fD a6.out a8.out (by decide))) <| p_ (iT (g:=an) (o:=.cells #[.string ((aB bg a2).f0),.bool ((aB bg a2).f1),.string a3] 43) (au uJ) hg (Kd.sJ a6.out (fun _ hk=>hk))) <| p_ (uP) <| p_ (iT (g:=bw) (o:=.cells #[.slice (some ⟨br,0,none⟩) aa.length ba] 28) (au a9) hg (Kd.fD a6.out a9.out (by decide))) <| a_ ((by rw [hw];exact jy (jy (jy (HB.out) df.out) df.out) df.out:Below w.heap.size w db));clear a7 a5 a8 uJ a6 a9 HB;obtain ⟨a7,a5,a8,uJ,a6,a9,HB⟩:=ji;clear hg hw uP))
 obtain ⟨a6,a7,a5,a8,uJ,a9,HB⟩:=p_ (Kd.bH a6.out) <| Ad a7 a5 a8 uJ a9 HB;refine iU (n:=5) (S:=fun w'=>jE w' bw (.slice (some ⟨br,0,none⟩) aa.length ba) <| aep w' ao (ah bs) (ah bu) (ah bv) (ah bb)) (ds:=[]) EL aC rfl rfl ⟨(aQ a9.out 0).trans rfl,X9 a7.out⟩ (fun hH=>?_);generalize db.drew=en at a6 a7 a5 a8 uJ a9 HB hH ⊢;refine uF (i:=2) (N:=some 28) #[F_,F_,aj,F_,F_] aC ?_;refine qX (i:=0) (N:=some 26) (v:=?_) (a':=?_) #[aj,F_,aj,F_,F_] rfl rfl aC (fun _ _ _ h=>h) (Or.inl ⟨(by rfl),?_⟩) hH ?_ ?_;rotate_left
 ·rintro w' ⟨s0,s1,s2,s3,s4⟩;go_simp
  with_reducible rfl
 rotate_left
 ·simp only [fM,aV,aZ]
  rfl
 refine qX (i:=3) (N:=some 29) (v:=?_) (a':=?_) #[aj,F_,aj,aj,F_] rfl rfl aC (fun _ _ _ h=>h) (Or.inl ⟨(by rfl),?_⟩) hH ?_ ?_;rotate_left
 ·rintro w' ⟨s0,s1,s2,s3,s4⟩;go_simp
  with_reducible rfl
 rotate_left
 ·simp only [fM,aV,aZ]
  rfl
 refine iy (i:=1) (N:=some 27) EM rfl rfl aC (by decide) (fun K hK=>?_);refine jw func52 aC rfl #[.agg #[.slice (some ⟨br,0,none⟩) ca.length ba]] (by rfl) rfl rfl (by (try simp only [List.map_toArray,List.map_cons,List.map_nil]);first|done|(rw [show ca.length=aa.length from (Kd.dn a6.out).1.symm] <;> rfl)|rfl|(simp only [List.length_drop,List.length_take];rfl)) ?_
 with_reducible refine (vJ.calls k _ _ ca d1 _ ?jW ?xC e8.out).mono ?_
 (case jW=>repeat (first|exact (Kd.dn a6.out).2.2|(with_reducible refine Kd.kM ?_ _)|(with_reducible refine Kd.kR ?_ _)|(with_reducible refine Kd.kQ ?_)))
 (case xC=>rw [show ca.length=aa.length from (Kd.dn a6.out).1.symm];exact (Kd.dn a6.out).2.1)
 rintro e eo ⟨rfl,hb⟩;refine ⟨_,rfl,?_⟩;obtain ⟨a6,a7,a5,a8,uJ,a9,HB⟩:=p_ (Kd.bG (aN a6) hb) <| qJ (au a7) (au a5) (au a8) (au uJ) (au a9) ay hb;(try clear hb)
 refine hK.out _ _ ⟨(aQ a9.out 0).trans rfl,X9 a7.out⟩ (fun hH=>?_);clear hK K;refine gY (some 27) ?_;refine uF (i:=4) (N:=some 30) EN aC ?_;refine jd aC ?_;go_upto_if 30 with (fail)
 (try clear fA ce bl be ap bi aw aq aT bD cd bh ar fG bj av ax bm)
 (try clear d3)
 (try clear d4)
 (try clear cf cg ch)
 (try clear b7 b8 b9)
 (try clear d5 d6 d7)
 obtain ⟨H⟩:=d2;revert H;refine fB (fun bp H=>?_) fun bp H=>?_;rotate_left
 ·try simp only [aV,aZ,bp]
  simp only [gV] at H
  obtain ⟨rfl,rfl⟩:=H;obtain ⟨bj,bl,av,aw,ax,bD,bm,fG⟩:=iq b5 aH aO ac al ae b6 am;have aEL:=bZ a9.out;obtain ⟨ci,cj,aq,ap,aT,ar⟩:=lU b2 b1 ag af ab ai;have aed:=bZ a8.out;go_wp2
  refine bodyPost_ret (acn rfl _ _ bd 28 #[.slice (some ⟨br,0,none⟩) aa.length ba] (0,0) _ rfl bf underlying28 rfl aC) rfl ?_;exact ⟨_,bK,(by (with_reducible repeat (first|apply Kd.bW|apply Kd.bY|apply Kd.bH));exact Kd.bF (aJ (Kd.bV a6.out a8.out (by decide))) (fun _ hk=>trivial)),ay⟩
 try simp only [aV,aZ,bp]
 obtain ⟨da,ec,H⟩:=bd_ H;simp only [gV] at H
 obtain ⟨rfl,rfl⟩:=H;obtain ⟨be,fA,ap,aq,bi,bh,aw,av⟩:=iq b0 az af ag aK b4 ac aO;have aEH:=bZ a5.out;go_wp2_with (first|((with_reducible refine cu 73 ?_);refine cO (some 32) rfl rfl func73 aC rfl #[.agg #[.slice (some dL) bg.length bc]] rfl bJ ?_;(with_reducible refine (rY.calls _ _ bg da _ pK co.out ec.out).mono ?_);rintro e ep ⟨aDx,rfl,ho0,hb⟩;refine ⟨_,rfl,?_⟩;obtain ⟨a6,cq,a7,a5,a8,uJ,a9,HB⟩:=p_ (Kd.jP (aN a6) (Kd.iY ho0) hb) <| p_ (Kd.dR (Kd.wL (Kd.jQ ho0 (Kd.jl (aN a6))) (g:=an) (o:=.cells #[.string ((aB bg a2).f0),.bool ((aB bg a2).f1),.string a3] 43) (au uJ)) (bU ay)) <| qJ (au a7) (au a5) (au a8) (au uJ) (au a9) ay hb;(try clear hb);(try clear ho0);obtain ⟨pF,di,dj⟩:=Kd.dN cq.out;subst dj;obtain ⟨ci,cj,aT,ar,bD,ax⟩:=lU b2 b1 ab ai ae al;have aec:=bZ a8.out))
 refine bodyPost_ret (acn rfl _ _ bd 28 #[.slice pF da.length di] (0,0) _ rfl bf underlying28 rfl aC) rfl ?_;exact ⟨_,bK,(by (with_reducible repeat (first|apply Kd.bW|apply Kd.bY|apply Kd.bH));exact Kd.bF (aJ (Kd.bV cq.out a8.out (by decide))) (fun _ hk=>trivial)),ay⟩

def xE.l0:Nat→Int→Int→List Int→Int→Option (ByteArray)
 | 0,_,_,_,_=>none
 | k+1,x0,x1,x5,x6=>if x6 < x0 then (if 0≤x6 then (if x6 < (x5.length:Int) then (xE.l0 k x0 x1 (x5.set (x6:Int).toNat x1) (wrap64 (x6+1))) else (none)) else (none)) else (some (strOfNums x5))
def xE.f (k:Nat) (a0:Int) (a1:Int):Option (ByteArray):=if 0≤a0 then (if (a0:Int).toNat≤281474976710656 then (xE.l0 k a0 a1 (List.replicate (a0:Int).toNat 0) 0) else (none)) else (none)
theorem xE.calls (k:Nat) (a0:Int) (a1:Int) (r:ByteArray) (w:World) (h:xE.f k a0 a1=some r) :
  Calls Tryz.prog 91 #[ah a0,.int .u8 a1] w fun e w'=>e=.returned (.string r)∧Below w.heap.size w w':=by
 have HB:=m_ (Below.refl w.heap.size w);unfold xE.f at h
 have H:=h;clear h;obtain ⟨aO,al,H⟩:=jF H;obtain ⟨am,an,H⟩:=jF H;obtain ⟨ae,a8⟩:∃ y_:List Int,y_=(List.replicate (a0:Int).toNat 0):=⟨_,rfl⟩;rw [← a8] at H;have aa:=m_ a8;clear a8;have H':=m_ H;clear H;go_enter func91,ntmps91
 go_wp2_with (first|((with_reducible refine dJ 8 ?_);refine Kd.XW (Kd.int .u8) _ 5 rfl (N:=8) rfl 22 _ _ rfl a0 rfl rfl underlying22 (.int .u8 0) 1 info5 rfl (by decide) (by omega) 0 (ok:=fun _=>True) (jG:=fun _=>True) rfl (fun _ hk=>hk) trivial (aX aY) (Nat.le_trans (Nat.mul_le_mul_right _ (aX aY:a0.toNat≤281474976710656)) (by omega)) (Below.refl _ _) (Nat.le_refl _) ?_;intro aoT w5 vO hb mF mG;clear mF mG;(first|rw [← aa.out] at vO|(simp only [Int.reduceToNat] at vO;rw [← aa.out] at vO));obtain ⟨af,HB⟩:=p_ (Kd.dR vO (bU ay)) <| a_ (dV ay hb);clear hb vO))
 go_loopg [6] k (fun kq v6 w'=>∃ (a7:List Int) (a5:Int),v6=ah a5∧aA (xE.l0 kq a0 a1 a7 a5=some r)∧aA (kq≤k)∧aA (Kd.R (Kd.int .u8) 5 w' w.heap.size (fun _=>True) aoT a7)∧aA (Below w.heap.size w w'))
 case atStart=>exact ⟨(ae),(0),bC,H',⟨Nat.le_refl _⟩,⟨(aN af)⟩,⟨ay⟩⟩
 case round =>
 clear H';try clear c3;try clear aO;try clear al;try clear c4;try clear am;try clear an
 obtain ⟨a7,a5,rfl,HA,gG,a6,HB⟩:=hrel;cases gk with
 | zero=>exact absurd HA.out (by simp [xE.l0])
 | succ k1 =>
 obtain ⟨H⟩:=HA;simp only [xE.l0] at H
 revert H;refine fB (fun ao H=>?_) fun ao H=>?_;rotate_left
 ·obtain rfl:=bQ H;have aqs:=abY (P:=Tryz.prog) underlying22 underlying5 underlying9 (Kd.P5 a6.out);go_wp2
  go_ret
  exact ⟨bK,ay⟩
 obtain ⟨az,H⟩:=gI H;obtain ⟨b0,H⟩:=gI H;obtain ⟨ab,a9⟩:∃ y_:List Int,y_=(a7.set (a5:Int).toNat a1):=⟨_,rfl⟩;rw [← a9] at H;have ag:=m_ a9;clear a9;have H':=m_ H;clear H;have ap:0≤(a5:Int):=aX aY;have aq:(a5:Int) < ((a7.length:Int):Int):=aX aY;obtain ⟨ac,ar,aK,ai,aT,b1,aH⟩:=Kd.xQ a6.out (by omega);(first|cases aK|(injection aK with jA sQ sO;(first|subst jA|(injection jA with jA;subst jA));subst sO;clear sQ))
 have av:=m_ ai;have b2:=m_ aH;clear ai aT aH;obtain ⟨aw,ax⟩:=Kd.Rq 0 a6.out (a5:Int) ap aq;replace ap:=eq_true ap;replace aq:=eq_true aq;have QU:=Kd.XY a6.out (a5:Int) a1;go_wp2_with (first|((with_reducible refine DF (t:=5) (p:=17) rfl ?_);refine D8 (t:=5) (p:=17) (v:=?aDZ) (w1:=(wr.setCell ⟨ac,(a5:Int).toNat,none⟩ (.int .u8 a1))) ?hg ?ho ?hn ?hr ?_;(case ho=>rfl);(case hg=>rfl);(case hn=>rfl);(case hr=>first|(go_simp;done)|(go_simp;rfl));intro bD hw;have hg:wr.grownBy bD (some ac):=(by rw [hw];exact QU.2);have uP:Kd.R (Kd.int .u8) 5 bD w.heap.size (fun _=>True) (.slice (some ⟨ac,0,none⟩) a7.length ar) ab:=(by rw [hw,ag.out];exact QU.1);clear QU;have ji:=p_ (uP) <| a_ ((by rw [hw];exact jy (HB.out) av.out:Below w.heap.size w bD));clear a6 HB;obtain ⟨a6,HB⟩:=ji;clear hg hw uP))
 go_roundg k1
 case measure=>have:=gG.out;omega
 case rel=>exact ⟨(ab),(wrap64 (a5+1)),bC,H',⟨oz⟩,⟨(aN a6)⟩,⟨ay⟩⟩

def AB.f (k:Nat) (a0:Int):Option (ByteArray):=(vC.f a0 0 20000).bind fun a5=>(if a5=true then ((xE.f k a0 0).bind fun a6=>(some a6)) else (some (⟨#[]⟩:ByteArray)))
theorem AB.calls (k:Nat) (a0:Int) (r:ByteArray) (w:World) (h:AB.f k a0=some r) :
  Calls Tryz.prog 146 #[ah a0] w fun e w'=>e=.returned (.string r)∧Below w.heap.size w w':=by
 have HB:=m_ (Below.refl w.heap.size w);unfold AB.f at h
 have H:=h;clear h;obtain ⟨a5,A2,H⟩:=bd_ H;have a7:=m_ H;clear H;go_enter func146,ntmps146
 go_upto_if 5 with (first|((with_reducible refine cu 98 ?_);refine cO (some 4) rfl rfl func98 aC rfl #[ah a0,ah 0,ah 20000] rfl bJ ?_;(with_reducible refine (vC.calls a0 0 20000 a5 _ A2.out).mono ?_);rintro e w' ⟨rfl,⟨nd,rfl⟩⟩;refine ⟨_,rfl,?_⟩))
 (try simp only [fM])
 obtain ⟨H⟩:=a7;by_cases c4:a5=true
 rotate_left
 ·replace c4:=Bool.eq_false_iff.mpr c4;subst c4;rw [if_neg iF] at H;obtain rfl:=bQ H;go_wp2
  go_ret
  exact ⟨bK,ay⟩
 subst c4;rw [if_pos rfl] at H;obtain ⟨a6,A5,H⟩:=bd_ H;obtain rfl:=bQ H;go_wp2_with (first|((with_reducible refine cu 91 ?_);refine cO (some 7) rfl rfl func91 aC rfl #[ah a0,.int .u8 0] rfl bJ ?_;(with_reducible refine (xE.calls k a0 0 a6 _ A5.out).mono ?_);rintro e w6 ⟨rfl,hb⟩;refine ⟨_,rfl,?_⟩;have dH:=m_ (dV ay hb);clear HB;have HB:=dH;clear dH;(try clear hb)))
 go_ret
 exact ⟨bK,ay⟩

def vw.j0:Nat→ByteArray→Int→ByteArray→Bool→Option (ByteArray)
 | 0,_,_,_,_=>none
 | k+1,x0,x1,x2,aO=>if aO=true then (some x0) else (if (x0.size:Int) < x1 then ((AB.f k (wrap64 (x1 - (x0.size:Int)))).bind fun a6=>(if x0.size+a6.size≤9223372036854775807 then ((some (x0++a6:ByteArray)).bind fun a5=>(if (wrap64 (x1+(x2.size:Int))) > (a5.size:Int) then (if 0≤x1 then (if x1≤(a5.size:Int) then ((some (a5.extract 0 (x1:Int).toNat:ByteArray)).bind fun a7=>(if a7.size+x2.size≤9223372036854775807 then ((some (a7++x2:ByteArray)).bind fun ag=>(some ag)) else (none))) else (none)) else (none)) else (if 0≤x1 then (if x1≤(a5.size:Int) then ((some (a5.extract 0 (x1:Int).toNat:ByteArray)).bind fun a8=>(if a8.size+x2.size≤9223372036854775807 then ((some (a8++x2:ByteArray)).bind fun a9=>(if 0≤(wrap64 (x1+(x2.size:Int))) then (if (wrap64 (x1+(x2.size:Int)))≤(a5.size:Int) then ((some (a5.extract ((wrap64 (x1+(x2.size:Int))):Int).toNat a5.size:ByteArray)).bind fun aa=>(if a9.size+aa.size≤9223372036854775807 then ((some (a9++aa:ByteArray)).bind fun aK=>(some aK)) else (none))) else (none)) else (none))) else (none))) else (none)) else (none)))) else (none))) else (if (wrap64 (x1+(x2.size:Int))) > (x0.size:Int) then (if 0≤x1 then (if x1≤(x0.size:Int) then ((some (x0.extract 0 (x1:Int).toNat:ByteArray)).bind fun ab=>(if ab.size+x2.size≤9223372036854775807 then ((some (ab++x2:ByteArray)).bind fun ai=>(some ai)) else (none))) else (none)) else (none)) else (if 0≤x1 then (if x1≤(x0.size:Int) then ((some (x0.extract 0 (x1:Int).toNat:ByteArray)).bind fun ac=>(if ac.size+x2.size≤9223372036854775807 then ((some (ac++x2:ByteArray)).bind fun ae=>(if 0≤(wrap64 (x1+(x2.size:Int))) then (if (wrap64 (x1+(x2.size:Int)))≤(x0.size:Int) then ((some (x0.extract ((wrap64 (x1+(x2.size:Int))):Int).toNat x0.size:ByteArray)).bind fun af=>(if ae.size+af.size≤9223372036854775807 then ((some (ae++af:ByteArray)).bind fun aH=>(some aH)) else (none))) else (none)) else (none))) else (none))) else (none)) else (none))))
def vw.f (k:Nat) (a0:ByteArray) (a1:Int) (a2:ByteArray):Option (ByteArray):=if a2.toList=([]:List UInt8) then (vw.j0 k a0 a1 a2 true) else (if a1 < 0 then (vw.j0 k a0 a1 a2 true) else (if a1 > (wrap64 (128 - (a2.size:Int))) then (vw.j0 k a0 a1 a2 true) else (vw.j0 k a0 a1 a2 (decide ((a0.size:Int) > 128)))))
theorem vw.calls (k:Nat) (a0:ByteArray) (a1:Int) (a2:ByteArray) (r:ByteArray) (w:World) (h:vw.f k a0 a1 a2=some r) :
  Calls Tryz.prog 125 #[.string a0,ah a1,.string a2] w fun e w'=>e=.returned (.string r)∧Below w.heap.size w w':=by
 have HB:=m_ (Below.refl w.heap.size w);unfold vw.f at h
 have H:=h;clear h;have dL:=m_ H;clear H;go_enter func125,ntmps125
 go_upto_region 1 with (fail)
 repeat (go_quiet (fail);go_upto_region 1 with (fail))
 go_cut [25] (fun v25 wc=>∃ (kq:Nat) (aK:Bool),v25=.bool aK∧aA (vw.j0 kq a0 a1 a2 aK=some r)∧aA (kq≤k)∧aA (Below w.heap.size w wc))
 case first =>
  obtain ⟨H⟩:=dL;revert H;refine eU (fun c5 H=>?_) fun c5 H=>?_
  ·have ae:=fU c5;have b5:=fV c5;clear c5;(first|rw [ae]|(simp only [aV,aZ];rw [ae])|rw [show (a2.toList).isEmpty=true from by simpa using ae]|skip)
   have H':=m_ H;clear H;go_wp2
   repeat (go_quiet (fail);try go_wp2)
   go_meet
   case rel=>exact ⟨_,(true),bC,H',⟨lM⟩,⟨ay⟩⟩
  have ae:=fZ c5;have b5:=f_ c5;(first|rw [ae]|(simp only [aV,aZ];rw [ae])|rw [show (a2.toList).isEmpty=false from by simpa using ae]|skip)
  revert H;refine fB (fun b6 H=>?_) fun b6 H=>?_
  ·have H':=m_ H;clear H;go_wp2
   repeat (go_quiet (fail);try go_wp2)
   go_meet
   case rel=>exact ⟨_,(true),bC,H',⟨lM⟩,⟨ay⟩⟩
  revert H;refine fB (fun b7 H=>?_) fun b7 H=>?_
  ·have H':=m_ H;clear H;go_wp2
   repeat (go_quiet (fail);try go_wp2)
   go_meet
   case rel=>exact ⟨_,(true),bC,H',⟨lM⟩,⟨ay⟩⟩
  have H':=m_ H;clear H;go_wp2
  repeat (go_quiet (fail);try go_wp2)
  go_meet
  case rel=>exact ⟨_,(decide ((a0.size:Int) > 128)),bC,H',⟨lM⟩,⟨ay⟩⟩
 case rest =>
 clear dL;obtain ⟨kq,aK,rfl,HA,Ku,HB⟩:=hcut;cases kq with
 | zero=>exact absurd HA.out (by simp [vw.j0])
 | succ CB =>
 obtain ⟨H⟩:=HA;simp only [vw.j0] at H
 by_cases c8:aK=true
 ·subst c8;rw [if_pos rfl] at H;obtain rfl:=bQ H;go_wp2
  repeat (go_quiet (fail);try go_wp2)
  go_ret
  exact ⟨bK,ay⟩
 replace c8:=Bool.eq_false_iff.mpr c8;subst c8;rw [if_neg iF] at H;revert H;refine fB (fun bh H=>?_) fun bh H=>?_;rotate_left
 ·revert H;refine fB (fun am H=>?_) fun am H=>?_
  ·obtain ⟨bx,bz,H⟩:=jF H;obtain ⟨ca,cc,H⟩:=jF H;obtain ⟨aO,an⟩:∃ y_:ByteArray,(a0.extract 0 (a1:Int).toNat)=y_:=⟨_,rfl⟩;replace H:(if aO.size+a2.size≤9223372036854775807 then ((some (aO++a2:ByteArray)).bind fun b2=>(some b2)) else (none))=some r:=by rw [← an];exact (Option.bind_some _ _).symm.trans H
   (try simp only [Int.toNat_natCast] at an)
   obtain ⟨b9,H⟩:=lT H;have cd:=eq_true b9;have ce:=nJ b9;try have cf:(9223372036854775807 < aO.size+a2.size)=False:=eq_false (Nat.not_lt.2 b9)
   clear b9;obtain ⟨b2,ao⟩:∃ y_:ByteArray,(aO++a2)=y_:=⟨_,rfl⟩;replace H:(some b2)=some r:=by rw [← ao];exact (Option.bind_some _ _).symm.trans H
   (try simp only [Int.toNat_natCast] at ao)
   obtain rfl:=bQ H;go_wp2
   repeat (go_quiet (fail);try go_wp2)
   go_ret
   exact ⟨bK,ay⟩
  obtain ⟨cg,ch,H⟩:=jF H;obtain ⟨ci,cj,H⟩:=jF H;obtain ⟨al,ap⟩:∃ y_:ByteArray,(a0.extract 0 (a1:Int).toNat)=y_:=⟨_,rfl⟩;replace H:(if al.size+a2.size≤9223372036854775807 then ((some (al++a2:ByteArray)).bind fun a9=>(if 0≤(wrap64 (a1+(a2.size:Int))) then (if (wrap64 (a1+(a2.size:Int)))≤(a0.size:Int) then ((some (a0.extract ((wrap64 (a1+(a2.size:Int))):Int).toNat a0.size:ByteArray)).bind fun a8=>(if a9.size+a8.size≤9223372036854775807 then ((some (a9++a8:ByteArray)).bind fun ac=>(some ac)) else (none))) else (none)) else (none))) else (none))=some r:=by rw [← ap];exact (Option.bind_some _ _).symm.trans H
  (try simp only [Int.toNat_natCast] at ap)
  obtain ⟨ba,H⟩:=lT H;have ck:=eq_true ba;have cl:=nJ ba;try have cm:(9223372036854775807 < al.size+a2.size)=False:=eq_false (Nat.not_lt.2 ba)
  clear ba;obtain ⟨a9,aq⟩:∃ y_:ByteArray,(al++a2)=y_:=⟨_,rfl⟩;replace H:(if 0≤(wrap64 (a1+(a2.size:Int))) then (if (wrap64 (a1+(a2.size:Int)))≤(a0.size:Int) then ((some (a0.extract ((wrap64 (a1+(a2.size:Int))):Int).toNat a0.size:ByteArray)).bind fun a8=>(if a9.size+a8.size≤9223372036854775807 then ((some (a9++a8:ByteArray)).bind fun ac=>(some ac)) else (none))) else (none)) else (none))=some r:=by rw [← aq];exact (Option.bind_some _ _).symm.trans H
  (try simp only [Int.toNat_natCast] at aq)
  obtain ⟨L_,Lu⟩:∃ mZ:Int,(wrap64 (a1+(a2.size:Int)))=mZ:=⟨_,rfl⟩;replace H:(if 0≤(L_) then (if (L_)≤(a0.size:Int) then ((some (a0.extract ((L_):Int).toNat a0.size:ByteArray)).bind fun a8=>(if a9.size+a8.size≤9223372036854775807 then ((some (a9++a8:ByteArray)).bind fun ac=>(some ac)) else (none))) else (none)) else (none))=some r:=by first|(rw [Lu] at H;exact H)|(simp only [Lu] at H ⊢;exact H)
  (try rw [Lu] at am)
  have aAy:(IntKind.i64.wrap (a1+(a2.size:Int)))=L_:=(aV _).trans Lu;obtain ⟨cn,co,H⟩:=jF H;obtain ⟨cp,cq,H⟩:=jF H;obtain ⟨a8,ar⟩:∃ y_:ByteArray,(a0.extract ((L_):Int).toNat a0.size)=y_:=⟨_,rfl⟩;replace H:(if a9.size+a8.size≤9223372036854775807 then ((some (a9++a8:ByteArray)).bind fun ac=>(some ac)) else (none))=some r:=by rw [← ar];exact (Option.bind_some _ _).symm.trans H
  (try simp only [Int.toNat_natCast] at ar)
  obtain ⟨bb,H⟩:=lT H;have cr:=eq_true bb;have ct:=nJ bb;try have fE:(9223372036854775807 < a9.size+a8.size)=False:=eq_false (Nat.not_lt.2 bb)
  clear bb;obtain ⟨ac,aT⟩:∃ y_:ByteArray,(a9++a8)=y_:=⟨_,rfl⟩;replace H:(some ac)=some r:=by rw [← aT];exact (Option.bind_some _ _).symm.trans H
  (try simp only [Int.toNat_natCast] at aT)
  obtain rfl:=bQ H;go_wp2
  repeat (go_quiet (fail);try go_wp2)
  go_ret
  exact ⟨(by first|rfl|(simp [sS,sU] <;> rfl)|(simp only [← Lu];first|rfl|(simp [sS,sU] <;> rfl))|(simp [*,sS,sU] <;> rfl)),ay⟩
 obtain ⟨ai,bp,H⟩:=bd_ H;obtain ⟨bc,H⟩:=lT H;have cv:=eq_true bc;have cw:=nJ bc;try have cx:(9223372036854775807 < a0.size+ai.size)=False:=eq_false (Nat.not_lt.2 bc)
 clear bc;obtain ⟨a5,av⟩:∃ y_:ByteArray,(a0++ai)=y_:=⟨_,rfl⟩;replace H:(if (wrap64 (a1+(a2.size:Int))) > (a5.size:Int) then (if 0≤a1 then (if a1≤(a5.size:Int) then ((some (a5.extract 0 (a1:Int).toNat:ByteArray)).bind fun af=>(if af.size+a2.size≤9223372036854775807 then ((some (af++a2:ByteArray)).bind fun aH=>(some aH)) else (none))) else (none)) else (none)) else (if 0≤a1 then (if a1≤(a5.size:Int) then ((some (a5.extract 0 (a1:Int).toNat:ByteArray)).bind fun ag=>(if ag.size+a2.size≤9223372036854775807 then ((some (ag++a2:ByteArray)).bind fun a7=>(if 0≤(wrap64 (a1+(a2.size:Int))) then (if (wrap64 (a1+(a2.size:Int)))≤(a5.size:Int) then ((some (a5.extract ((wrap64 (a1+(a2.size:Int))):Int).toNat a5.size:ByteArray)).bind fun a6=>(if a7.size+a6.size≤9223372036854775807 then ((some (a7++a6:ByteArray)).bind fun aa=>(some aa)) else (none))) else (none)) else (none))) else (none))) else (none)) else (none)))=some r:=by rw [← av];exact (Option.bind_some _ _).symm.trans H
 (try simp only [Int.toNat_natCast] at av)
 have b8:=m_ H;clear H;go_upto_if 45 with (first|(go_at_call 146;(with_reducible refine (AB.calls CB (wrap64 (a1 - (a0.size:Int))) ai _ bp.out).mono ?_);rintro e cy ⟨rfl,hb⟩;have dH:=m_ (dV ay hb);clear HB;have HB:=dH;clear dH;(try clear hb)))
 repeat (go_quiet (first|(go_at_call 146;(with_reducible refine (AB.calls CB (wrap64 (a1 - (a0.size:Int))) ai _ bp.out).mono ?_);rintro e cy ⟨rfl,hb⟩;have dH:=m_ (dV ay hb);clear HB;have HB:=dH;clear dH;(try clear hb)));go_upto_if 45 with (first|(go_at_call 146;(with_reducible refine (AB.calls CB (wrap64 (a1 - (a0.size:Int))) ai _ bp.out).mono ?_);rintro e cy ⟨rfl,hb⟩;have dH:=m_ (dV ay hb);clear HB;have HB:=dH;clear dH;(try clear hb))))
 (try simp only [fM])
 obtain ⟨H⟩:=b8;revert H;refine fB (fun ab H=>?_) fun ab H=>?_
 ·try simp only [aV,aZ,ab]
  obtain ⟨cz,d0,H⟩:=jF H;obtain ⟨d1,d2,H⟩:=jF H;obtain ⟨af,aw⟩:∃ y_:ByteArray,(a5.extract 0 (a1:Int).toNat)=y_:=⟨_,rfl⟩;replace H:(if af.size+a2.size≤9223372036854775807 then ((some (af++a2:ByteArray)).bind fun aH=>(some aH)) else (none))=some r:=by rw [← aw];exact (Option.bind_some _ _).symm.trans H
  (try simp only [Int.toNat_natCast] at aw)
  obtain ⟨bd,H⟩:=lT H;have d3:=eq_true bd;have d4:=nJ bd;try have d5:(9223372036854775807 < af.size+a2.size)=False:=eq_false (Nat.not_lt.2 bd)
  clear bd;obtain ⟨aH,ax⟩:∃ y_:ByteArray,(af++a2)=y_:=⟨_,rfl⟩;replace H:(some aH)=some r:=by rw [← ax];exact (Option.bind_some _ _).symm.trans H
  (try simp only [Int.toNat_natCast] at ax)
  obtain rfl:=bQ H;go_wp2
  repeat (go_quiet (fail);try go_wp2)
  go_ret
  exact ⟨bK,ay⟩
 try simp only [aV,aZ,ab]
 obtain ⟨d6,d7,H⟩:=jF H;obtain ⟨d8,d9,H⟩:=jF H;obtain ⟨ag,bD⟩:∃ y_:ByteArray,(a5.extract 0 (a1:Int).toNat)=y_:=⟨_,rfl⟩;replace H:(if ag.size+a2.size≤9223372036854775807 then ((some (ag++a2:ByteArray)).bind fun a7=>(if 0≤(wrap64 (a1+(a2.size:Int))) then (if (wrap64 (a1+(a2.size:Int)))≤(a5.size:Int) then ((some (a5.extract ((wrap64 (a1+(a2.size:Int))):Int).toNat a5.size:ByteArray)).bind fun a6=>(if a7.size+a6.size≤9223372036854775807 then ((some (a7++a6:ByteArray)).bind fun aa=>(some aa)) else (none))) else (none)) else (none))) else (none))=some r:=by rw [← bD];exact (Option.bind_some _ _).symm.trans H
 (try simp only [Int.toNat_natCast] at bD)
 obtain ⟨be,H⟩:=lT H;have da:=eq_true be;have db:=nJ be;try have dd:(9223372036854775807 < ag.size+a2.size)=False:=eq_false (Nat.not_lt.2 be)
 clear be;obtain ⟨a7,az⟩:∃ y_:ByteArray,(ag++a2)=y_:=⟨_,rfl⟩;replace H:(if 0≤(wrap64 (a1+(a2.size:Int))) then (if (wrap64 (a1+(a2.size:Int)))≤(a5.size:Int) then ((some (a5.extract ((wrap64 (a1+(a2.size:Int))):Int).toNat a5.size:ByteArray)).bind fun a6=>(if a7.size+a6.size≤9223372036854775807 then ((some (a7++a6:ByteArray)).bind fun aa=>(some aa)) else (none))) else (none)) else (none))=some r:=by rw [← az];exact (Option.bind_some _ _).symm.trans H
 (try simp only [Int.toNat_natCast] at az)
 obtain ⟨L9,Ls⟩:∃ mZ:Int,(wrap64 (a1+(a2.size:Int)))=mZ:=⟨_,rfl⟩;replace H:(if 0≤(L9) then (if (L9)≤(a5.size:Int) then ((some (a5.extract ((L9):Int).toNat a5.size:ByteArray)).bind fun a6=>(if a7.size+a6.size≤9223372036854775807 then ((some (a7++a6:ByteArray)).bind fun aa=>(some aa)) else (none))) else (none)) else (none))=some r:=by first|(rw [Ls] at H;exact H)|(simp only [Ls] at H ⊢;exact H)
 (try rw [Ls] at ab)
 have aAx:(IntKind.i64.wrap (a1+(a2.size:Int)))=L9:=(aV _).trans Ls;obtain ⟨de,df,H⟩:=jF H;obtain ⟨dg,pF,H⟩:=jF H;obtain ⟨a6,b0⟩:∃ y_:ByteArray,(a5.extract ((L9):Int).toNat a5.size)=y_:=⟨_,rfl⟩;replace H:(if a7.size+a6.size≤9223372036854775807 then ((some (a7++a6:ByteArray)).bind fun aa=>(some aa)) else (none))=some r:=by rw [← b0];exact (Option.bind_some _ _).symm.trans H
 (try simp only [Int.toNat_natCast] at b0)
 obtain ⟨fA,H⟩:=lT H;have di:=eq_true fA;have dj:=nJ fA;try have dk:(9223372036854775807 < a7.size+a6.size)=False:=eq_false (Nat.not_lt.2 fA)
 clear fA;obtain ⟨aa,b1⟩:∃ y_:ByteArray,(a7++a6)=y_:=⟨_,rfl⟩;replace H:(some aa)=some r:=by rw [← b1];exact (Option.bind_some _ _).symm.trans H
 (try simp only [Int.toNat_natCast] at b1)
 obtain rfl:=bQ H;go_wp2
 repeat (go_quiet (fail);try go_wp2)
 go_ret
 exact ⟨(by first|rfl|(simp [sS,sU] <;> rfl)|(simp only [← Ls];first|rfl|(simp [sS,sU] <;> rfl))|(simp [*,sS,sU] <;> rfl)),ay⟩

def D6.f (k:Nat) (a0:ByteArray) (a1:Int):Option (ByteArray):=(vC.f a1 0 128).bind fun a6=>(if a6=true then (if a1≤(a0.size:Int) then (if 0≤a1 then (some (a0.extract 0 (a1:Int).toNat)) else (none)) else ((AB.f k (wrap64 (a1 - (a0.size:Int)))).bind fun a5=>(if a0.size+a5.size≤9223372036854775807 then (some (a0++a5)) else (none)))) else (some a0))
theorem D6.calls (k:Nat) (a0:ByteArray) (a1:Int) (r:ByteArray) (w:World) (h:D6.f k a0 a1=some r) :
  Calls Tryz.prog 126 #[.string a0,ah a1] w fun e w'=>e=.returned (.string r)∧Below w.heap.size w w':=by
 have HB:=m_ (Below.refl w.heap.size w);unfold D6.f at h
 have H:=h;clear h;obtain ⟨a6,A3,H⟩:=bd_ H;have a9:=m_ H;clear H;go_enter func126,ntmps126
 go_upto_if 7 with (first|((with_reducible refine cu 98 ?_);refine cO (some 6) rfl rfl func98 aC rfl #[ah a1,ah 0,ah 128] rfl bJ ?_;(with_reducible refine (vC.calls a1 0 128 a6 _ A3.out).mono ?_);rintro e w' ⟨rfl,⟨nd,rfl⟩⟩;refine ⟨_,rfl,?_⟩))
 (try simp only [fM])
 obtain ⟨H⟩:=a9;by_cases c5:a6=true
 rotate_left
 ·replace c5:=Bool.eq_false_iff.mpr c5;subst c5;rw [if_neg iF] at H;obtain rfl:=bQ H;go_wp2
  go_ret
  exact ⟨bK,ay⟩
 subst c5;rw [if_pos rfl] at H;revert H;refine fB (fun a5 H=>?_) fun a5 H=>?_
 ·try simp only [aV,aZ,a5]
  obtain ⟨ae,af,H⟩:=jF H;have ag:=eq_true (aX aY:a1≤(a0.size:Int));obtain rfl:=bQ H;go_wp2
  go_ret
  exact ⟨bK,ay⟩
 try simp only [aV,aZ,a5]
 obtain ⟨a7,A9,H⟩:=bd_ H;obtain ⟨a8,H⟩:=lT H;have aa:=eq_true a8;have ab:=nJ a8;try have ac:(9223372036854775807 < a0.size+a7.size)=False:=eq_false (Nat.not_lt.2 a8)
 obtain rfl:=bQ H;go_wp2_with (first|((with_reducible refine cu 146 ?_);refine cO (some 21) rfl rfl func146 aC rfl #[ah (wrap64 (a1 - (a0.size:Int)))] rfl bJ ?_;(with_reducible refine (AB.calls k (wrap64 (a1 - (a0.size:Int))) a7 _ A9.out).mono ?_);rintro e aK ⟨rfl,hb⟩;refine ⟨_,rfl,?_⟩;have dH:=m_ (dV ay hb);clear HB;have HB:=dH;clear dH;(try clear hb)))
 go_ret
 exact ⟨bK,ay⟩

end Go.Proofs.YthejdhjpbpamoaaGreatDoor.pU
