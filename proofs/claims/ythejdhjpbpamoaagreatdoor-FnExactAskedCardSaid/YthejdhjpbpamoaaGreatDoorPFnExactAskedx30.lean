/- Calls return what the Lean functions beside them compute. Conditions: each theorem's own. -/
import Derived.Test.YthejdhjpbpamoaaGreatDoorPkFnExactAsked
import Derived.Test.YthejdhjpbpamoaaGreatDoorPFnExactAskedx2
import Derived.Test.YthejdhjpbpamoaaGreatDoorPFnExactAskedx27
namespace Go.Proofs.YthejdhjpbpamoaaGreatDoor.pU
open Go.RowKit Go.Proofs.YthejdhjpbpamoaaGreatDoorW.jk Go.Proofs.YthejdhjpbpamoaaGreatDoorW.qI Go.Proofs.YthejdhjpbpamoaaGreatDoorW.vV Go.Proofs.Tryz
attribute [local go_sem] yN yR yQ yU yP yT yO yS
set_option linter.unusedVariables false
set_option maxHeartbeats 8000000
set_option maxRecDepth 100000
set_option linter.unusedSimpArgs false

def Au.f (k:Nat) (a5:Int) (a6:ByteArray) (a7:Int) (a8:Bool) (a9:List ByteArray) (aa:Int) (ab:ByteArray) (ac:Int) (ae:Bool) (af:List ByteArray):Option (Bool):=if a5=aa then (if a6.toList=ab.toList then (if a7=ac then (if (a8 != ae)=true then (some false) else ((wZ.f k a9 af).bind fun ag=>(if ag=true then (some true) else (some false)))) else (some false)) else (some false)) else (some false)
theorem Au.calls (k:Nat) (aO:Int) (al:ByteArray) (am:Int) (a9:Bool) (dX:Option Addr) (dW:Nat) (bP:List ByteArray) (iW:Int) (iC:ByteArray) (iM:Int) (aa:Bool) (an:Option Addr) (ao:Nat) (ae:List ByteArray) (r:Bool) (w:World) (ap:Kd.C Kd.string w dX bP.length bP) (aq:bP.length≤dW) (ar:Kd.C Kd.string w an ae.length ae) (aT:ae.length≤ao) (h:Au.f k aO al am a9 bP iW iC iM aa ae=some r) :
  Calls Tryz.prog 34 #[.agg #[ah aO,.string al,ah am,.bool a9,.slice dX bP.length dW],.agg #[ah iW,.string iC,ah iM,.bool aa,.slice an ae.length ao]] w fun e w'=>e=.returned (.bool r)∧Below w.heap.size w w':=by
 have wE:=underlying49;have Kz:=m_ ap;have ax:=m_ aq;clear ap aq;have bD:=m_ ar;have az:=m_ aT;clear ar aT;have HB:=m_ (Below.refl w.heap.size w);unfold Au.f at h
 have H:=h;clear h;have bj:=m_ H;clear H;go_enter func34,ntmps34
 go_upto_if 9 with (first|((with_reducible refine dJ 2 ?_);refine dO 2 (cs:=#[ah aO,.string al,ah am,.bool a9,.slice dX bP.length dW]) 49 ?_;intro bl hg w4 hbox hb;obtain ⟨HB,ab,bm,fG⟩:=jR ay hb hbox hg;clear hb hbox hg)|((with_reducible refine dJ 3 ?_);refine dO 3 (cs:=#[ah iW,.string iC,ah iM,.bool aa,.slice an ae.length ao]) 49 ?_;intro bo hg w5 hbox hb;obtain ⟨ab,HB,af,bp,bq,a7,a8⟩:=oO (au ab) ay hb hbox hg;clear hb hbox hg;obtain ⟨a5,a6⟩:=gy a7 a8;have br:=jc ab.out;have bs:=jc af.out))
 (try simp only [fM])
 (try clear a5 a6)
 (try clear br)
 (try clear bs)
 obtain ⟨H⟩:=bj;revert H;refine eU (fun c9 H=>?_) fun c9 H=>?_;rotate_left
 ·have ai:=fZ c9;have bi:=f_ c9;try simp only [aV,aZ,ai]
  obtain rfl:=bQ H;go_wp2
  go_ret
  exact ⟨bK,ay⟩
 have ai:=fU c9;have bi:=fV c9;clear c9;try simp only [aV,aZ,ai]
 have b0:=m_ H;clear H;obtain ⟨a5,a6⟩:=gy a7 a8;have b1:=jc ab.out;have b2:=jc af.out;go_upto_if 14 with (fail)
 (try clear a5 a6)
 (try clear b1)
 (try clear b2)
 obtain ⟨H⟩:=b0;revert H;refine eU (fun av H=>?_) fun av H=>?_;rotate_left
 ·have ag:=fZ av;have b3:=f_ av;try simp only [aV,aZ,ag]
  obtain rfl:=bQ H;go_wp2
  go_ret
  exact ⟨bK,ay⟩
 have ag:=fU av;have b3:=fV av;clear av;try simp only [aV,aZ,ag]
 have b4:=m_ H;clear H;have b5:=jc ab.out;have b6:=jc af.out;go_upto_if 19 with (fail)
 (try clear a5 a6)
 (try clear b5)
 (try clear b6)
 obtain ⟨H⟩:=b4;revert H;refine eU (fun aw H=>?_) fun aw H=>?_;rotate_left
 ·have aK:=fZ aw;have b7:=f_ aw;try simp only [aV,aZ,aK]
  obtain rfl:=bQ H;go_wp2
  go_ret
  exact ⟨bK,ay⟩
 have aK:=fU aw;have b7:=fV aw;clear aw;try simp only [aV,aZ,aK]
 have b8:=m_ H;clear H;have b9:=jc ab.out;have ba:=jc af.out;go_upto_if 24 with (fail)
 (try clear a5 a6)
 (try clear b9)
 (try clear ba)
 obtain ⟨H⟩:=b8;revert H;refine eU (fun aH H=>?_) fun aH H=>?_
 ·have ac:(a9 != aa)=true:=aH;(try (have bb:decide (a9=aa)=false:=by simpa using aH))
  (try (have bc:(a9 == aa)=false:=by simpa using aH))
  (try (have bu:¬ (a9=aa):=by simpa using aH))
  clear aH;(first|rw [ac]|(simp only [aV,aZ];rw [ac])|rw [show (!(a9 == aa))=true from ac]|skip)
  obtain rfl:=bQ H;go_wp2
  go_ret
  exact ⟨bK,ay⟩
 have ac:(a9 != aa)=false:=by simpa using aH
 (try (have bb:decide (a9=aa)=true:=by simpa using aH))
 (try (have bc:(a9 == aa)=true:=by simpa using aH))
 clear aH;(first|rw [ac]|(simp only [aV,aZ];rw [ac])|rw [show (!(a9 == aa))=false from ac]|skip)
 obtain ⟨bd,bv,H⟩:=bd_ H;have be:=m_ H;clear H;have fA:=jc ab.out;have dL:=jc af.out;go_upto_if 30 with (first|((with_reducible refine cu 82 ?_);refine cO (some 29) rfl rfl func82 aC rfl #[.slice dX bP.length dW,.slice an ae.length ao] rfl bJ ?_;(with_reducible refine (wZ.calls k _ _ bP _ _ ae bd _ vK ax.out ?rV az.out bv.out).mono ?_);(case rV=>repeat (first|exact (Kd.qP bD.out HB.out)|(with_reducible refine Kd.kM ?_ _)|(with_reducible refine Kd.kR ?_ _)|(with_reducible refine Kd.kQ ?_)));rintro e w' ⟨rfl,⟨nd,rfl⟩⟩;refine ⟨_,rfl,?_⟩))
 (try simp only [fM])
 (try clear a5 a6)
 (try clear fA)
 (try clear dL)
 obtain ⟨H⟩:=be;by_cases bh:bd=true
 ·subst bh;rw [if_pos rfl] at H;obtain rfl:=bQ H;go_wp2
  go_ret
  exact ⟨bK,ay⟩
 replace bh:=Bool.eq_false_iff.mpr bh;subst bh;rw [if_neg iF] at H;obtain rfl:=bQ H;go_wp2
 go_ret
 exact ⟨bK,ay⟩

def pI.l0:Nat→Int→ByteArray→Option (ByteArray)
 | 0,_,_=>none
 | k+1,x0,x3=>if x0 > 0 then ((some (([(wrap64 (48+(Int.tmod x0 10))) % 256]:List Int):List Int)).bind fun a5=>(if (strOfNums a5).size+x3.size≤9223372036854775807 then (pI.l0 k (wrap64 (Int.tdiv x0 10)) ((strOfNums a5)++x3)) else (none))) else (if 1+x3.size≤9223372036854775807 then (some ((⟨#[109]⟩:ByteArray)++x3)) else (none))
def pI.f (k:Nat) (a0:Int):Option (ByteArray):=if a0≤0 then (some (⟨#[109,48]⟩:ByteArray)) else (pI.l0 k a0 (⟨#[]⟩:ByteArray))
theorem pI.calls (k:Nat) (a0:Int) (r:ByteArray) (w:World) (h:pI.f k a0=some r) :
  Calls Tryz.prog 129 #[ah a0] w fun e w'=>e=.returned (.string r)∧Below w.heap.size w w':=by
 have HB:=m_ (Below.refl w.heap.size w);unfold pI.f at h
 have H:=h;clear h;revert H;refine fB (fun a8 H=>?_) fun a8 H=>?_
 ·obtain rfl:=bQ H;go_enter func129,ntmps129
  go_wp2
  go_ret
  exact ⟨bK,ay⟩
 have H':=m_ H;clear H;go_enter func129,ntmps129
 go_wp2
 go_loopg [0,3] k (fun kq v0 v3 w'=>∃ (a5:Int) (a6:ByteArray),v0=ah a5∧v3=.string a6∧aA (pI.l0 kq a5 a6=some r)∧aA (kq≤k)∧aA (Below w.heap.size w w'))
 case atStart=>exact ⟨(a0),((⟨#[]⟩:ByteArray)),bC,bC,H',⟨Nat.le_refl _⟩,⟨ay⟩⟩
 case round =>
 clear H';try clear c2;try clear a8
 obtain ⟨a5,a6,rfl,rfl,HA,gG,HB⟩:=hrel;cases gk with
 | zero=>exact absurd HA.out (by simp [pI.l0])
 | succ k1 =>
 obtain ⟨H⟩:=HA;simp only [pI.l0] at H
 revert H;refine fB (fun ab H=>?_) fun ab H=>?_;rotate_left
 ·obtain ⟨c8,H⟩:=lT H;have ac:=eq_true c8;have ae:=nJ c8;try have af:(9223372036854775807 < 1+a6.size)=False:=eq_false (Nat.not_lt.2 c8)
  obtain rfl:=bQ H;go_wp2
  go_ret
  exact ⟨bK,ay⟩
 obtain ⟨a9,a7,H⟩:=uX H;obtain ⟨c4,H⟩:=lT H;have ag:=eq_true c4;have aK:=nJ c4;try have ai:(9223372036854775807 < (strOfNums a9).size+a6.size)=False:=eq_false (Nat.not_lt.2 c4)
 have H':=m_ H;clear H;go_wp2_with (first|((with_reducible refine dJ 12 ?_);refine Kd.AZ (Kd.int .u8) _ 5 ?hg (N:=12) ?hd (xs:=([(wrap64 (48+(Int.tmod a5 10))) % 256]:List Int)) (inner:=[.int .u8 ((wrap64 (48+(Int.tmod a5 10))) % 256)]) (ok:=fun _=>True) (jG:=fun _=>True) ?hr ?hp (fun _ hk=>hk) trivial (Below.refl _ _) (Nat.le_refl _) (by simp) ?_;(case hd=>rfl);(case hg=>rfl);(case hr=>first|(go_simp;done)|(go_simp;rfl));(case hp=>exact (gu.one (show Kd.M (Kd.int .u8) _ _ _ ((wrap64 (48+(Int.tmod a5 10))) % 256) [.int .u8 ((wrap64 (48+(Int.tmod a5 10))) % 256)] from rfl) (gu.none _ _)));intro aDX w5 vO hb mF mG;clear mF mG;(first|rw [← a7.out] at vO|(simp only [Int.reduceToNat] at vO;rw [← a7.out] at vO));obtain ⟨aa,HB⟩:=p_ (Kd.dR vO (bU ay)) <| a_ (dV ay hb);clear hb vO;have aqt:=abY (P:=Tryz.prog) underlying22 underlying5 underlying9 (Kd.P5 aa.out)))
 go_roundg k1
 case measure=>have:=gG.out;omega
 case rel=>exact ⟨(wrap64 (Int.tdiv a5 10)),((strOfNums a9)++a6),bC,bC,H',⟨oz⟩,⟨ay⟩⟩

def x8.l0:Nat→List (aF)→Int→Int→Option (Int × (List (aF)))
 | 0,_,_,_=>none
 | k+1,x0,x1,x5=>if x5 < (x0.length:Int) then ((pI.f k x1).bind fun a7=>(if 0≤x5 then ((some (x0.set (x5:Int).toNat (⟨a7,(aB x0 x5).f1,(aB x0 x5).f2⟩:aF):List (aF))).bind fun a5=>((some (a5.set (x5:Int).toNat (⟨(aB a5 x5).f0,((Int.tmod (wrap64 (x1+1)) 3) == 0),(aB a5 x5).f2⟩:aF):List (aF))).bind fun a6=>((pI.f k (wrap64 ((wrap64 (x1+1))+1))).bind fun a8=>(x8.l0 k (a6.set (x5:Int).toNat (⟨(aB a6 x5).f0,(aB a6 x5).f1,a8⟩:aF)) (wrap64 ((wrap64 ((wrap64 (x1+1))+1))+1)) (wrap64 (x5+1)))))) else (none))) else (some (x1,x0))
def x8.f (k:Nat) (l0:List (aF)) (a1:Int):Option (Int × (List (aF))):=x8.l0 k l0 a1 0
theorem x8.calls (k:Nat) (dA:Nat→Prop) (gX:Value) (l0:List (aF)) (a1:Int) (r1:Int) (r2:List (aF)) (w0 w:World) (hB:Below w0.heap.size w0 w) (ho0:Kd.R aS 43 w w0.heap.size dA gX l0) (h:x8.f k l0 a1=some (r1,r2)) :
  Calls Tryz.prog 83 #[gX,ah a1] w fun e w'=>e=.returned (ah r1)∧Kd.R aS 43 w' w0.heap.size (fun ak=>(dA ak∨w.heap.size≤ak)) gX r2∧Below w0.heap.size w0 w'∧Kept w w' (fun ak=>dA ak):=by
 have ct:=m_ (show Kd.R aS 43 w w0.heap.size (fun ak=>(dA ak∨w.heap.size≤ak)) gX l0 from Kd.bF ho0 (fun ak hk=>(.inl hk)));have HK:=m_ (Kept.refl w (fun ak=>dA ak));have HW0:=m_ hB.size;have HB:=m_ hB;clear hB;unfold x8.f at h
 have H:=h;clear h;have H':=m_ H;clear H;go_enter func83,ntmps83
 go_wp2
 go_loopg [1,5] k (fun kq v1 v5 w'=>∃ (a6:List (aF)) (a8:Int) (a5:Int),v1=ah a8∧v5=ah a5∧aA (x8.l0 kq a6 a8 a5=some (r1,r2))∧aA (kq≤k)∧aA (Kd.R aS 43 w' w0.heap.size (fun ak=>(dA ak∨w.heap.size≤ak)) gX a6)∧aA (Kept w w' (fun ak=>dA ak))∧aA (Below w0.heap.size w0 w'))
 case atStart=>exact ⟨(l0),(a1),(0),bC,bC,H',⟨Nat.le_refl _⟩,⟨(aN ct)⟩,⟨iw⟩,⟨ay⟩⟩
 case round =>
 clear H';obtain ⟨a6,a8,a5,rfl,rfl,HA,gG,bn,HK,HB⟩:=hrel;cases gk with
 | zero=>exact absurd HA.out (by simp [x8.l0])
 | succ k1 =>
 obtain ⟨H⟩:=HA;simp only [x8.l0] at H
 have bz:=m_ H;clear H;obtain ⟨d2,b7,fE⟩:=Kd.dN bn.out;subst fE;go_upto_if 9 with (fail)
 obtain ⟨H⟩:=bz;revert H;refine fB (fun ag H=>?_) fun ag H=>?_;rotate_left
 ·try simp only [aV,aZ,ag]
  simp only [gV] at H
  obtain ⟨rfl,rfl⟩:=H;go_wp2
  go_ret
  exact ⟨bK,(aN bn),ay,iw⟩
 try simp only [aV,aZ,ag]
 obtain ⟨aK,A6,H⟩:=bd_ H;obtain ⟨cv,H⟩:=gI H;obtain ⟨aa,b8,H⟩:=uX H;obtain ⟨a9,b9,H⟩:=uX H;obtain ⟨ae,cw,H⟩:=bd_ H;obtain ⟨b0,ai⟩:∃ y_:List (aF),y_=(a9.set (a5:Int).toNat (⟨(aB a9 a5).f0,(aB a9 a5).f1,ae⟩:aF)):=⟨_,rfl⟩;rw [← ai] at H;have ba:=m_ ai;clear ai;have H':=m_ H;clear H;go_wp2_with (first|((with_reducible refine cu 129 ?_);refine cO (some 15) rfl rfl func129 aC rfl #[ah a8] rfl bJ ?_;(with_reducible refine (pI.calls k1 a8 aK _ A6.out).mono ?_);rintro e am ⟨rfl,hb⟩;refine ⟨_,rfl,?_⟩;obtain ⟨bn,HK,HB⟩:=p_ (Kd.bG (aN bn) hb) <| p_ (Kept.below (S:=(fun ak=>dA ak)) iw hb) <| a_ (dV ay hb);(try clear hb);have p8:0≤(a5:Int):=aX aY;have q8:(a5:Int) < ((a6.length:Int):Int):=aX aY;obtain ⟨a7,d3,ca,cc,cx,d4,cd⟩:=Kd.xQ bn.out (by omega);(first|cases ca|(injection ca with jA sQ sO;(first|subst jA|(injection jA with jA;subst jA));subst sO;clear sQ));have bj:=m_ cc;have d5:=m_ cd;clear cc cx cd;have aeK:=m_ (show (dA a7∨w.heap.size≤a7) from (bn.out.1 _ rfl));obtain ⟨d6,bl,ce,an,ao⟩:=Kd.nX bn.out z43 (a5:Int) p8 q8;obtain rfl:=og ce;have cf:am.cell? ⟨a7,(a5:Int).toNat * 3,none⟩=some (.string ((aB a6 a5).f0)):=an 0 _ rfl;have cg:am.cell? ⟨a7,(a5:Int).toNat * 3+1,none⟩=some (.bool ((aB a6 a5).f1)):=an 1 _ rfl;have ch:am.cell? ⟨a7,(a5:Int).toNat * 3+2,none⟩=some (.string ((aB a6 a5).f2)):=an 2 _ rfl;have ci:am.frozen? ⟨a7,(a5:Int).toNat * 3,none⟩=false:=ao 0;have cj:am.frozen? ⟨a7,(a5:Int).toNat * 3+1,none⟩=false:=ao 1;have ck:am.frozen? ⟨a7,(a5:Int).toNat * 3+2,none⟩=false:=ao 2;clear bl an ao ce;replace p8:=eq_true p8;replace q8:=eq_true q8;have bb:=m_ (show Kd.R aS 43 am w0.heap.size (fun ak=>(dA ak∨w.heap.size≤ak)) (.slice (some ⟨a7,0,none⟩) a6.length b7) a6 from (aN bn));obtain ⟨cy,aT,bc,aH,av⟩:=Kd.nX bb.out z43 (a5:Int) (aX aY) (by have bI:(a5:Int) < ((a6.length:Int):Int):=aX aY;first|exact bI|(have e_:=(Kd.dn bn.out).1;omega)|simpa using bI);obtain rfl:=og bc;have QW:=Kd.vW bb.out (a5:Int) (aX aY) (by have bI:(a5:Int) < ((a6.length:Int):Int):=aX aY;first|exact bI|(have e_:=(Kd.dn bn.out).1;omega)|simpa using bI) (seg:=[.string aK]) (j:=0) aT aH (show 1≤3 from by decide) (x':=(⟨aK,(aB a6 a5).f1,(aB a6 a5).f2⟩:aF)) (qU _ _ _ (⟨aK,(aB a6 a5).f1,(aB a6 a5).f2⟩:aF) ) (fun _ hk=>hk);have b1:=aH 0 _ rfl;(try simp only [show (aS).sz=3 from rfl,Nat.mul_one,Nat.add_zero] at b1);have b2:=av 0;(try simp only [show (aS).sz=3 from rfl,Nat.mul_one,Nat.add_zero] at b2);clear aT aH av bc)|((with_reducible refine DF (t:=9) (p:=17) rfl ?_);refine D8 (t:=9) (p:=17) (v:=?aD1) (w1:=(am.setCell ⟨a7,(a5:Int).toNat * 3,none⟩ (.string aK))) ?hg ?ho ?hn ?hr ?_;(case ho=>rfl);(case hg=>rfl);(case hn=>rfl);(case hr=>first|(go_simp;done)|(go_simp;rfl));intro af hw;have hg:am.grownBy af (some a7):=(by rw [hw];exact QW.2);have uP:Kd.R aS 43 af w0.heap.size (fun ak=>(dA ak∨w.heap.size≤ak)) (.slice (some ⟨a7,0,none⟩) a6.length b7) aa:=(by rw [hw,b8.out];exact QW.1);clear QW;have ji:=p_ (uP) <| p_ ((by rw [hw];exact jy (HB.out) bj.out:Below w0.heap.size w0 af)) <| a_ (Kept.CQ (S:=(fun ak=>dA ak)) hg iw (fun ak e_=>(bn.out.1 ak e_)));clear bn HB HK;obtain ⟨bn,HB,HK⟩:=ji;clear hg hw uP;have p9:0≤(a5:Int):=aX aY;have q9:(a5:Int) < ((a6.length:Int):Int):=aX aY;obtain ⟨d7,bm,cl,ap,aq⟩:=Kd.nX bn.out z43 (a5:Int) p9 q9;obtain rfl:=og cl;have cm:af.cell? ⟨a7,(a5:Int).toNat * 3,none⟩=some (.string ((aB aa a5).f0)):=ap 0 _ rfl;have cn:af.cell? ⟨a7,(a5:Int).toNat * 3+1,none⟩=some (.bool ((aB aa a5).f1)):=ap 1 _ rfl;have co:af.cell? ⟨a7,(a5:Int).toNat * 3+2,none⟩=some (.string ((aB aa a5).f2)):=ap 2 _ rfl;have cp:af.frozen? ⟨a7,(a5:Int).toNat * 3,none⟩=false:=aq 0;have cq:af.frozen? ⟨a7,(a5:Int).toNat * 3+1,none⟩=false:=aq 1;have cr:af.frozen? ⟨a7,(a5:Int).toNat * 3+2,none⟩=false:=aq 2;clear bm ap aq cl;replace p9:=eq_true p9;replace q9:=eq_true q9;have bd:=m_ (show Kd.R aS 43 af w0.heap.size (fun ak=>(dA ak∨w.heap.size≤ak)) (.slice (some ⟨a7,0,none⟩) a6.length b7) aa from (aN bn));obtain ⟨cz,aw,be,aO,ax⟩:=Kd.nX bd.out z43 (a5:Int) (aX aY) (by have bI:(a5:Int) < ((a6.length:Int):Int):=aX aY;first|exact bI|(have e_:=(Kd.dn bn.out).1;omega)|simpa using bI);obtain rfl:=og be;have QX:=Kd.vW bd.out (a5:Int) (aX aY) (by have bI:(a5:Int) < ((a6.length:Int):Int):=aX aY;first|exact bI|(have e_:=(Kd.dn bn.out).1;omega)|simpa using bI) (seg:=[.bool ((Int.tmod (wrap64 (a8+1)) 3) == 0)]) (j:=1) aw aO (show 2≤3 from by decide) (x':=(⟨(aB aa a5).f0,((Int.tmod (wrap64 (a8+1)) 3) == 0),(aB aa a5).f2⟩:aF)) (qU _ _ _ (⟨(aB aa a5).f0,((Int.tmod (wrap64 (a8+1)) 3) == 0),(aB aa a5).f2⟩:aF) ) (fun _ hk=>hk);have b3:=aO 1 _ rfl;(try simp only [show (aS).sz=3 from rfl,Nat.mul_one,Nat.add_zero] at b3);have b4:=ax 1;(try simp only [show (aS).sz=3 from rfl,Nat.mul_one,Nat.add_zero] at b4);clear aw aO ax be)|((with_reducible refine DF (t:=4) (p:=26) rfl ?_);refine D8 (t:=4) (p:=26) (v:=?aD2) (w1:=(af.setCell ⟨a7,(a5:Int).toNat * 3+1,none⟩ (.bool ((Int.tmod (wrap64 (a8+1)) 3) == 0)))) ?hg ?ho ?hn ?hr ?_;(case ho=>rfl);(case hg=>rfl);(case hn=>rfl);(case hr=>first|(go_simp;done)|(go_simp;rfl));intro fG hw;have hg:af.grownBy fG (some a7):=(by rw [hw];exact QX.2);have uP:Kd.R aS 43 fG w0.heap.size (fun ak=>(dA ak∨w.heap.size≤ak)) (.slice (some ⟨a7,0,none⟩) a6.length b7) a9:=(by rw [hw,b9.out];exact QX.1);clear QX;have ji:=p_ (uP) <| p_ ((by rw [hw];exact jy (HB.out) bj.out:Below w0.heap.size w0 fG)) <| a_ (Kept.CQ (S:=(fun ak=>dA ak)) hg iw (fun ak e_=>(bn.out.1 ak e_)));clear bn HB HK;obtain ⟨bn,HB,HK⟩:=ji;clear hg hw uP)|((with_reducible refine cu 129 ?_);refine cO (some 32) rfl rfl func129 aC rfl #[ah (wrap64 ((wrap64 (a8+1))+1))] rfl bJ ?_;(with_reducible refine (pI.calls k1 (wrap64 ((wrap64 (a8+1))+1)) ae _ cw.out).mono ?_);rintro e ar ⟨rfl,hb⟩;refine ⟨_,rfl,?_⟩;obtain ⟨bn,HK,HB⟩:=p_ (Kd.bG (aN bn) hb) <| p_ (Kept.below (S:=(fun ak=>dA ak)) iw hb) <| a_ (dV ay hb);(try clear hb);(try clear hk);have bo:0≤(a5:Int):=aX aY;have bp:(a5:Int) < ((a6.length:Int):Int):=aX aY;obtain ⟨d0,fA,dL,ab,ac⟩:=Kd.nX bn.out z43 (a5:Int) bo bp;obtain rfl:=og dL;have bq:ar.cell? ⟨a7,(a5:Int).toNat * 3,none⟩=some (.string ((aB a9 a5).f0)):=ab 0 _ rfl;have br:ar.cell? ⟨a7,(a5:Int).toNat * 3+1,none⟩=some (.bool ((aB a9 a5).f1)):=ab 1 _ rfl;have bs:ar.cell? ⟨a7,(a5:Int).toNat * 3+2,none⟩=some (.string ((aB a9 a5).f2)):=ab 2 _ rfl;have bu:ar.frozen? ⟨a7,(a5:Int).toNat * 3,none⟩=false:=ac 0;have bv:ar.frozen? ⟨a7,(a5:Int).toNat * 3+1,none⟩=false:=ac 1;have bw:ar.frozen? ⟨a7,(a5:Int).toNat * 3+2,none⟩=false:=ac 2;clear fA ab ac dL;replace bo:=eq_true bo;replace bp:=eq_true bp;have bh:=m_ (show Kd.R aS 43 ar w0.heap.size (fun ak=>(dA ak∨w.heap.size≤ak)) (.slice (some ⟨a7,0,none⟩) a6.length b7) a9 from (aN bn));obtain ⟨d1,bD,bi,al,az⟩:=Kd.nX bh.out z43 (a5:Int) (aX aY) (by have bI:(a5:Int) < ((a6.length:Int):Int):=aX aY;first|exact bI|(have e_:=(Kd.dn bn.out).1;omega)|simpa using bI);obtain rfl:=og bi;have Em:=Kd.vW bh.out (a5:Int) (aX aY) (by have bI:(a5:Int) < ((a6.length:Int):Int):=aX aY;first|exact bI|(have e_:=(Kd.dn bn.out).1;omega)|simpa using bI) (seg:=[.string ae]) (j:=2) bD al (show 3≤3 from by decide) (x':=(⟨(aB a9 a5).f0,(aB a9 a5).f1,ae⟩:aF)) (qU _ _ _ (⟨(aB a9 a5).f0,(aB a9 a5).f1,ae⟩:aF) ) (fun _ hk=>hk);have b5:=al 2 _ rfl;(try simp only [show (aS).sz=3 from rfl,Nat.mul_one,Nat.add_zero] at b5);have b6:=az 2;(try simp only [show (aS).sz=3 from rfl,Nat.mul_one,Nat.add_zero] at b6);clear bD al az bi)|((with_reducible refine DF (t:=9) (p:=34) rfl ?_);refine D8 (t:=9) (p:=34) (v:=?aD3) (w1:=(ar.setCell ⟨a7,(a5:Int).toNat * 3+2,none⟩ (.string ae))) ?hg ?ho ?hn ?hr ?_;(case ho=>rfl);(case hg=>rfl);(case hn=>rfl);(case hr=>first|(go_simp;done)|(go_simp;rfl));intro bx hw;have hg:ar.grownBy bx (some a7):=(by rw [hw];exact Em.2);have uP:Kd.R aS 43 bx w0.heap.size (fun ak=>(dA ak∨w.heap.size≤ak)) (.slice (some ⟨a7,0,none⟩) a6.length b7) b0:=(by rw [hw,ba.out];exact Em.1);clear Em;have ji:=p_ (uP) <| p_ ((by rw [hw];exact jy (HB.out) bj.out:Below w0.heap.size w0 bx)) <| a_ (Kept.CQ (S:=(fun ak=>dA ak)) hg iw (fun ak e_=>(bn.out.1 ak e_)));clear bn HB HK;obtain ⟨bn,HB,HK⟩:=ji;clear hg hw uP))
 go_roundg k1
 case measure=>have:=gG.out;omega
 case rel=>exact ⟨(b0),(wrap64 ((wrap64 ((wrap64 (a8+1))+1))+1)),(wrap64 (a5+1)),bC,bC,H',⟨oz⟩,⟨(aN bn)⟩,⟨iw⟩,⟨ay⟩⟩

def CO.f (k:Nat) (a6:List (aF)) (a1:Int):Option (Int × (List (aF))):=(x8.f k a6 a1).bind fun a5=>(some (a5.1,a5.2))
theorem CO.calls (k:Nat) (Dn:Nat→Prop) (gX:Value) (aI:List (aF)) (a1:Int) (r1:Int) (r2:List (aF)) (w0 w:World) (hB:Below w0.heap.size w0 w) (alA:Kd.R aS 43 w w0.heap.size Dn gX aI) (h:CO.f k aI a1=some (r1,r2)) :
  Calls Tryz.prog 35 #[.agg #[gX],ah a1] w fun e w'=>e=.returned (ah r1)∧Kd.R aS 43 w' w0.heap.size (fun ak=>(Dn ak∨w.heap.size≤ak)) gX r2∧Below w0.heap.size w0 w'∧Kept w w' (fun ak=>Dn ak):=by
 have nT:=underlying28;have AU:=m_ (show Kd.R aS 43 w w0.heap.size (fun ak=>(Dn ak∨w.heap.size≤ak)) gX aI from Kd.bF alA (fun ak hk=>(.inl hk)));have HK:=m_ (Kept.refl w (fun ak=>Dn ak));have HW0:=m_ hB.size;have HB:=m_ hB;clear hB;unfold CO.f at h
 have H:=h;clear h;obtain ⟨⟨aa,ab⟩,A3,H⟩:=bd_ H;simp only [gV] at H
 obtain ⟨rfl,rfl⟩:=H;obtain ⟨a8,a9,ae⟩:=Kd.dN AU.out;subst ae;go_enter func35,ntmps35
 go_wp2_with (first|((with_reducible refine dJ 2 ?_);refine dO 2 (cs:=#[.slice a8 aI.length a9]) 28 ?_;intro a6 hg w5 hbox hb;have ji:=p_ (Kd.bG (aN AU) hb) <| p_ (Kept.below (S:=(fun ak=>Dn ak)) iw hb) <| p_ (dV ay hb) <| p_ (hbox) <| p_ ((by rw [hg];exact (by first|exact HK.out.1|exact (show Kept w _ (fun ak=>Dn ak) from iw).1):w.heap.size≤a6)) <| a_ ((by rw [hg];exact (bU ay):w0.heap.size≤a6));clear AU HK HB;obtain ⟨AU,HK,HB,a5,aeH,a7⟩:=ji;clear hb hbox hg;have J_:=bZ a5.out)|((with_reducible refine cu 83 ?_);refine cO (some 8) rfl rfl func83 aC rfl #[.slice a8 aI.length a9,ah a1] rfl bJ ?_;(with_reducible refine (x8.calls k (fun ak=>some ak=(.slice a8 aI.length a9:Value).ownBlock) (.slice a8 aI.length a9) aI a1 aa ab w0 _ ?jW (Kd.rH rfl AU.out) A3.out).mono ?_);(case jW=>repeat (first|(with_reducible first|exact HB.out|apply sK|apply xB|apply nZ|refine jy ?_ a7.out)|exact HB.out));rintro e w7 ⟨rfl,ac,hb,hkp⟩;refine ⟨_,rfl,?_⟩;obtain ⟨AU,a5,HK,HB⟩:=p_ (Kd.uV rfl ac (fun ak e_=>AU.out.1 ak e_)) <| p_ (mO (au a5) hkp (fun hs_=>(fun e_=>(Kd.fD AU.out a5.out (by decide)) e_) hs_)) <| p_ (Kept.then_ (S:=(fun ak=>Dn ak)) adn hkp (fun ak hs_=>(fun e_=>(AU.out.1 ak e_.symm)) hs_)) <| a_ (hb);(try clear hb);(try clear hkp);(try clear ac)))
 go_ret
 exact ⟨bK,(aN AU),ay,adn⟩

def xg.l0:Nat→List ByteArray→Int→Int→Option (Int × List ByteArray)
 | 0,_,_,_=>none
 | k+1,x0,x1,x5=>if x5 < (x0.length:Int) then ((pI.f k x1).bind fun a5=>(if 0≤x5 then (xg.l0 k (x0.set (x5:Int).toNat a5) (wrap64 (x1+1)) (wrap64 (x5+1))) else (none))) else (some (x1,x0))
def xg.f (k:Nat) (l0:List ByteArray) (a1:Int):Option (Int × List ByteArray):=xg.l0 k l0 a1 0
theorem xg.calls (k:Nat) (dA:Nat→Prop) (gX:Value) (l0:List ByteArray) (a1:Int) (r1:Int) (r2:List ByteArray) (w0 w:World) (hB:Below w0.heap.size w0 w) (ho0:Kd.R Kd.string 9 w w0.heap.size dA gX l0) (h:xg.f k l0 a1=some (r1,r2)) :
  Calls Tryz.prog 84 #[gX,ah a1] w fun e w'=>e=.returned (ah r1)∧Kd.R Kd.string 9 w' w0.heap.size (fun ak=>(dA ak∨w.heap.size≤ak)) gX r2∧Below w0.heap.size w0 w'∧Kept w w' (fun ak=>dA ak):=by
 have am:=m_ (show Kd.R Kd.string 9 w w0.heap.size (fun ak=>(dA ak∨w.heap.size≤ak)) gX l0 from Kd.bF ho0 (fun ak hk=>(.inl hk)));have HK:=m_ (Kept.refl w (fun ak=>dA ak));have HW0:=m_ hB.size;have HB:=m_ hB;clear hB;unfold xg.f at h
 have H:=h;clear h;have H':=m_ H;clear H;go_enter func84,ntmps84
 go_wp2
 go_loopg [1,5] k (fun kq v1 v5 w'=>∃ (a6:List ByteArray) (a7:Int) (a5:Int),v1=ah a7∧v5=ah a5∧aA (xg.l0 kq a6 a7 a5=some (r1,r2))∧aA (kq≤k)∧aA (Kd.R Kd.string 9 w' w0.heap.size (fun ak=>(dA ak∨w.heap.size≤ak)) gX a6)∧aA (Kept w w' (fun ak=>dA ak))∧aA (Below w0.heap.size w0 w'))
 case atStart=>exact ⟨(l0),(a1),(0),bC,bC,H',⟨Nat.le_refl _⟩,⟨(aN am)⟩,⟨iw⟩,⟨ay⟩⟩
 case round =>
 clear H';obtain ⟨a6,a7,a5,rfl,rfl,HA,gG,bn,HK,HB⟩:=hrel;cases gk with
 | zero=>exact absurd HA.out (by simp [xg.l0])
 | succ k1 =>
 obtain ⟨H⟩:=HA;simp only [xg.l0] at H
 have ag:=m_ H;clear H;obtain ⟨aT,an,ao⟩:=Kd.dN bn.out;subst ao;go_upto_if 9 with (fail)
 obtain ⟨H⟩:=ag;revert H;refine fB (fun a8 H=>?_) fun a8 H=>?_;rotate_left
 ·try simp only [aV,aZ,a8]
  simp only [gV] at H
  obtain ⟨rfl,rfl⟩:=H;go_wp2
  go_ret
  exact ⟨bK,(aN bn),ay,iw⟩
 try simp only [aV,aZ,a8]
 obtain ⟨aa,A6,H⟩:=bd_ H;obtain ⟨ap,H⟩:=gI H;obtain ⟨ab,a9⟩:∃ y_:List ByteArray,y_=(a6.set (a5:Int).toNat aa):=⟨_,rfl⟩;rw [← a9] at H;have ac:=m_ a9;clear a9;have H':=m_ H;clear H;go_wp2_with (first|((with_reducible refine cu 129 ?_);refine cO (some 15) rfl rfl func129 aC rfl #[ah a7] rfl bJ ?_;(with_reducible refine (pI.calls k1 a7 aa _ A6.out).mono ?_);rintro e w9 ⟨rfl,hb⟩;refine ⟨_,rfl,?_⟩;obtain ⟨bn,HK,HB⟩:=p_ (Kd.bG (aN bn) hb) <| p_ (Kept.below (S:=(fun ak=>dA ak)) iw hb) <| a_ (dV ay hb);(try clear hb);have p8:0≤(a5:Int):=aX aY;have q8:(a5:Int) < ((a6.length:Int):Int):=aX aY;obtain ⟨ae,av,aK,ai,aq,aw,aH⟩:=Kd.xQ bn.out (by omega);(first|cases aK|(injection aK with jA sQ sO;(first|subst jA|(injection jA with jA;subst jA));subst sO;clear sQ));have ar:=m_ ai;have ax:=m_ aH;clear ai aq aH;have aeK:=m_ (show (dA ae∨w.heap.size≤ae) from (bn.out.1 _ rfl));obtain ⟨aO,al⟩:=Kd.Rq (⟨#[]⟩:ByteArray) bn.out (a5:Int) p8 q8;replace p8:=eq_true p8;replace q8:=eq_true q8;obtain ⟨aCn,aCo⟩:=Kd.Rq (⟨#[]⟩:ByteArray) bn.out (a5:Int) (aX aY) (aX aY);have QT:=Kd.XY bn.out (a5:Int) aa)|((with_reducible refine DF (t:=9) (p:=16) rfl ?_);refine D8 (t:=9) (p:=16) (v:=?aDY) (w1:=(w9.setCell ⟨ae,(a5:Int).toNat,none⟩ (.string aa))) ?hg ?ho ?hn ?hr ?_;(case ho=>rfl);(case hg=>rfl);(case hn=>rfl);(case hr=>first|(go_simp;done)|(go_simp;rfl));intro af hw;have hg:w9.grownBy af (some ae):=(by rw [hw];exact QT.2);have uP:Kd.R Kd.string 9 af w0.heap.size (fun ak=>(dA ak∨w.heap.size≤ak)) (.slice (some ⟨ae,0,none⟩) a6.length an) ab:=(by rw [hw,ac.out];exact QT.1);clear QT;have ji:=p_ (uP) <| p_ ((by rw [hw];exact jy (HB.out) ar.out:Below w0.heap.size w0 af)) <| a_ (Kept.CQ (S:=(fun ak=>dA ak)) hg iw (fun ak e_=>(bn.out.1 ak e_)));clear bn HB HK;obtain ⟨bn,HB,HK⟩:=ji;clear hg hw uP))
 go_roundg k1
 case measure=>have:=gG.out;omega
 case rel=>exact ⟨(ab),(wrap64 (a7+1)),(wrap64 (a5+1)),bC,bC,H',⟨oz⟩,⟨(aN bn)⟩,⟨iw⟩,⟨ay⟩⟩

def FP.f (k:Nat) (a7:Int) (a8:ByteArray) (a9:Int) (aa:Bool) (a6:List ByteArray) (a1:Int):Option (Int × List ByteArray):=(xg.f k a6 a1).bind fun a5=>(some (a5.1,a5.2))
theorem FP.calls (k:Nat) (a7:Int) (a8:ByteArray) (a9:Int) (aa:Bool) (mW:Nat→Prop) (gX:Value) (bP:List ByteArray) (a1:Int) (r1:Int) (r2:List ByteArray) (w0 w:World) (hB:Below w0.heap.size w0 w) (alB:Kd.R Kd.string 9 w w0.heap.size mW gX bP) (h:FP.f k a7 a8 a9 aa bP a1=some (r1,r2)) :
  Calls Tryz.prog 36 #[.agg #[ah a7,.string a8,ah a9,.bool aa,gX],ah a1] w fun e w'=>e=.returned (ah r1)∧Kd.R Kd.string 9 w' w0.heap.size (fun ak=>(mW ak∨w.heap.size≤ak)) gX r2∧Below w0.heap.size w0 w'∧Kept w w' (fun ak=>mW ak):=by
 have wE:=underlying49;have ku:=m_ (show Kd.R Kd.string 9 w w0.heap.size (fun ak=>(mW ak∨w.heap.size≤ak)) gX bP from Kd.bF alB (fun ak hk=>(.inl hk)));have HK:=m_ (Kept.refl w (fun ak=>mW ak));have HW0:=m_ hB.size;have HB:=m_ hB;clear hB;unfold FP.f at h
 have H:=h;clear h;obtain ⟨⟨af,ag⟩,A3,H⟩:=bd_ H;simp only [gV] at H
 obtain ⟨rfl,rfl⟩:=H;obtain ⟨ac,ae,ai⟩:=Kd.dN ku.out;subst ai;go_enter func36,ntmps36
 go_wp2_with (first|((with_reducible refine dJ 2 ?_);refine dO 2 (cs:=#[ah a7,.string a8,ah a9,.bool aa,.slice ac bP.length ae]) 49 ?_;intro a6 hg w5 hbox hb;have ji:=p_ (Kd.bG (aN ku) hb) <| p_ (Kept.below (S:=(fun ak=>mW ak)) iw hb) <| p_ (dV ay hb) <| p_ (hbox) <| p_ ((by rw [hg];exact (by first|exact HK.out.1|exact (show Kept w _ (fun ak=>mW ak) from iw).1):w.heap.size≤a6)) <| a_ ((by rw [hg];exact (bU ay):w0.heap.size≤a6));clear ku HK HB;obtain ⟨ku,HK,HB,a5,aeI,ab⟩:=ji;clear hb hbox hg;have aH:=jc a5.out)|((with_reducible refine cu 84 ?_);refine cO (some 8) rfl rfl func84 aC rfl #[.slice ac bP.length ae,ah a1] rfl bJ ?_;(with_reducible refine (xg.calls k (fun ak=>some ak=(.slice ac bP.length ae:Value).ownBlock) (.slice ac bP.length ae) bP a1 af ag w0 _ ?jW (Kd.rH rfl ku.out) A3.out).mono ?_);(case jW=>repeat (first|(with_reducible first|exact HB.out|apply sK|apply xB|apply nZ|refine jy ?_ ab.out)|exact HB.out));rintro e w7 ⟨rfl,aK,hb,hkp⟩;refine ⟨_,rfl,?_⟩;obtain ⟨ku,a5,HK,HB⟩:=p_ (Kd.uV rfl aK (fun ak e_=>ku.out.1 ak e_)) <| p_ (mO (au a5) hkp (fun hs_=>(fun e_=>(Kd.fD ku.out a5.out (by decide)) e_) hs_)) <| p_ (Kept.then_ (S:=(fun ak=>mW ak)) adl hkp (fun ak hs_=>(fun e_=>(ku.out.1 ak e_.symm)) hs_)) <| a_ (hb);(try clear hb);(try clear hkp);(try clear aK)))
 go_ret
 exact ⟨bK,(aN ku),ay,adl⟩

def mQ.l0:Nat→List (aF)→Int→Int→Option (Int)
 | 0,_,_,_=>none
 | k+1,x0,x1,x5=>if x5 < (x0.length:Int) then (if 0≤x5 then ((pI.f k x1).bind fun a5=>(if ((aB x0 x5).f0).toList=a5.toList then (if (((aB x0 x5).f1) != ((Int.tmod (wrap64 (x1+1)) 3) == 0))=true then (some (-1)) else ((pI.f k (wrap64 ((wrap64 (x1+1))+1))).bind fun a6=>(if ((aB x0 x5).f2).toList=a6.toList then (mQ.l0 k x0 (wrap64 ((wrap64 ((wrap64 (x1+1))+1))+1)) (wrap64 (x5+1))) else (some (-1))))) else (some (-1)))) else (none)) else (some x1)
def mQ.f (k:Nat) (l0:List (aF)) (a1:Int):Option (Int):=mQ.l0 k l0 a1 0
def mQ.T4:Bool × List (List Nat × List Nat):=(true,[([],[]),([],[]),([0,1],[0,1]),([2],[2]),([3],[3]),([],[]),([5],[5]),([4,6],[4,6])])
def mQ.B4:List Nat:=[0,0,3,7,15,0,32,127]
theorem mQ.Gg:kZ .any (opsOf Tryz.f85 4)=mQ.T4:=by kernel_rfl
theorem mQ.EJ:vF mQ.T4.2 mQ.B4=true:=by kernel_rfl
def mQ.T10:Bool × List (List Nat × List Nat):=(true,[([],[]),([],[]),([0,1],[0,1]),([2],[2]),([3],[3]),([],[]),([5],[5]),([4,6],[4,6])])
def mQ.B10:List Nat:=[0,0,3,7,15,0,32,127]
theorem mQ.D9:kZ .any (opsOf Tryz.f85 10)=mQ.T10:=by kernel_rfl
theorem mQ.Du:vF mQ.T10.2 mQ.B10=true:=by kernel_rfl
theorem mQ.calls (k:Nat) (A0:Option Addr) (c0:Nat) (l0:List (aF)) (a1:Int) (r:Int) (w:World) (hr0:Kd.C aS w A0 l0.length l0) (hc0:l0.length≤c0) (h:mQ.f k l0 a1=some r) :
  Calls Tryz.prog 85 #[.slice A0 l0.length c0,ah a1] w fun e w'=>e=.returned (ah r)∧Below w.heap.size w w':=by
 have HR0:=m_ hr0;have bh:=m_ hc0;clear hr0 hc0;have HB:=m_ (Below.refl w.heap.size w);unfold mQ.f at h
 have H:=h;clear h;have H':=m_ H;clear H;go_enter func85,ntmps85
 go_wp2
 go_loopg [1,5] k (fun kq v1 v5 w'=>∃ (ae:Int) (a5:Int),v1=ah ae∧v5=ah a5∧aA (mQ.l0 kq l0 ae a5=some r)∧aA (kq≤k)∧aA (Below w.heap.size w w'))
 case atStart=>exact ⟨(a1),(0),bC,bC,H',⟨Nat.le_refl _⟩,⟨ay⟩⟩
 case round =>
 clear H';obtain ⟨ae,a5,rfl,rfl,HA,gG,HB⟩:=hrel;cases gk with
 | zero=>exact absurd HA.out (by simp [mQ.l0])
 | succ k1 =>
 obtain ⟨H⟩:=HA;simp only [mQ.l0] at H
 revert H;refine fB (fun b6 H=>?_) fun b6 H=>?_;rotate_left
 ·obtain rfl:=bQ H;go_wp2
  go_ret
  exact ⟨bK,ay⟩
 obtain ⟨bd,H⟩:=gI H;obtain ⟨bD,A5,H⟩:=bd_ H;revert H;refine eU (fun c6 H=>?_) fun c6 H=>?_;rotate_left
 ·have b7:=fZ c6;have b8:=f_ c6;obtain rfl:=bQ H;try go_wp2
  have dH:=m_ (nZ HB.out);clear HB;have HB:=dH;clear dH;have ao:0≤(a5:Int):=aX aY;have ap:a5 < (l0.length:Int):=aX aY;obtain ⟨a6,av,a7,a8,a9⟩:=jV HR0.out a5 ao ap;have aa:=a9;have ab:=a8;have ac:=a7;cases av;replace a7:=fF HB.out a7;replace a8:=fF HB.out a8;replace a9:=fF HB.out a9;replace ao:=eq_true ao;replace ap:=eq_true ap;refine iU (n:=8) (S:=fun w'=>uS w' (a6.add ((a5).toNat * 3)) (.string ((aB l0 a5).f0)) (.bool ((aB l0 a5).f1)) (.string ((aB l0 a5).f2))) (ds:=[]) EO aC rfl rfl ⟨((HB.out.cell (World.block_lt_of_cell? w _ ac)).trans ac),((HB.out.cell (World.block_lt_of_cell? w _ ab)).trans ab),((HB.out.cell (World.block_lt_of_cell? w _ aa)).trans aa)⟩ (fun hH=>?_);refine kF mQ.Gg mQ.EJ (fun aP fK=>?_);generalize wr.drew=bi at HB a7 a8 a9 hH ⊢;refine bM 0 ?_;refine bM 1 ?_;refine bM 2 ?_;refine bM 3 ?_;refine bM 5 ?_;refine kE 4 hH ?_;refine oH 6 (fun K hK=>?_);refine jw func129 aC rfl #[ah ae] (by rfl) rfl rfl bJ ?_
  with_reducible refine (pI.calls k1 ae bD _ A5.out).mono ?_
  rintro e bj ⟨rfl,hb⟩;refine ⟨_,rfl,?_⟩;have dH:=m_ (dV ay hb);clear HB;have HB:=dH;clear dH;(try clear hb)
  refine hK.out _ _ ⟨((HB.out.cell (World.block_lt_of_cell? w _ ac)).trans ac),((HB.out.cell (World.block_lt_of_cell? w _ ab)).trans ab),((HB.out.cell (World.block_lt_of_cell? w _ aa)).trans aa)⟩ (fun hH=>?_);clear hK K;refine gY (some 18) ?_;refine bM 7 ?_;refine jd (kC aP.out aC) ?_;try go_wp2
  go_ret
  exact ⟨bK,ay⟩
 have b7:=fU c6;have b8:=fV c6;clear c6;revert H;refine eU (fun c7 H=>?_) fun c7 H=>?_
 ·have b9:(((aB l0 a5).f1) != ((Int.tmod (wrap64 (ae+1)) 3) == 0))=true:=c7;(try (have ba:decide (((aB l0 a5).f1)=((Int.tmod (wrap64 (ae+1)) 3) == 0))=false:=by simpa using c7))
  (try (have bb:(((aB l0 a5).f1) == ((Int.tmod (wrap64 (ae+1)) 3) == 0))=false:=by simpa using c7))
  (try (have be:¬ (((aB l0 a5).f1)=((Int.tmod (wrap64 (ae+1)) 3) == 0)):=by simpa using c7))
  clear c7;obtain rfl:=bQ H;try go_wp2
  have dH:=m_ (nZ HB.out);clear HB;have HB:=dH;clear dH;have ao:0≤(a5:Int):=aX aY;have ap:a5 < (l0.length:Int):=aX aY;obtain ⟨a6,av,a7,a8,a9⟩:=jV HR0.out a5 ao ap;have aa:=a9;have ab:=a8;have ac:=a7;cases av;replace a7:=fF HB.out a7;replace a8:=fF HB.out a8;replace a9:=fF HB.out a9;replace ao:=eq_true ao;replace ap:=eq_true ap;refine iU (n:=8) (S:=fun w'=>uS w' (a6.add ((a5).toNat * 3)) (.string ((aB l0 a5).f0)) (.bool ((aB l0 a5).f1)) (.string ((aB l0 a5).f2))) (ds:=[]) EO aC rfl rfl ⟨((HB.out.cell (World.block_lt_of_cell? w _ ac)).trans ac),((HB.out.cell (World.block_lt_of_cell? w _ ab)).trans ab),((HB.out.cell (World.block_lt_of_cell? w _ aa)).trans aa)⟩ (fun hH=>?_);refine kF mQ.Gg mQ.EJ (fun aP fK=>?_);generalize wr.drew=w8 at HB a7 a8 a9 hH ⊢;refine bM 0 ?_;refine bM 1 ?_;refine bM 2 ?_;refine bM 3 ?_;refine bM 5 ?_;refine kE 4 hH ?_;refine oH 6 (fun K hK=>?_);refine jw func129 aC rfl #[ah ae] (by rfl) rfl rfl bJ ?_
  with_reducible refine (pI.calls k1 ae bD _ A5.out).mono ?_
  rintro e w9 ⟨rfl,hb⟩;refine ⟨_,rfl,?_⟩;have dH:=m_ (dV ay hb);clear HB;have HB:=dH;clear dH;(try clear hb)
  refine hK.out _ _ ⟨((HB.out.cell (World.block_lt_of_cell? w _ ac)).trans ac),((HB.out.cell (World.block_lt_of_cell? w _ ab)).trans ab),((HB.out.cell (World.block_lt_of_cell? w _ aa)).trans aa)⟩ (fun hH=>?_);clear hK K;refine gY (some 18) ?_;refine bM 7 ?_;refine jd (kC aP.out aC) ?_;have aq:0≤(a5:Int):=aX aY;have ar:a5 < (l0.length:Int):=aX aY;obtain ⟨aT,az,al,am,an⟩:=jV HR0.out a5 aq ar;obtain rfl:a6=aT:=(by injection az);replace al:=fF HB.out al;replace am:=fF HB.out am;replace an:=fF HB.out an;replace aq:=eq_true aq;replace ar:=eq_true ar;try go_wp2
  go_ret
  exact ⟨bK,ay⟩
 have b9:(((aB l0 a5).f1) != ((Int.tmod (wrap64 (ae+1)) 3) == 0))=false:=by simpa using c7
 (try (have ba:decide (((aB l0 a5).f1)=((Int.tmod (wrap64 (ae+1)) 3) == 0))=true:=by simpa using c7))
 (try (have bb:(((aB l0 a5).f1) == ((Int.tmod (wrap64 (ae+1)) 3) == 0))=true:=by simpa using c7))
 clear c7;obtain ⟨b1,bc,H⟩:=bd_ H;revert H;refine eU (fun b2 H=>?_) fun b2 H=>?_;rotate_left
 ·have b4:=fZ b2;have b5:=f_ b2;obtain rfl:=bQ H;try go_wp2
  have dH:=m_ (nZ HB.out);clear HB;have HB:=dH;clear dH;have ao:0≤(a5:Int):=aX aY;have ap:a5 < (l0.length:Int):=aX aY;obtain ⟨a6,av,a7,a8,a9⟩:=jV HR0.out a5 ao ap;have aa:=a9;have ab:=a8;have ac:=a7;cases av;replace a7:=fF HB.out a7;replace a8:=fF HB.out a8;replace a9:=fF HB.out a9;replace ao:=eq_true ao;replace ap:=eq_true ap;refine iU (n:=8) (S:=fun w'=>uS w' (a6.add ((a5).toNat * 3)) (.string ((aB l0 a5).f0)) (.bool ((aB l0 a5).f1)) (.string ((aB l0 a5).f2))) (ds:=[]) EO aC rfl rfl ⟨((HB.out.cell (World.block_lt_of_cell? w _ ac)).trans ac),((HB.out.cell (World.block_lt_of_cell? w _ ab)).trans ab),((HB.out.cell (World.block_lt_of_cell? w _ aa)).trans aa)⟩ (fun hH=>?_);refine kF mQ.Gg mQ.EJ (fun aP fK=>?_);generalize wr.drew=bl at HB a7 a8 a9 hH ⊢;refine bM 0 ?_;refine bM 1 ?_;refine bM 2 ?_;refine bM 3 ?_;refine bM 5 ?_;refine kE 4 hH ?_;refine oH 6 (fun K hK=>?_);refine jw func129 aC rfl #[ah ae] (by rfl) rfl rfl bJ ?_
  with_reducible refine (pI.calls k1 ae bD _ A5.out).mono ?_
  rintro e fA ⟨rfl,hb⟩;refine ⟨_,rfl,?_⟩;have dH:=m_ (dV ay hb);clear HB;have HB:=dH;clear dH;(try clear hb)
  refine hK.out _ _ ⟨((HB.out.cell (World.block_lt_of_cell? w _ ac)).trans ac),((HB.out.cell (World.block_lt_of_cell? w _ ab)).trans ab),((HB.out.cell (World.block_lt_of_cell? w _ aa)).trans aa)⟩ (fun hH=>?_);clear hK K;refine gY (some 18) ?_;refine bM 7 ?_;refine jd (kC aP.out aC) ?_;have aq:0≤(a5:Int):=aX aY;have ar:a5 < (l0.length:Int):=aX aY;obtain ⟨aT,az,al,am,an⟩:=jV HR0.out a5 aq ar;obtain rfl:a6=aT:=(by injection az);replace al:=fF HB.out al;replace am:=fF HB.out am;replace an:=fF HB.out an;replace aq:=eq_true aq;replace ar:=eq_true ar;try go_wp2
  have dH:=m_ (nZ HB.out);clear HB;have HB:=dH;clear dH;have aw:0≤(a5:Int):=aX aY;have ax:a5 < (l0.length:Int):=aX aY;obtain ⟨b0,b3,af,ag,aK⟩:=jV HR0.out a5 aw ax;have ai:=aK;have aH:=ag;have aO:=af;obtain rfl:a6=b0:=(by injection b3);replace af:=fF HB.out af;replace ag:=fF HB.out ag;replace aK:=fF HB.out aK;replace aw:=eq_true aw;replace ax:=eq_true ax;refine iU (n:=8) (S:=fun w'=>uS w' (a6.add ((a5).toNat * 3)) (.string ((aB l0 a5).f0)) (.bool ((aB l0 a5).f1)) (.string ((aB l0 a5).f2))) (ds:=[]) EO aC rfl rfl ⟨((HB.out.cell (World.block_lt_of_cell? w _ aO)).trans aO),((HB.out.cell (World.block_lt_of_cell? w _ aH)).trans aH),((HB.out.cell (World.block_lt_of_cell? w _ ai)).trans ai)⟩ (fun hH=>?_);refine kF mQ.D9 mQ.Du (fun aP fK=>?_);generalize fA.drew=bm at HB af ag aK hH ⊢;refine bM 0 ?_;refine bM 1 ?_;refine bM 2 ?_;refine bM 3 ?_;refine bM 5 ?_;refine kE 4 hH ?_;refine oH 6 (fun K hK=>?_);refine jw func129 aC rfl #[ah (wrap64 ((wrap64 (ae+1))+1))] (by rfl) rfl rfl bJ ?_
  with_reducible refine (pI.calls k1 (wrap64 ((wrap64 (ae+1))+1)) b1 _ bc.out).mono ?_
  rintro e fG ⟨rfl,hb⟩;refine ⟨_,rfl,?_⟩;have dH:=m_ (dV ay hb);clear HB;have HB:=dH;clear dH;(try clear hb)
  refine hK.out _ _ ⟨((HB.out.cell (World.block_lt_of_cell? w _ aO)).trans aO),((HB.out.cell (World.block_lt_of_cell? w _ aH)).trans aH),((HB.out.cell (World.block_lt_of_cell? w _ ai)).trans ai)⟩ (fun hH=>?_);clear hK K;refine gY (some 39) ?_;refine bM 7 ?_;refine jd (kC aP.out aC) ?_;try go_wp2
  go_ret
  exact ⟨bK,ay⟩
 have b4:=fU b2;have b5:=fV b2;clear b2;have H':=m_ H;clear H;try go_wp2
 have dH:=m_ (nZ HB.out);clear HB;have HB:=dH;clear dH;have ao:0≤(a5:Int):=aX aY;have ap:a5 < (l0.length:Int):=aX aY;obtain ⟨a6,av,a7,a8,a9⟩:=jV HR0.out a5 ao ap;have aa:=a9;have ab:=a8;have ac:=a7;cases av;replace a7:=fF HB.out a7;replace a8:=fF HB.out a8;replace a9:=fF HB.out a9;replace ao:=eq_true ao;replace ap:=eq_true ap;refine iU (n:=8) (S:=fun w'=>uS w' (a6.add ((a5).toNat * 3)) (.string ((aB l0 a5).f0)) (.bool ((aB l0 a5).f1)) (.string ((aB l0 a5).f2))) (ds:=[]) EO aC rfl rfl ⟨((HB.out.cell (World.block_lt_of_cell? w _ ac)).trans ac),((HB.out.cell (World.block_lt_of_cell? w _ ab)).trans ab),((HB.out.cell (World.block_lt_of_cell? w _ aa)).trans aa)⟩ (fun hH=>?_);refine kF mQ.Gg mQ.EJ (fun aP fK=>?_);generalize wr.drew=bo at HB a7 a8 a9 hH ⊢;refine bM 0 ?_;refine bM 1 ?_;refine bM 2 ?_;refine bM 3 ?_;refine bM 5 ?_;refine kE 4 hH ?_;refine oH 6 (fun K hK=>?_);refine jw func129 aC rfl #[ah ae] (by rfl) rfl rfl bJ ?_
 with_reducible refine (pI.calls k1 ae bD _ A5.out).mono ?_
 rintro e dL ⟨rfl,hb⟩;refine ⟨_,rfl,?_⟩;have dH:=m_ (dV ay hb);clear HB;have HB:=dH;clear dH;(try clear hb)
 refine hK.out _ _ ⟨((HB.out.cell (World.block_lt_of_cell? w _ ac)).trans ac),((HB.out.cell (World.block_lt_of_cell? w _ ab)).trans ab),((HB.out.cell (World.block_lt_of_cell? w _ aa)).trans aa)⟩ (fun hH=>?_);clear hK K;refine gY (some 18) ?_;refine bM 7 ?_;refine jd (kC aP.out aC) ?_;have aq:0≤(a5:Int):=aX aY;have ar:a5 < (l0.length:Int):=aX aY;obtain ⟨aT,az,al,am,an⟩:=jV HR0.out a5 aq ar;obtain rfl:a6=aT:=(by injection az);replace al:=fF HB.out al;replace am:=fF HB.out am;replace an:=fF HB.out an;replace aq:=eq_true aq;replace ar:=eq_true ar;try go_wp2
 have dH:=m_ (nZ HB.out);clear HB;have HB:=dH;clear dH;have aw:0≤(a5:Int):=aX aY;have ax:a5 < (l0.length:Int):=aX aY;obtain ⟨b0,b3,af,ag,aK⟩:=jV HR0.out a5 aw ax;have ai:=aK;have aH:=ag;have aO:=af;obtain rfl:a6=b0:=(by injection b3);replace af:=fF HB.out af;replace ag:=fF HB.out ag;replace aK:=fF HB.out aK;replace aw:=eq_true aw;replace ax:=eq_true ax;refine iU (n:=8) (S:=fun w'=>uS w' (a6.add ((a5).toNat * 3)) (.string ((aB l0 a5).f0)) (.bool ((aB l0 a5).f1)) (.string ((aB l0 a5).f2))) (ds:=[]) EO aC rfl rfl ⟨((HB.out.cell (World.block_lt_of_cell? w _ aO)).trans aO),((HB.out.cell (World.block_lt_of_cell? w _ aH)).trans aH),((HB.out.cell (World.block_lt_of_cell? w _ ai)).trans ai)⟩ (fun hH=>?_);refine kF mQ.D9 mQ.Du (fun aP fK=>?_);generalize dL.drew=bp at HB af ag aK hH ⊢;refine bM 0 ?_;refine bM 1 ?_;refine bM 2 ?_;refine bM 3 ?_;refine bM 5 ?_;refine kE 4 hH ?_;refine oH 6 (fun K hK=>?_);refine jw func129 aC rfl #[ah (wrap64 ((wrap64 (ae+1))+1))] (by rfl) rfl rfl bJ ?_
 with_reducible refine (pI.calls k1 (wrap64 ((wrap64 (ae+1))+1)) b1 _ bc.out).mono ?_
 rintro e bq ⟨rfl,hb⟩;refine ⟨_,rfl,?_⟩;have dH:=m_ (dV ay hb);clear HB;have HB:=dH;clear dH;(try clear hb)
 refine hK.out _ _ ⟨((HB.out.cell (World.block_lt_of_cell? w _ aO)).trans aO),((HB.out.cell (World.block_lt_of_cell? w _ aH)).trans aH),((HB.out.cell (World.block_lt_of_cell? w _ ai)).trans ai)⟩ (fun hH=>?_);clear hK K;refine gY (some 39) ?_;refine bM 7 ?_;refine jd (kC aP.out aC) ?_;try go_wp2
 go_roundg k1
 case measure=>have:=gG.out;omega
 case rel=>exact ⟨(wrap64 ((wrap64 ((wrap64 (ae+1))+1))+1)),(wrap64 (a5+1)),bC,bC,H',⟨oz⟩,⟨ay⟩⟩

def CJ.f (k:Nat) (a6:List (aF)) (a1:Int):Option (Int):=(mQ.f k a6 a1).bind fun a5=>(if a5 < 0 then (some (-1)) else (some a5))
theorem CJ.calls (k:Nat) (a7:Option Addr) (a8:Nat) (aI:List (aF)) (a1:Int) (r:Int) (w:World) (a9:Kd.C aS w a7 aI.length aI) (aa:aI.length≤a8) (h:CJ.f k aI a1=some r) :
  Calls Tryz.prog 37 #[.agg #[.slice a7 aI.length a8],ah a1] w fun e w'=>e=.returned (ah r)∧Below w.heap.size w w':=by
 have nT:=underlying28;have lg:=m_ a9;have ab:=m_ aa;clear a9 aa;have HB:=m_ (Below.refl w.heap.size w);unfold CJ.f at h
 have H:=h;clear h;obtain ⟨ac,A3,H⟩:=bd_ H;have ae:=m_ H;clear H;go_enter func37,ntmps37
 go_upto_if 10 with (first|((with_reducible refine dJ 2 ?_);refine dO 2 (cs:=#[.slice a7 aI.length a8]) 28 ?_;intro af hg w5 hbox hb;obtain ⟨HB,a5,ag,aK⟩:=jR ay hb hbox hg;clear hb hbox hg;have J_:=bZ a5.out)|((with_reducible refine cu 85 ?_);refine cO (some 8) rfl rfl func85 aC rfl #[.slice a7 aI.length a8,ah a1] rfl bJ ?_;(with_reducible refine (mQ.calls k _ _ aI a1 ac _ qp ab.out A3.out).mono ?_);rintro e w7 ⟨rfl,hb⟩;refine ⟨_,rfl,?_⟩;obtain ⟨a5,HB⟩:=qA (au a5) ay hb;(try clear hb)))
 (try simp only [fM])
 (try clear J_)
 obtain ⟨H⟩:=ae;revert H;refine fB (fun a6 H=>?_) fun a6 H=>?_
 ·try simp only [aV,aZ,a6]
  obtain rfl:=bQ H;go_wp2
  go_ret
  exact ⟨bK,ay⟩
 try simp only [aV,aZ,a6]
 obtain rfl:=bQ H;go_wp2
 go_ret
 exact ⟨bK,ay⟩

def w_.l0:Nat→List ByteArray→Int→Int→Option (Int)
 | 0,_,_,_=>none
 | k+1,x0,x1,x5=>if x5 < (x0.length:Int) then (if 0≤x5 then ((pI.f k x1).bind fun a5=>(if (qV ByteArray.empty x0 x5).toList=a5.toList then (w_.l0 k x0 (wrap64 (x1+1)) (wrap64 (x5+1))) else (some (-1)))) else (none)) else (some x1)
def w_.f (k:Nat) (l0:List ByteArray) (a1:Int):Option (Int):=w_.l0 k l0 a1 0
theorem w_.calls (k:Nat) (A0:Option Addr) (c0:Nat) (l0:List ByteArray) (a1:Int) (r:Int) (w:World) (hr0:Kd.C Kd.string w A0 l0.length l0) (hc0:l0.length≤c0) (h:w_.f k l0 a1=some r) :
  Calls Tryz.prog 86 #[.slice A0 l0.length c0,ah a1] w fun e w'=>e=.returned (ah r)∧Below w.heap.size w w':=by
 have HR0:=m_ hr0;have aO:=m_ hc0;clear hr0 hc0;have HB:=m_ (Below.refl w.heap.size w);unfold w_.f at h
 have H:=h;clear h;have H':=m_ H;clear H;go_enter func86,ntmps86
 go_wp2
 go_loopg [1,5] k (fun kq v1 v5 w'=>∃ (a8:Int) (a7:Int),v1=ah a8∧v5=ah a7∧aA (w_.l0 kq l0 a8 a7=some r)∧aA (kq≤k)∧aA (Below w.heap.size w w'))
 case atStart=>exact ⟨(a1),(0),bC,bC,H',⟨Nat.le_refl _⟩,⟨ay⟩⟩
 case round =>
 clear H';obtain ⟨a8,a7,rfl,rfl,HA,gG,HB⟩:=hrel;cases gk with
 | zero=>exact absurd HA.out (by simp [w_.l0])
 | succ k1 =>
 obtain ⟨H⟩:=HA;simp only [w_.l0] at H
 revert H;refine fB (fun af H=>?_) fun af H=>?_;rotate_left
 ·obtain rfl:=bQ H;go_wp2
  go_ret
  exact ⟨bK,ay⟩
 obtain ⟨aH,H⟩:=gI H;obtain ⟨ac,A5,H⟩:=bd_ H;have ai:=m_ H;clear H;try go_wp2
 have dH:=m_ (nZ HB.out);clear HB;have HB:=dH;clear dH;have aa:0≤(a7:Int):=aX aY;have ab:a7 < (l0.length:Int):=aX aY;obtain ⟨ae,ag,a5⟩:=Kd.Aa HR0.out a7 aa ab;have a6:=a5;cases ag;replace a5:=fF HB.out a5;replace aa:=eq_true aa;replace ab:=eq_true ab;refine iU (n:=7) (S:=fun w'=>w'.cell? (ae.add (a7).toNat)=some (.string (qV ByteArray.empty l0 a7))) (ds:=[]) N9 aC rfl rfl (((HB.out.cell (World.block_lt_of_cell? w _ a6)).trans a6)) (fun hH=>?_);generalize wr.drew=w7 at HB a5 hH ⊢;refine uF (i:=0) (N:=some 12) #[aj,F_,F_,F_,F_,F_,F_] aC ?_;refine uF (i:=1) (N:=some 13) #[aj,aj,F_,F_,F_,F_,F_] aC ?_;refine uF (i:=2) (N:=some 14) #[aj,aj,aj,F_,F_,F_,F_] aC ?_;refine uF (i:=4) (N:=some 16) #[aj,aj,aj,F_,aj,F_,F_] aC ?_;refine qX (i:=3) (N:=some 15) (v:=?_) (a':=?_) N_ rfl rfl aC (fun _ _ _ h=>h) (Or.inl ⟨(by rfl),?_⟩) hH ?_ ?_;rotate_left
 ·intro w' s0;go_simp
  with_reducible rfl
 rotate_left
 ·simp only [fM,aV,aZ]
  rfl
 refine iy (i:=5) (N:=some 17) Oa rfl rfl aC (by decide) (fun K hK=>?_);refine jw func129 aC rfl #[ah a8] (by rfl) rfl rfl bJ ?_
 with_reducible refine (pI.calls k1 a8 ac _ A5.out).mono ?_
 rintro e w8 ⟨rfl,hb⟩;refine ⟨_,rfl,?_⟩;have dH:=m_ (dV ay hb);clear HB;have HB:=dH;clear dH;(try clear hb)
 refine hK.out _ _ (((HB.out.cell (World.block_lt_of_cell? w _ a6)).trans a6)) (fun hH=>?_);clear hK K;refine gY (some 17) ?_;refine uF (i:=6) (N:=some 18) Ob aC ?_;refine jd aC ?_;go_upto_if 18 with (fail)
 obtain ⟨H⟩:=ai;revert H;refine eU (fun c9 H=>?_) fun c9 H=>?_;rotate_left
 ·have a9:=fZ c9;have aK:=f_ c9;try simp only [aV,aZ,a9]
  obtain rfl:=bQ H;go_wp2
  go_ret
  exact ⟨bK,ay⟩
 have a9:=fU c9;have aK:=fV c9;clear c9;try simp only [aV,aZ,a9]
 have H':=m_ H;clear H;go_wp2
 go_roundg k1
 case measure=>have:=gG.out;omega
 case rel=>exact ⟨(wrap64 (a8+1)),(wrap64 (a7+1)),bC,bC,H',⟨oz⟩,⟨ay⟩⟩

def CG.f (k:Nat) (a7:Int) (a8:ByteArray) (a9:Int) (aa:Bool) (a6:List ByteArray) (a1:Int):Option (Int):=(w_.f k a6 a1).bind fun a5=>(if a5 < 0 then (some (-1)) else (some a5))
theorem CG.calls (k:Nat) (a9:Int) (aa:ByteArray) (ab:Int) (ac:Bool) (dX:Option Addr) (dW:Nat) (bP:List ByteArray) (a1:Int) (r:Int) (w:World) (a7:Kd.C Kd.string w dX bP.length bP) (a8:bP.length≤dW) (h:CG.f k a9 aa ab ac bP a1=some r) :
  Calls Tryz.prog 38 #[.agg #[ah a9,.string aa,ah ab,.bool ac,.slice dX bP.length dW],ah a1] w fun e w'=>e=.returned (ah r)∧Below w.heap.size w w':=by
 have wE:=underlying49;have Kz:=m_ a7;have ae:=m_ a8;clear a7 a8;have HB:=m_ (Below.refl w.heap.size w);unfold CG.f at h
 have H:=h;clear h;obtain ⟨af,A3,H⟩:=bd_ H;have ag:=m_ H;clear H;go_enter func38,ntmps38
 go_upto_if 10 with (first|((with_reducible refine dJ 2 ?_);refine dO 2 (cs:=#[ah a9,.string aa,ah ab,.bool ac,.slice dX bP.length dW]) 49 ?_;intro aK hg w5 hbox hb;obtain ⟨HB,a5,ai,aH⟩:=jR ay hb hbox hg;clear hb hbox hg;have aO:=jc a5.out)|((with_reducible refine cu 86 ?_);refine cO (some 8) rfl rfl func86 aC rfl #[.slice dX bP.length dW,ah a1] rfl bJ ?_;(with_reducible refine (w_.calls k _ _ bP a1 af _ vK ae.out A3.out).mono ?_);rintro e w7 ⟨rfl,hb⟩;refine ⟨_,rfl,?_⟩;obtain ⟨a5,HB⟩:=qA (au a5) ay hb;(try clear hb)))
 (try simp only [fM])
 (try clear aO)
 obtain ⟨H⟩:=ag;revert H;refine fB (fun a6 H=>?_) fun a6 H=>?_
 ·try simp only [aV,aZ,a6]
  obtain rfl:=bQ H;go_wp2
  go_ret
  exact ⟨bK,ay⟩
 try simp only [aV,aZ,a6]
 obtain rfl:=bQ H;go_wp2
 go_ret
 exact ⟨bK,ay⟩

end Go.Proofs.YthejdhjpbpamoaaGreatDoor.pU
