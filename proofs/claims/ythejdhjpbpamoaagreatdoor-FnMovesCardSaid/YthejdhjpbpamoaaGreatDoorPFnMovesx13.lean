/- Contracts of Go functions: each call returns what the Lean function beside it computes. Conditions: as each theorem states them. -/
import Derived.Test.YthejdhjpbpamoaaGreatDoorPkFnMoves
import Derived.Test.YthejdhjpbpamoaaGreatDoorPFnMovesx1
import Derived.Test.YthejdhjpbpamoaaGreatDoorPFnMovesx2
import Derived.Test.YthejdhjpbpamoaaGreatDoorPFnMovesx12
namespace Go.Proofs.YthejdhjpbpamoaaGreatDoor.jM
open Go.RowKit Go.Proofs.YthejdhjpbpamoaaGreatDoorW.iK Go.Proofs.YthejdhjpbpamoaaGreatDoorW.lX Go.Proofs.YthejdhjpbpamoaaGreatDoorW.oV Go.Proofs.Tryz
attribute [local go_sem] qI qM qL qP qK qO qJ qN   -- for this text's walks alone
set_option linter.unusedVariables false
set_option maxHeartbeats 8000000
set_option maxRecDepth 100000
set_option linter.unusedSimpArgs false

def Au.f (aX:List Int) (dW:Int) (dX:Int):Option (ByteArray × Int × Int):=(wE.f aX dW dX 5).bind fun a5=>(if a5.1=true then ((yY.f aX a5.2.1 a5.2.2 (([(⟨#[]⟩:ByteArray),(⟨#[97]⟩:ByteArray),(⟨#[47,47]⟩:ByteArray),(⟨#[47,97,47]⟩:ByteArray),(⟨#[47,97,47,47,98]⟩:ByteArray),(⟨#[47,65]⟩:ByteArray),(⟨#[47,97,32,98]⟩:ByteArray),(⟨#[47,97,98,99,100,101,102,103,104]⟩:ByteArray),(⟨#[47,97,47,97,98,99,100,101,102,103,104,47,98]⟩:ByteArray),(⟨#[47,97,98,99,100,101,102,103,104,47,65]⟩:ByteArray),(⟨#[47,97,98,99,100,101,102,47,97,98,99,100,101,102,47,97,98,99,100,101,102,47,97,98,99,100,101,102,47,97,98,99,100,101,102,47,97,98,99,100,101,102,47,97,98,99,100,101,102,47,97,98,99,100,101,102,47,97,98,99]⟩:ByteArray),(⟨#[47,97,98,99,100,101,102,47,97,98,99,100,101,102,47,97,98,99,100,101,102,47,97,98,99,100,101,102,47,97,98,99,100,101,102,47,97,98,99,100,101,102,47,97,98,99,100,101,102,47,97,98,99,100,101,102,47,97,98,99,100]⟩:ByteArray),(⟨#[47,0]⟩:ByteArray)]:List ByteArray))).bind fun a6=>(some (a6.1,a6.2.1,a6.2.2))) else ((rY.f aX a5.2.1 a5.2.2).bind fun a7=>(some (a7.1,a7.2.1,a7.2.2))))
theorem Au.calls (g:Nat) (aX:List Int) (dW:Int) (dX:Int) (r1:ByteArray) (r2:Int) (r3:Int) (w0 w:World) (hI:aJ w0 w g aX dW dX) (hB:Below w0.heap.size w0 w) (h:Au.f aX dW dX=some (r1,r2,r3)) :
  Calls Tryz.prog 89 #[.pointer (some ⟨g,0,none⟩)] w fun e w'=>e=.returned (.string r1)∧aJ w0 w' g aX r2 r3∧Below w0.heap.size w0 w'∧aQ w w' g none:=by
 have HI0:=m_ hI
 have HK:=m_ (aQ.refl w g none)
 have HL:=m_ hB.size
 clear hI
 have HW0:=m_ hB.size
 have HB:=m_ hB
 clear hB
 unfold Au.f at h
 have H:=h
 clear h
 obtain ⟨⟨ac,a6,a7⟩,A2,H⟩:=bd_ H
 try dsimp -simprocs only at H
 by_cases c3:ac=true
 rotate_left
 ·replace c3:=Bool.eq_false_iff.mpr c3
  subst c3
  rw [if_neg iO] at H
  obtain ⟨⟨ae,af,ag⟩,aT,H⟩:=bd_ H
  try dsimp -simprocs only at H
  simp only [Option.some.injEq,Prod.mk.injEq] at H
  obtain ⟨rfl,rfl,rfl⟩:=H
  go_enter func89,ntmps89
  go_wp2_with (first|((with_reducible refine bU 42 ?_);refine bV (some 4) rfl rfl func42 aB rfl #[.pointer (some ⟨g,0,none⟩),ah 5] rfl aW ?_;(with_reducible refine (wE.calls g aX dW dX 5 false a6 a7 w0 _ aZ dA A2.out).mono ?_);rintro e ao ⟨rfl,hi,hb,hk⟩;refine ⟨_,rfl,?_⟩;obtain ⟨HK,HB,HI0⟩:=p_ (aQ.trans iI hk (.inl rfl)) <| p_ (hb) <| a_ (hi);(try clear hb);(try clear hk);(try clear hi))|((with_reducible refine bU 44 ?_);refine bV (some 9) rfl rfl func44 aB rfl #[.pointer (some ⟨g,0,none⟩)] rfl aW ?_;(with_reducible refine (rY.calls g aX a6 a7 ae af ag w0 _ aZ dA aT.out).mono ?_);rintro e ap ⟨rfl,hi,hb,hk⟩;refine ⟨_,rfl,?_⟩;obtain ⟨HK,HB,HI0⟩:=p_ (aQ.trans iI hk (.inl rfl)) <| p_ (hb) <| a_ (hi);(try clear hb);(try clear hk);(try clear hi)))
  go_ret
  exact ⟨b_,aZ,dA,iI⟩
 subst c3
 rw [if_pos rfl] at H
 obtain ⟨ab,a8⟩:∃ y_:List ByteArray,y_=(([(⟨#[]⟩:ByteArray),(⟨#[97]⟩:ByteArray),(⟨#[47,47]⟩:ByteArray),(⟨#[47,97,47]⟩:ByteArray),(⟨#[47,97,47,47,98]⟩:ByteArray),(⟨#[47,65]⟩:ByteArray),(⟨#[47,97,32,98]⟩:ByteArray),(⟨#[47,97,98,99,100,101,102,103,104]⟩:ByteArray),(⟨#[47,97,47,97,98,99,100,101,102,103,104,47,98]⟩:ByteArray),(⟨#[47,97,98,99,100,101,102,103,104,47,65]⟩:ByteArray),(⟨#[47,97,98,99,100,101,102,47,97,98,99,100,101,102,47,97,98,99,100,101,102,47,97,98,99,100,101,102,47,97,98,99,100,101,102,47,97,98,99,100,101,102,47,97,98,99,100,101,102,47,97,98,99,100,101,102,47,97,98,99]⟩:ByteArray),(⟨#[47,97,98,99,100,101,102,47,97,98,99,100,101,102,47,97,98,99,100,101,102,47,97,98,99,100,101,102,47,97,98,99,100,101,102,47,97,98,99,100,101,102,47,97,98,99,100,101,102,47,97,98,99,100,101,102,47,97,98,99,100]⟩:ByteArray),(⟨#[47,0]⟩:ByteArray)]:List ByteArray)):=⟨_,rfl⟩
 rw [← a8] at H
 have aa:=m_ a8
 clear a8
 obtain ⟨⟨aP,ai,aN⟩,A4,H⟩:=bd_ H
 try dsimp -simprocs only at H
 simp only [Option.some.injEq,Prod.mk.injEq] at H
 obtain ⟨rfl,rfl,rfl⟩:=H
 go_enter func89,ntmps89
 go_wp2_with (first|((with_reducible refine bU 42 ?_);refine bV (some 4) rfl rfl func42 aB rfl #[.pointer (some ⟨g,0,none⟩),ah 5] rfl aW ?_;(with_reducible refine (wE.calls g aX dW dX 5 true a6 a7 w0 _ aZ dA A2.out).mono ?_);rintro e w5 ⟨rfl,hi,hb,hk⟩;refine ⟨_,rfl,?_⟩;obtain ⟨HK,HB,HI0⟩:=p_ (aQ.trans iI hk (.inl rfl)) <| p_ (hb) <| a_ (hi);(try clear hb);(try clear hk);(try clear hi))|((with_reducible refine dG 6 ?_);refine Kd.qV Kd.string _ 9 ?hg (N:=6) ?hd (xs:=([(⟨#[]⟩:ByteArray),(⟨#[97]⟩:ByteArray),(⟨#[47,47]⟩:ByteArray),(⟨#[47,97,47]⟩:ByteArray),(⟨#[47,97,47,47,98]⟩:ByteArray),(⟨#[47,65]⟩:ByteArray),(⟨#[47,97,32,98]⟩:ByteArray),(⟨#[47,97,98,99,100,101,102,103,104]⟩:ByteArray),(⟨#[47,97,47,97,98,99,100,101,102,103,104,47,98]⟩:ByteArray),(⟨#[47,97,98,99,100,101,102,103,104,47,65]⟩:ByteArray),(⟨#[47,97,98,99,100,101,102,47,97,98,99,100,101,102,47,97,98,99,100,101,102,47,97,98,99,100,101,102,47,97,98,99,100,101,102,47,97,98,99,100,101,102,47,97,98,99,100,101,102,47,97,98,99,100,101,102,47,97,98,99]⟩:ByteArray),(⟨#[47,97,98,99,100,101,102,47,97,98,99,100,101,102,47,97,98,99,100,101,102,47,97,98,99,100,101,102,47,97,98,99,100,101,102,47,97,98,99,100,101,102,47,97,98,99,100,101,102,47,97,98,99,100,101,102,47,97,98,99,100]⟩:ByteArray),(⟨#[47,0]⟩:ByteArray)]:List ByteArray)) (inner:=[.string (⟨#[]⟩:ByteArray),.string (⟨#[97]⟩:ByteArray),.string (⟨#[47,47]⟩:ByteArray),.string (⟨#[47,97,47]⟩:ByteArray),.string (⟨#[47,97,47,47,98]⟩:ByteArray),.string (⟨#[47,65]⟩:ByteArray),.string (⟨#[47,97,32,98]⟩:ByteArray),.string (⟨#[47,97,98,99,100,101,102,103,104]⟩:ByteArray),.string (⟨#[47,97,47,97,98,99,100,101,102,103,104,47,98]⟩:ByteArray),.string (⟨#[47,97,98,99,100,101,102,103,104,47,65]⟩:ByteArray),.string (⟨#[47,97,98,99,100,101,102,47,97,98,99,100,101,102,47,97,98,99,100,101,102,47,97,98,99,100,101,102,47,97,98,99,100,101,102,47,97,98,99,100,101,102,47,97,98,99,100,101,102,47,97,98,99,100,101,102,47,97,98,99]⟩:ByteArray),.string (⟨#[47,97,98,99,100,101,102,47,97,98,99,100,101,102,47,97,98,99,100,101,102,47,97,98,99,100,101,102,47,97,98,99,100,101,102,47,97,98,99,100,101,102,47,97,98,99,100,101,102,47,97,98,99,100,101,102,47,97,98,99,100]⟩:ByteArray),.string (⟨#[47,0]⟩:ByteArray)]) (ok:=fun _=>True) (iT:=fun _=>True) ?hr ?hp (fun _ hk=>hk) trivial (Below.refl _ _) (Nat.le_refl _) (by simp) ?_;(case hd=>rfl);(case hg=>rfl);(case hr=>first|(go_simp;done)|(go_simp;rfl));(case hp=>exact (bM.one (show Kd.M Kd.string _ _ _ (⟨#[]⟩:ByteArray) [.string (⟨#[]⟩:ByteArray)] from rfl) (bM.one (show Kd.M Kd.string _ _ _ (⟨#[97]⟩:ByteArray) [.string (⟨#[97]⟩:ByteArray)] from rfl) (bM.one (show Kd.M Kd.string _ _ _ (⟨#[47,47]⟩:ByteArray) [.string (⟨#[47,47]⟩:ByteArray)] from rfl) (bM.one (show Kd.M Kd.string _ _ _ (⟨#[47,97,47]⟩:ByteArray) [.string (⟨#[47,97,47]⟩:ByteArray)] from rfl) (bM.one (show Kd.M Kd.string _ _ _ (⟨#[47,97,47,47,98]⟩:ByteArray) [.string (⟨#[47,97,47,47,98]⟩:ByteArray)] from rfl) (bM.one (show Kd.M Kd.string _ _ _ (⟨#[47,65]⟩:ByteArray) [.string (⟨#[47,65]⟩:ByteArray)] from rfl) (bM.one (show Kd.M Kd.string _ _ _ (⟨#[47,97,32,98]⟩:ByteArray) [.string (⟨#[47,97,32,98]⟩:ByteArray)] from rfl) (bM.one (show Kd.M Kd.string _ _ _ (⟨#[47,97,98,99,100,101,102,103,104]⟩:ByteArray) [.string (⟨#[47,97,98,99,100,101,102,103,104]⟩:ByteArray)] from rfl) (bM.one (show Kd.M Kd.string _ _ _ (⟨#[47,97,47,97,98,99,100,101,102,103,104,47,98]⟩:ByteArray) [.string (⟨#[47,97,47,97,98,99,100,101,102,103,104,47,98]⟩:ByteArray)] from rfl) (bM.one (show Kd.M Kd.string _ _ _ (⟨#[47,97,98,99,100,101,102,103,104,47,65]⟩:ByteArray) [.string (⟨#[47,97,98,99,100,101,102,103,104,47,65]⟩:ByteArray)] from rfl) (bM.one (show Kd.M Kd.string _ _ _ (⟨#[47,97,98,99,100,101,102,47,97,98,99,100,101,102,47,97,98,99,100,101,102,47,97,98,99,100,101,102,47,97,98,99,100,101,102,47,97,98,99,100,101,102,47,97,98,99,100,101,102,47,97,98,99,100,101,102,47,97,98,99]⟩:ByteArray) [.string (⟨#[47,97,98,99,100,101,102,47,97,98,99,100,101,102,47,97,98,99,100,101,102,47,97,98,99,100,101,102,47,97,98,99,100,101,102,47,97,98,99,100,101,102,47,97,98,99,100,101,102,47,97,98,99,100,101,102,47,97,98,99]⟩:ByteArray)] from rfl) (bM.one (show Kd.M Kd.string _ _ _ (⟨#[47,97,98,99,100,101,102,47,97,98,99,100,101,102,47,97,98,99,100,101,102,47,97,98,99,100,101,102,47,97,98,99,100,101,102,47,97,98,99,100,101,102,47,97,98,99,100,101,102,47,97,98,99,100,101,102,47,97,98,99,100]⟩:ByteArray) [.string (⟨#[47,97,98,99,100,101,102,47,97,98,99,100,101,102,47,97,98,99,100,101,102,47,97,98,99,100,101,102,47,97,98,99,100,101,102,47,97,98,99,100,101,102,47,97,98,99,100,101,102,47,97,98,99,100,101,102,47,97,98,99,100]⟩:ByteArray)] from rfl) (bM.one (show Kd.M Kd.string _ _ _ (⟨#[47,0]⟩:ByteArray) [.string (⟨#[47,0]⟩:ByteArray)] from rfl) (bM.none _ _)))))))))))))));intro ajp w6 yP hb jc jd;clear jc jd;(first|rw [← aa.out] at yP|(simp only [Int.reduceToNat] at yP;rw [← aa.out] at yP));obtain ⟨a5,HI0,HK,HB⟩:=p_ (Kd.dK yP (gY (w:=w) (g:=g) (row:=none) iI)) <| p_ (aJ.below aZ hb) <| p_ (aQ.trans iI (aQ.of_below hb g none) (.inl rfl)) <| a_ (dI dA hb);clear hb yP;obtain ⟨al,am,an⟩:=Kd.dJ a5.out;subst an)|((with_reducible refine bU 93 ?_);refine bV (some 7) rfl rfl func93 aB rfl #[.pointer (some ⟨g,0,none⟩),.slice al ab.length am] rfl aW ?_;(with_reducible refine (yY.calls g aX a6 a7 _ _ ab aP ai aN w0 _ aZ dA ?mJ ((Kd.bZ a5.out).2.1) (wV (aJ.own_ne HI0.out a5.out (by decide))) A4.out).mono ?_);(case mJ=>repeat (first|exact (Kd.bZ a5.out).2.2|(with_reducible refine Kd.jJ ?_ _)|(with_reducible refine Kd.jL ?_ _)|(with_reducible refine Kd.jK ?_)));rintro e w9 ⟨rfl,hi,hb,hk⟩;refine ⟨_,rfl,?_⟩;obtain ⟨a5,HK,HB,HI0⟩:=p_ (Kd.bW (Kd.lY (aJ.apart (show aJ w0 _ g aX a6 a7 from aZ) (aG a5) (by decide)) hk (fun _ h=>h.2)) (fun _ h=>h.1)) <| p_ (aQ.trans iI hk (.inl rfl)) <| p_ (hb) <| a_ (hi);(try clear hb);(try clear hk);(try clear hi)))
 go_ret
 exact ⟨b_,aZ,dA,iI⟩

def oM.f (aX:List Int) (dW:Int) (dX:Int) (l1:List Int):Option (Int × Int × Int):=(nG.f aX dW dX (l1.length:Int)).bind fun a5=>(if 0≤a5.1 then (if a5.1 < (l1.length:Int) then (some (rd l1 a5.1,a5.2.1,a5.2.2)) else (none)) else (none))
theorem oM.calls (g:Nat) (aX:List Int) (dW:Int) (dX:Int) (A1:Option Addr) (c1:Nat) (l1:List Int) (r1:Int) (r2:Int) (r3:Int) (w0 w:World) (hI:aJ w0 w g aX dW dX) (hB:Below w0.heap.size w0 w) (hr1:Kd.C (Kd.int .i64) w A1 l1.length l1) (hc1:l1.length≤c1) (hf1:∀ ad,A1=some ad→0 < l1.length→ad.block≠g) (h:oM.f aX dW dX l1=some (r1,r2,r3)) :
  Calls Tryz.prog 92 #[.pointer (some ⟨g,0,none⟩),.slice A1 l1.length c1] w fun e w'=>e=.returned (ah r1)∧aJ w0 w' g aX r2 r3∧Below w0.heap.size w0 w'∧aQ w w' g none:=by
 have ae:=m_ hr1
 have aP:=m_ hc1
 clear hr1 hc1
 have HI0:=m_ hI
 have HK:=m_ (aQ.refl w g none)
 have HL:=m_ hB.size
 clear hI
 have HW0:=m_ hB.size
 have HB:=m_ hB
 clear hB
 unfold oM.f at h
 have H:=h
 clear h
 obtain ⟨⟨a6,aa,ab⟩,A3,H⟩:=bd_ H
 try dsimp -simprocs only at H
 obtain ⟨af,H⟩:=fU H
 obtain ⟨ag,H⟩:=fU H
 simp only [Option.some.injEq,Prod.mk.injEq] at H
 obtain ⟨rfl,rfl,rfl⟩:=H
 go_enter func92,ntmps92
 go_wp2_with (first|((with_reducible refine bU 87 ?_);refine bV (some 9) rfl rfl func87 aB rfl #[.pointer (some ⟨g,0,none⟩),ah (l1.length:Int)] rfl aW ?_;(with_reducible refine (nG.calls g aX dW dX (l1.length:Int) a6 aa ab w0 _ aZ dA A3.out).mono ?_);rintro e w6 ⟨rfl,hi,hb,hk⟩;refine ⟨_,rfl,?_⟩;obtain ⟨HK,HB,HI0⟩:=p_ (aQ.trans iI hk (.inl rfl)) <| p_ (hb) <| a_ (hi);(try clear hb);(try clear hk);(try clear hi);have a7:0≤(a6:Int):=bC bD;have a8:a6 < (l1.length:Int):=bC bD;obtain ⟨a9,ac,a5⟩:=Kd.MG ae.out a6 a7 a8;cases ac;replace a5:=JU HK.out a5 (by first|(rw [add_block];exact hf1 _ rfl (by omega))|exact hf1 _ rfl (by omega)|exact hf1 a9 rfl (by omega));replace a7:=eq_true a7;replace a8:=eq_true a8))
 go_ret
 exact ⟨b_,aZ,dA,iI⟩

mutual
def qR.j0:Nat→Int→List Int→Int→Int→Option (ByteArray × Int × Int)
 | 0,_,_,_,_=>none
 | k+1,x1,a5,a6,a7=>qR.l0 k x1 (([]:List Int)) 0 a5 a6 a7
def qR.l0:Nat→Int→List Int→Int→List Int→Int→Int→Option (ByteArray × Int × Int)
 | 0,_,_,_,_,_,_=>none
 | k+1,x1,x5,x6,a6,a7,a8=>if x6 < x1 then ((uM.f a6 a7 a8).bind fun a5=>(if x5.length < 140737488355328 then (qR.l0 k x1 (x5++[(a5.1) % 256]) (wrap64 (x6+1)) a6 a5.2.1 a5.2.2) else (none))) else (some (strOfNums x5,a7,a8))
end
def qR.f (k:Nat) (aX:List Int) (dW:Int) (dX:Int) (a1:Int):Option (ByteArray × Int × Int):=if a1 > 5000 then (qR.j0 k 5000 aX dW dX) else (qR.j0 k a1 aX dW dX)
theorem qR.calls (k:Nat) (g:Nat) (aX:List Int) (dW:Int) (dX:Int) (a1:Int) (r1:ByteArray) (r2:Int) (r3:Int) (w0 w:World) (hI:aJ w0 w g aX dW dX) (hB:Below w0.heap.size w0 w) (h:qR.f k aX dW dX a1=some (r1,r2,r3)) :
  Calls Tryz.prog 147 #[.pointer (some ⟨g,0,none⟩),ah a1] w fun e w'=>e=.returned (.string r1)∧aJ w0 w' g aX r2 r3∧Below w0.heap.size w0 w'∧aQ w w' g none:=by
 have HI0:=m_ hI
 have HK:=m_ (aQ.refl w g none)
 have HL:=m_ hB.size
 clear hI
 have HW0:=m_ hB.size
 have HB:=m_ hB
 clear hB
 unfold qR.f at h
 have H:=h
 clear h
 have ao:=m_ H
 clear H
 go_enter func147,ntmps147
 go_upto_if 8 with (fail)
 go_cut [1] (fun v1 wc=>∃ (kq:Nat) (a8:Int),v1=ah a8∧aA (qR.j0 kq a8 aX dW dX=some (r1,r2,r3))∧aA (kq≤k)∧aA (aJ w0 wc g aX dW dX)∧aA (aQ w wc g none)∧aA (Below w0.heap.size w0 wc))
 case first =>
  obtain ⟨H⟩:=ao
  revert H;refine gI (fun a9 H=>?_) fun a9 H=>?_
  rotate_left
  ·try simp only [bI,bY,a9]
   have H':=m_ H
   clear H
   go_wp2
   go_meet
   case rel=>exact ⟨_,(a1),bg,H',⟨kH⟩,⟨aZ⟩,⟨iI⟩,⟨dA⟩⟩
  try simp only [bI,bY,a9]
  have H':=m_ H
  clear H
  go_wp2
  go_meet
  case rel=>exact ⟨_,(5000),bg,H',⟨kH⟩,⟨aZ⟩,⟨iI⟩,⟨dA⟩⟩
 case rest =>
 clear ao
 obtain ⟨kq,a8,rfl,HA,HJ2,HI0,HK,HB⟩:=hcut
 cases kq with
 | zero=>exact absurd HA.out (by simp [qR.j0])
 | succ Bl =>
 obtain ⟨H⟩:=HA
 simp only [qR.j0] at H
 obtain ⟨aN,ab⟩:∃ y_:List Int,y_=(([]:List Int)):=⟨_,rfl⟩
 rw [← ab] at H
 have ag:=m_ ab
 clear ab
 have H':=m_ H
 clear H
 go_wp2_with (first|((with_reducible refine dG 9 ?_);refine Kd.qV (Kd.int .u8) _ 5 ?hg (N:=9) ?hd (xs:=([]:List Int)) (inner:=[]) (ok:=fun _=>True) (iT:=fun _=>True) ?hr ?hp (fun _ hk=>hk) trivial (Below.refl _ _) (Nat.le_refl _) (by simp) ?_;(case hd=>rfl);(case hg=>rfl);(case hr=>first|(go_simp;done)|(go_simp;rfl));(case hp=>exact (bM.none _ _));intro ajq w5 uI hb jc jd;clear jc jd;(first|rw [← ag.out] at uI|(simp only [Int.reduceToNat] at uI;rw [← ag.out] at uI));obtain ⟨aT,HI0,HK,HB⟩:=p_ (Kd.dK uI (gY (w:=w) (g:=g) (row:=none) iI)) <| p_ (aJ.below aZ hb) <| p_ (aQ.trans iI (aQ.of_below hb g none) (.inl rfl)) <| a_ (dI dA hb);clear hb uI))
 go_loopg [5,6] Bl (fun kq v5 v6 w'=>∃ (ac:List Int) (aa:Int) (a5:Int) (a6:Int),v6=ah aa∧aA (qR.l0 kq a8 ac aa aX a5 a6=some (r1,r2,r3))∧aA (kq≤Bl)∧aA (Kd.R (Kd.int .u8) 5 w' w.heap.size (fun _=>True) v5 ac)∧aA (aJ w0 w' g aX a5 a6)∧aA (aQ w w' g none)∧aA (Below w0.heap.size w0 w'))
 case atStart=>exact ⟨(aN),(0),(dW),(dX),bg,H',⟨Nat.le_refl _⟩,⟨(aG aT)⟩,⟨aZ⟩,⟨iI⟩,⟨dA⟩⟩
 case round =>
 clear H'
 obtain ⟨ac,aa,a5,a6,rfl,HA,jv,a7,HI0,HK,HB⟩:=hrel
 cases gk with
 | zero=>exact absurd HA.out (by simp [qR.l0])
 | succ k2 =>
 obtain ⟨H⟩:=HA
 simp only [qR.l0] at H
 revert H;refine gI (fun ap H=>?_) fun ap H=>?_
 rotate_left
 ·simp only [Option.some.injEq,Prod.mk.injEq] at H
  obtain ⟨rfl,rfl,rfl⟩:=H
  have aef:=Vm (P:=Tryz.prog) underlying22 underlying5 underlying9 (Kd.J8 a7.out)
  go_wp2
  go_ret
  exact ⟨b_,aZ,dA,iI⟩
 obtain ⟨⟨af,aP,ai⟩,x8,H⟩:=bd_ H
 try dsimp -simprocs only at H
 obtain ⟨c9,H⟩:=lG H
 have aq:=m_ c9
 clear c9
 obtain ⟨al,ae⟩:∃ y_:List Int,y_=(ac++[(af) % 256]):=⟨_,rfl⟩
 rw [← ae] at H
 have am:=m_ ae
 clear ae
 have H':=m_ H
 clear H
 go_wp2_with (first|((with_reducible refine bU 130 ?_);refine bV (some 17) rfl rfl func130 aB rfl #[.pointer (some ⟨g,0,none⟩)] rfl aW ?_;(with_reducible refine (uM.calls g aX a5 a6 af aP ai w0 _ aZ dA x8.out).mono ?_);rintro e ar ⟨rfl,hi,hb,hk⟩;refine ⟨_,rfl,?_⟩;obtain ⟨a7,HK,HB,HI0⟩:=p_ (Kd.bW (Kd.lY (aJ.apart (show aJ w0 _ g aX a5 a6 from aZ) (aG a7) (by decide)) hk (fun _ h=>h.2)) (fun _ h=>h.1)) <| p_ (aQ.trans iI hk (.inl rfl)) <| p_ (hb) <| a_ (hi);(try clear hb);(try clear hk);(try clear hi))|((with_reducible refine wW (b:=.append) (xs:=#[.tmp 15,.tmp 19]) rfl ?_);at_builtin;refine Kd.CS (Kd.int .u8) w.heap.size rfl (.tmp 15) (.tmp 19) 22 5 (.int .u8 0) 1 rfl underlying22 info5 rfl (by decide) (by omega) u5 ac ((af) % 256) [.int .u8 ((af) % 256)] (fun _=>True) (fun _=>False) rfl rfl ?rD (fun _ hk=>hk.elim) ?kS ?ku (Below.refl _ _) ?kC ?aL ?_;(case rD=>exact rfl);(case kS=>exact (fun _ _=>trivial));(case ku=>exact (aG a7));(case kC=>exact (gY (w:=w) (g:=g) (row:=none) iI));(case aL=>have:=aq.out;omega);intro ajr bP ho hb hg hat;rw [← am.out] at ho;obtain ⟨HI0,HB,HK,an⟩:=p_ (aJ.grown aZ hg (aJ.own_ne HI0.out a7.out (by decide))) <| p_ (Q_ dA HL.out hb) <| p_ (aQ.trans iI (aQ.Bv hg g) (Kd.QM a7.out)) <| a_ (ho);clear ho hb hg hat))
 go_roundg k2
 case measure=>have:=HJ2.out;have:=jv.out;omega
 case rel=>exact ⟨(al),(wrap64 (aa+1)),(aP),(ai),bg,H',⟨(by have:=HJ2.out;have:=jv.out;omega)⟩,⟨(aG an)⟩,⟨aZ⟩,⟨iI⟩,⟨dA⟩⟩

def tJ.j0:Nat→List Int→Int→Int→Int→ByteArray→ByteArray→Int→Int→ByteArray→Option (Int × ByteArray × ByteArray × Int × Int × ByteArray × Int × Int)
 | 0,_,_,_,_,_,_,_,_,_=>none
 | k+1,a9,ac,ae,a5,a6,a7,aa,ab,a8=>if a5=5 then ((rY.f a9 ac ae).bind fun af=>(some (a5,a6,af.1,aa,ab,a8,af.2.1,af.2.2))) else (if a5=6 then ((oM.f a9 ac ae (([0,1,5,32,100,200]:List Int))).bind fun ag=>((oM.f a9 ag.2.1 ag.2.2 (([0,1,10,40,128,1000]:List Int))).bind fun aP=>(some (a5,a6,a7,ag.1,aP.1,a8,aP.2.1,aP.2.2)))) else (if a5=7 then ((oM.f a9 ac ae (([0,0,0,1,5,30,32,33,64,100]:List Int))).bind fun ai=>((oM.f a9 ai.2.1 ai.2.2 (([0,1,2,5,20,32,40]:List Int))).bind fun aN=>((qR.f k a9 aN.2.1 aN.2.2 aN.1).bind fun aT=>(some (a5,a6,a7,ai.1,ab,aT.1,aT.2.1,aT.2.2))))) else (if a5=8 then ((oM.f a9 ac ae (([0,1,5,31,32,33,64,70,128,129]:List Int))).bind fun al=>(some (a5,a6,a7,aa,al.1,a8,al.2.1,al.2.2))) else (some (a5,a6,a7,aa,ab,a8,ac,ae)))))
def tJ.f (k:Nat) (aX:List Int) (dW:Int) (dX:Int):Option (Int × ByteArray × ByteArray × Int × Int × ByteArray × Int × Int):=(oM.f aX dW dX (([1,1,1,2,2,3,4,5,5,6,7,7,7,7,7,8,8,9,10,11]:List Int))).bind fun a6=>((rY.f aX a6.2.1 a6.2.2).bind fun a7=>((wE.f aX a7.2.1 a7.2.2 12).bind fun a5=>(if a5.1=true then ((Au.f aX a5.2.1 a5.2.2).bind fun a8=>(tJ.j0 k aX a8.2.1 a8.2.2 a6.1 a8.1 (⟨#[]⟩:ByteArray) 0 0 (⟨#[]⟩:ByteArray))) else (tJ.j0 k aX a5.2.1 a5.2.2 a6.1 a7.1 (⟨#[]⟩:ByteArray) 0 0 (⟨#[]⟩:ByteArray)))))
theorem tJ.calls (k:Nat) (g:Nat) (aX:List Int) (dW:Int) (dX:Int) (r1:Int) (r2:ByteArray) (r3:ByteArray) (r4:Int) (r5:Int) (r6:ByteArray) (r7:Int) (r8:Int) (w0 w:World) (hI:aJ w0 w g aX dW dX) (hB:Below w0.heap.size w0 w) (h:tJ.f k aX dW dX=some (r1,r2,r3,r4,r5,r6,r7,r8)) :
  Calls Tryz.prog 131 #[.pointer (some ⟨g,0,none⟩)] w fun e w'=>e=.returned (.agg #[ah r1,.string r2,.string r3,ah r4,ah r5,.string r6])∧aJ w0 w' g aX r7 r8∧Below w0.heap.size w0 w'∧aQ w w' g none:=by
 have Hy:=underlying45
 have HI0:=m_ hI
 have HK:=m_ (aQ.refl w g none)
 have HL:=m_ hB.size
 clear hI
 have HW0:=m_ hB.size
 have HB:=m_ hB
 clear hB
 unfold tJ.f at h
 have H:=h
 clear h
 obtain ⟨fK,aw⟩:∃ y_:List Int,y_=(([1,1,1,2,2,3,4,5,5,6,7,7,7,7,7,8,8,9,10,11]:List Int)):=⟨_,rfl⟩
 rw [← aw] at H
 have dM:=m_ aw
 clear aw
 obtain ⟨⟨rZ,bo,bp⟩,A2,H⟩:=bd_ H
 try dsimp -simprocs only at H
 obtain ⟨⟨bb,az,b0⟩,A3,H⟩:=bd_ H
 try dsimp -simprocs only at H
 obtain ⟨⟨cf,bc,bd⟩,A4,H⟩:=bd_ H
 try dsimp -simprocs only at H
 have cz:=m_ H
 clear H
 go_enter func131,ntmps131
 go_upto_if 11 with (first|((with_reducible refine dG 2 ?_);refine dU 2 (cs:=#[ah 0,.string (⟨#[]⟩:ByteArray),.string (⟨#[]⟩:ByteArray),ah 0,ah 0,.string (⟨#[]⟩:ByteArray)]) 45 ?_;intro a6 hg w6 hbox hb;have eP:=p_ (aJ.below aZ hb) <| p_ (aQ.trans iI (aQ.of_below hb g none) (.inl rfl)) <| p_ (dI dA hb) <| p_ (hbox) <| p_ ((by rw [hg];exact (gY (w:=w) (g:=g) (row:=none) iI):w.heap.size≤a6)) <| p_ ((Nat.le_trans HW0.out (by rw [hg];exact (gY (w:=w) (g:=g) (row:=none) iI):w.heap.size≤a6):w0.heap.size≤a6)) <| p_ ((by rw [hg];exact Nat.ne_of_lt (aJ.lt (show aJ w0 _ g aX dW dX from aZ)):g≠a6)) <| a_ ((by rw [hg];exact Nat.ne_of_gt (aJ.lt (show aJ w0 _ g aX dW dX from aZ)):a6≠g));clear HI0 HK HB;obtain ⟨HI0,HK,HB,j_,Qs,adJ,Gf,a5⟩:=eP;clear hb hbox hg)|((with_reducible refine dG 5 ?_);refine Kd.qV (Kd.int .i64) _ 3 ?hg (N:=5) ?hd (xs:=([1,1,1,2,2,3,4,5,5,6,7,7,7,7,7,8,8,9,10,11]:List Int)) (inner:=[ah 1,ah 1,ah 1,ah 2,ah 2,ah 3,ah 4,ah 5,ah 5,ah 6,ah 7,ah 7,ah 7,ah 7,ah 7,ah 8,ah 8,ah 9,ah 10,ah 11]) (ok:=fun _=>True) (iT:=fun _=>True) ?hr ?hp (fun _ hk=>hk) trivial (Below.refl _ _) (Nat.le_refl _) (by simp) ?_;(case hd=>rfl);(case hg=>rfl);(case hr=>first|(go_simp;done)|(go_simp;rfl));(case hp=>exact (bM.one (show Kd.M (Kd.int .i64) _ _ _ 1 [ah 1] from rfl) (bM.one (show Kd.M (Kd.int .i64) _ _ _ 1 [ah 1] from rfl) (bM.one (show Kd.M (Kd.int .i64) _ _ _ 1 [ah 1] from rfl) (bM.one (show Kd.M (Kd.int .i64) _ _ _ 2 [ah 2] from rfl) (bM.one (show Kd.M (Kd.int .i64) _ _ _ 2 [ah 2] from rfl) (bM.one (show Kd.M (Kd.int .i64) _ _ _ 3 [ah 3] from rfl) (bM.one (show Kd.M (Kd.int .i64) _ _ _ 4 [ah 4] from rfl) (bM.one (show Kd.M (Kd.int .i64) _ _ _ 5 [ah 5] from rfl) (bM.one (show Kd.M (Kd.int .i64) _ _ _ 5 [ah 5] from rfl) (bM.one (show Kd.M (Kd.int .i64) _ _ _ 6 [ah 6] from rfl) (bM.one (show Kd.M (Kd.int .i64) _ _ _ 7 [ah 7] from rfl) (bM.one (show Kd.M (Kd.int .i64) _ _ _ 7 [ah 7] from rfl) (bM.one (show Kd.M (Kd.int .i64) _ _ _ 7 [ah 7] from rfl) (bM.one (show Kd.M (Kd.int .i64) _ _ _ 7 [ah 7] from rfl) (bM.one (show Kd.M (Kd.int .i64) _ _ _ 7 [ah 7] from rfl) (bM.one (show Kd.M (Kd.int .i64) _ _ _ 8 [ah 8] from rfl) (bM.one (show Kd.M (Kd.int .i64) _ _ _ 8 [ah 8] from rfl) (bM.one (show Kd.M (Kd.int .i64) _ _ _ 9 [ah 9] from rfl) (bM.one (show Kd.M (Kd.int .i64) _ _ _ 10 [ah 10] from rfl) (bM.one (show Kd.M (Kd.int .i64) _ _ _ 11 [ah 11] from rfl) (bM.none _ _))))))))))))))))))))));intro ajs w7 Ho hb jc jd;clear jc jd;(first|rw [← dM.out] at Ho|(simp only [Int.reduceToNat] at Ho;rw [← dM.out] at Ho));obtain ⟨a9,HI0,j_,HK,HB⟩:=p_ (Kd.dK Ho (gY (w:=w) (g:=g) (row:=none) D8)) <| p_ (aJ.below aZ hb) <| p_ (bG (aj j_) hb) <| p_ (aQ.trans D8 (aQ.of_below hb g none) (.inl rfl)) <| a_ (dI dA hb);clear hb Ho;obtain ⟨dp,dq,dr⟩:=Kd.dJ a9.out;subst dr)|((with_reducible refine bU 92 ?_);refine bV (some 6) rfl rfl func92 aB rfl #[.pointer (some ⟨g,0,none⟩),.slice dp fK.length dq] rfl aW ?_;(with_reducible refine (oM.calls g aX dW dX _ _ fK rZ bo bp w0 _ aZ dA ?mJ ((Kd.bZ a9.out).2.1) (wV (aJ.own_ne HI0.out a9.out (by decide))) A2.out).mono ?_);(case mJ=>repeat (first|exact (Kd.bZ a9.out).2.2|(with_reducible refine Kd.jJ ?_ _)|(with_reducible refine Kd.jL ?_ _)|(with_reducible refine Kd.jK ?_)));rintro e em ⟨rfl,hi,hb,hk⟩;refine ⟨_,rfl,?_⟩;obtain ⟨j_,a9,HK,HB,HI0⟩:=p_ (aQ.blk hk (g':=a6) (o:=.cells #[ah 0,.string (⟨#[]⟩:ByteArray),.string (⟨#[]⟩:ByteArray),ah 0,ah 0,.string (⟨#[]⟩:ByteArray)] 45) (aj j_) a5.out (by simp)) <| p_ (Kd.bW (Kd.lY (aJ.apart (show aJ w0 _ g aX dW dX from aZ) (aG a9) (by decide)) hk (fun _ h=>h.2)) (fun _ h=>h.1)) <| p_ (aQ.trans D8 hk (.inl rfl)) <| p_ (hb) <| a_ (hi);(try clear hb);(try clear hk);(try clear hi))|((with_reducible refine bU 44 ?_);refine bV (some 8) rfl rfl func44 aB rfl #[.pointer (some ⟨g,0,none⟩)] rfl aW ?_;(with_reducible refine (rY.calls g aX bo bp bb az b0 w0 _ aZ dA A3.out).mono ?_);rintro e en ⟨rfl,hi,hb,hk⟩;refine ⟨_,rfl,?_⟩;obtain ⟨j_,a9,HK,HB,HI0⟩:=p_ (aQ.blk hk (g':=a6) (o:=.cells #[ah 0,.string (⟨#[]⟩:ByteArray),.string (⟨#[]⟩:ByteArray),ah 0,ah 0,.string (⟨#[]⟩:ByteArray)] 45) (aj j_) a5.out (by simp)) <| p_ (Kd.bW (Kd.lY (aJ.apart (show aJ w0 _ g aX bo bp from aZ) (aG a9) (by decide)) hk (fun _ h=>h.2)) (fun _ h=>h.1)) <| p_ (aQ.trans D8 hk (.inl rfl)) <| p_ (hb) <| a_ (hi);(try clear hb);(try clear hk);(try clear hi))|((with_reducible refine dG 3 ?_);refine dU 3 (cs:=#[ah 0,.string (⟨#[]⟩:ByteArray),.string (⟨#[]⟩:ByteArray),ah 0,ah 0,.string (⟨#[]⟩:ByteArray)]) 45 ?_;intro aa hg eo hbox hb;have eP:=p_ (Kd.bn (aG a9) hb) <| p_ (aJ.below aZ hb) <| p_ (bG (aj j_) hb) <| p_ (aQ.trans D8 (aQ.of_below hb g none) (.inl rfl)) <| p_ (dI dA hb) <| p_ (hbox) <| p_ ((by rw [hg];exact (gY (w:=w) (g:=g) (row:=none) D8):w.heap.size≤aa)) <| p_ ((Nat.le_trans HW0.out (by rw [hg];exact (gY (w:=w) (g:=g) (row:=none) D8):w.heap.size≤aa):w0.heap.size≤aa)) <| p_ (kW hg (fO (aj j_))) <| p_ (kU hg (fO (aj j_))) <| p_ ((by rw [hg];exact Nat.ne_of_lt (aJ.lt (show aJ w0 _ g aX az b0 from aZ)):g≠aa)) <| a_ ((by rw [hg];exact Nat.ne_of_gt (aJ.lt (show aJ w0 _ g aX az b0 from aZ)):aa≠g));clear a9 HI0 j_ HK HB;obtain ⟨a9,HI0,j_,HK,HB,jY,XY,adK,L9,aN,QF,ab⟩:=eP;clear hb hbox hg;obtain ⟨b1,b2,bq,br⟩:=jE aN L9 ab QF;have cg:=jV jY.out)|((with_reducible refine bU 42 ?_);refine bV (some 11) rfl rfl func42 aB rfl #[.pointer (some ⟨g,0,none⟩),ah 12] rfl aW ?_;(with_reducible refine (wE.calls g aX az b0 12 cf bc bd w0 _ aZ dA A4.out).mono ?_);rintro e ep ⟨rfl,hi,hb,hk⟩;refine ⟨_,rfl,?_⟩;have eP:=p_ (aQ.blk hk (g':=a6) (o:=.cells #[ah 0,.string (⟨#[]⟩:ByteArray),.string (⟨#[]⟩:ByteArray),ah 0,ah 0,.string (⟨#[]⟩:ByteArray)] 45) (lM j_.out L9.out) a5.out (by simp)) <| p_ (Kd.bW (Kd.lY (aJ.apart (show aJ w0 _ g aX az b0 from aZ) (by (with_reducible repeat (first|apply Kd.dR|apply Kd.dS|apply Kd.bK));exact (Kd.bW (aU (aU (aU (aU (aU (aU (Kd.dL a9.out jY.out (by decide)))))))) (fun _ dV=>dV.1))) (by decide)) hk (fun _ h=>h.2)) (fun _ h=>h.1)) <| p_ (aQ.blk hk (g':=aa) (o:=.cells #[ah rZ,.string bb,.string (⟨#[]⟩:ByteArray),ah 0,ah 0,.string (⟨#[]⟩:ByteArray)] 45) (wB jY.out) ab.out (by simp)) <| p_ (aQ.trans pG hk (.inl rfl)) <| p_ (hb) <| a_ (hi);clear j_ a9 jY HK HB HI0;obtain ⟨j_,a9,jY,HK,HB,HI0⟩:=eP;(try clear hb);(try clear hk);(try clear hi)))
 (try simp only [Act.put,List.setIfInBounds_toArray,List.set_cons_zero,List.set_cons_succ])
 go_cut [] (fun wc=>∃ (kq:Nat) (a7:Int) (a8:Int) (uq:ByteArray),aA (tJ.j0 kq aX a7 a8 rZ uq (⟨#[]⟩:ByteArray) 0 0 (⟨#[]⟩:ByteArray)=some (r1,r2,r3,r4,r5,r6,r7,r8))∧aA (kq≤k)∧aA (wc.heap[a6]?=some (.cells #[ah 0,.string (⟨#[]⟩:ByteArray),.string (⟨#[]⟩:ByteArray),ah 0,ah 0,.string (⟨#[]⟩:ByteArray)] 45))∧aA (wc.heap[aa]?=some (.cells #[ah rZ,.string uq,.string (⟨#[]⟩:ByteArray),ah 0,ah 0,.string (⟨#[]⟩:ByteArray)] 45))∧aA (aJ w0 wc g aX a7 a8)∧aA (aQ w wc g none)∧aA (Below w0.heap.size w0 wc))
 case first =>
  obtain ⟨H⟩:=cz
  by_cases ch:cf=true
  rotate_left
  ·replace ch:=Bool.eq_false_iff.mpr ch
   subst ch
   rw [if_neg iO] at H
   have H':=m_ H
   clear H
   go_wp2
   go_meet
   case rel=>exact ⟨_,(bc),(bd),(bb),H',⟨kH⟩,⟨(aj j_)⟩,⟨(aj jY)⟩,⟨aZ⟩,⟨pG⟩,⟨dA⟩⟩
  subst ch
  rw [if_pos rfl] at H
  obtain ⟨⟨ci,cj,ck⟩,dt,H⟩:=bd_ H
  try dsimp -simprocs only at H
  have H':=m_ H
  clear H
  go_wp2_with (first|((with_reducible refine bU 89 ?_);refine bV (some 13) rfl rfl func89 aB rfl #[.pointer (some ⟨g,0,none⟩)] rfl aW ?_;(with_reducible refine (Au.calls g aX bc bd ci cj ck w0 _ aZ dA dt.out).mono ?_);rintro e eq ⟨rfl,hi,hb,hk⟩;refine ⟨_,rfl,?_⟩;obtain ⟨j_,a9,jY,HK,HB,HI0⟩:=p_ (aQ.blk hk (g':=a6) (o:=.cells #[ah 0,.string (⟨#[]⟩:ByteArray),.string (⟨#[]⟩:ByteArray),ah 0,ah 0,.string (⟨#[]⟩:ByteArray)] 45) (aj j_) a5.out (by simp)) <| p_ (Kd.bW (Kd.lY (aJ.apart (show aJ w0 _ g aX bc bd from aZ) (aG a9) (by decide)) hk (fun _ h=>h.2)) (fun _ h=>h.1)) <| p_ (aQ.blk hk (g':=aa) (o:=.cells #[ah rZ,.string bb,.string (⟨#[]⟩:ByteArray),ah 0,ah 0,.string (⟨#[]⟩:ByteArray)] 45) (aj jY) ab.out (by simp)) <| p_ (aQ.trans pG hk (.inl rfl)) <| p_ (hb) <| a_ (hi);(try clear hb);(try clear hk);(try clear hi);obtain ⟨b1,b2,bq,br⟩:=jE aN L9 ab QF;have cl:=jV jY.out))
  go_meet
  case rel=>exact ⟨_,(cj),(ck),(ci),H',⟨kH⟩,⟨bH⟩,⟨bH⟩,⟨aZ⟩,⟨pG⟩,⟨dA⟩⟩
 case rest =>
 clear cz
 try clear cg
 obtain ⟨kq,a7,a8,uq,HA,En,j_,jY,HI0,HK,HB⟩:=hcut
 cases kq with
 | zero=>exact absurd HA.out (by simp [tJ.j0])
 | succ E_ =>
 obtain ⟨H⟩:=HA
 simp only [tJ.j0] at H
 revert H;refine fJ (fun bs H=>?_) fun bs H=>?_
 ·have cm:=gZ bs
  have cn:=g_ bs
  clear bs
  obtain ⟨⟨co,d0,d1⟩,du,H⟩:=bd_ H
  try dsimp -simprocs only at H
  simp only [Option.some.injEq,Prod.mk.injEq] at H
  obtain ⟨rfl,rfl,rfl,rfl,rfl,rfl,rfl,rfl⟩:=H
  have dv:=jV jY.out
  go_wp2_with (first|((with_reducible refine bU 44 ?_);refine bV (some 20) rfl rfl func44 aB rfl #[.pointer (some ⟨g,0,none⟩)] rfl aW ?_;(with_reducible refine (rY.calls g aX a7 a8 co d0 d1 w0 _ aZ dA du.out).mono ?_);rintro e ev ⟨rfl,hi,hb,hk⟩;refine ⟨_,rfl,?_⟩;obtain ⟨j_,jY,HK,HB,HI0⟩:=p_ (aQ.blk hk (g':=a6) (o:=.cells #[ah 0,.string (⟨#[]⟩:ByteArray),.string (⟨#[]⟩:ByteArray),ah 0,ah 0,.string (⟨#[]⟩:ByteArray)] 45) (aj j_) a5.out (by simp)) <| p_ (aQ.blk hk (g':=aa) (o:=.cells #[ah rZ,.string uq,.string (⟨#[]⟩:ByteArray),ah 0,ah 0,.string (⟨#[]⟩:ByteArray)] 45) (aj jY) ab.out (by simp)) <| p_ (aQ.trans pG hk (.inl rfl)) <| p_ (hb) <| a_ (hi);(try clear hb);(try clear hk);(try clear hi);have lZ:=jV jY.out;obtain ⟨aT,al⟩:=iJ a5 Gf;have dx:=jV j_.out))
  refine bodyPost_ret (results_cell_row rfl _ _ a6 45 #[ah rZ,.string uq,.string co,ah 0,ah 0,.string (⟨#[]⟩:ByteArray)] (0,0) _ rfl bH underlying45 rfl aB) rfl ?_
  exact ⟨b_,aZ,dA,pG⟩
 have cm:=gU bs
 have cn:=gV bs
 revert H;refine fJ (fun bu H=>?_) fun bu H=>?_
 ·have cp:=gZ bu
  have cq:=g_ bu
  clear bu
  obtain ⟨bv,b3⟩:∃ y_:List Int,y_=(([0,1,5,32,100,200]:List Int)):=⟨_,rfl⟩
  rw [← b3] at H
  have bh:=m_ b3
  clear b3
  obtain ⟨⟨ap,aq,ar⟩,dy,H⟩:=bd_ H
  try dsimp -simprocs only at H
  obtain ⟨bw,b5⟩:∃ y_:List Int,y_=(([0,1,10,40,128,1000]:List Int)):=⟨_,rfl⟩
  rw [← b5] at H
  have bi:=m_ b5
  clear b5
  obtain ⟨⟨cr,d2,d3⟩,dz,H⟩:=bd_ H
  try dsimp -simprocs only at H
  simp only [Option.some.injEq,Prod.mk.injEq] at H
  obtain ⟨rfl,rfl,rfl,rfl,rfl,rfl,rfl,rfl⟩:=H
  have e0:=jV jY.out
  go_wp2_with (first|((with_reducible refine dG 25 ?_);refine Kd.qV (Kd.int .i64) _ 3 ?hg (N:=25) ?hd (xs:=([0,1,5,32,100,200]:List Int)) (inner:=[ah 0,ah 1,ah 5,ah 32,ah 100,ah 200]) (ok:=fun _=>True) (iT:=fun _=>True) ?hr ?hp (fun _ hk=>hk) trivial (Below.refl _ _) (Nat.le_refl _) (by simp) ?_;(case hd=>rfl);(case hg=>rfl);(case hr=>first|(go_simp;done)|(go_simp;rfl));(case hp=>exact (bM.one (show Kd.M (Kd.int .i64) _ _ _ 0 [ah 0] from rfl) (bM.one (show Kd.M (Kd.int .i64) _ _ _ 1 [ah 1] from rfl) (bM.one (show Kd.M (Kd.int .i64) _ _ _ 5 [ah 5] from rfl) (bM.one (show Kd.M (Kd.int .i64) _ _ _ 32 [ah 32] from rfl) (bM.one (show Kd.M (Kd.int .i64) _ _ _ 100 [ah 100] from rfl) (bM.one (show Kd.M (Kd.int .i64) _ _ _ 200 [ah 200] from rfl) (bM.none _ _))))))));intro ajt ew G8 hb jc jd;clear jc jd;(first|rw [← bh.out] at G8|(simp only [Int.reduceToNat] at G8;rw [← bh.out] at G8));obtain ⟨y9,j_,jY,HI0,HK,HB⟩:=p_ (Kd.dK G8 (gY (w:=w) (g:=g) (row:=none) pG)) <| p_ (bG (aj j_) hb) <| p_ (bG (aj jY) hb) <| p_ (aJ.below aZ hb) <| p_ (aQ.trans pG (aQ.of_below hb g none) (.inl rfl)) <| a_ (dI dA hb);clear hb G8;obtain ⟨d4,d5,d6⟩:=Kd.dJ y9.out;subst d6)|((with_reducible refine bU 92 ?_);refine bV (some 26) rfl rfl func92 aB rfl #[.pointer (some ⟨g,0,none⟩),.slice d4 bv.length d5] rfl aW ?_;(with_reducible refine (oM.calls g aX a7 a8 _ _ bv ap aq ar w0 _ aZ dA ?mJ ((Kd.bZ y9.out).2.1) (wV (aJ.own_ne HI0.out y9.out (by decide))) dy.out).mono ?_);(case mJ=>repeat (first|exact (Kd.bZ y9.out).2.2|(with_reducible refine Kd.jJ ?_ _)|(with_reducible refine Kd.jL ?_ _)|(with_reducible refine Kd.jK ?_)));rintro e e3 ⟨rfl,hi,hb,hk⟩;refine ⟨_,rfl,?_⟩;obtain ⟨j_,jY,y9,HK,HB,HI0⟩:=p_ (aQ.blk hk (g':=a6) (o:=.cells #[ah 0,.string (⟨#[]⟩:ByteArray),.string (⟨#[]⟩:ByteArray),ah 0,ah 0,.string (⟨#[]⟩:ByteArray)] 45) (aj j_) a5.out (by simp)) <| p_ (aQ.blk hk (g':=aa) (o:=.cells #[ah rZ,.string uq,.string (⟨#[]⟩:ByteArray),ah 0,ah 0,.string (⟨#[]⟩:ByteArray)] 45) (aj jY) ab.out (by simp)) <| p_ (Kd.bW (Kd.lY (aJ.apart (show aJ w0 _ g aX a7 a8 from aZ) (aG y9) (by decide)) hk (fun _ h=>h.2)) (fun _ h=>h.1)) <| p_ (aQ.trans pG hk (.inl rfl)) <| p_ (hb) <| a_ (hi);(try clear hb);(try clear hk);(try clear hi);have e4:=jV jY.out)|((with_reducible refine dG 29 ?_);refine Kd.qV (Kd.int .i64) _ 3 ?hg (N:=29) ?hd (xs:=([0,1,10,40,128,1000]:List Int)) (inner:=[ah 0,ah 1,ah 10,ah 40,ah 128,ah 1000]) (ok:=fun _=>True) (iT:=fun _=>True) ?hr ?hp (fun _ hk=>hk) trivial (Below.refl _ _) (Nat.le_refl _) (by simp) ?_;(case hd=>rfl);(case hg=>rfl);(case hr=>first|(go_simp;done)|(go_simp;rfl));(case hp=>exact (bM.one (show Kd.M (Kd.int .i64) _ _ _ 0 [ah 0] from rfl) (bM.one (show Kd.M (Kd.int .i64) _ _ _ 1 [ah 1] from rfl) (bM.one (show Kd.M (Kd.int .i64) _ _ _ 10 [ah 10] from rfl) (bM.one (show Kd.M (Kd.int .i64) _ _ _ 40 [ah 40] from rfl) (bM.one (show Kd.M (Kd.int .i64) _ _ _ 128 [ah 128] from rfl) (bM.one (show Kd.M (Kd.int .i64) _ _ _ 1000 [ah 1000] from rfl) (bM.none _ _))))))));intro aju ex EX hb jc jd;clear jc jd;(first|rw [← bi.out] at EX|(simp only [Int.reduceToNat] at EX;rw [← bi.out] at EX));obtain ⟨y9,af,j_,jY,HI0,HK,HB⟩:=p_ (Kd.iY Xd (Kd.iW EX) hb) <| p_ (Kd.dK (Kd.iZ EX (Kd.iD Xd)) (gY (w:=w) (g:=g) (row:=none) pG)) <| p_ (bG (g:=a6) (o:=.cells #[ah 0,.string (⟨#[]⟩:ByteArray),.string (⟨#[]⟩:ByteArray),ah 0,ah 0,.string (⟨#[]⟩:ByteArray)] 45) bH hb) <| p_ (bG (g:=aa) (o:=.cells #[ah rZ,.string uq,.string (⟨#[]⟩:ByteArray),ah ap,ah 0,.string (⟨#[]⟩:ByteArray)] 45) WJ hb) <| p_ (aJ.below (show aJ w0 (e3.setCell ⟨aa,3,none⟩ (ah ap)) g aX aq ar from aZ) hb) <| p_ (aQ.trans pG (aQ.of_below hb g none) (.inl rfl)) <| a_ (dI dA hb);clear hb EX;obtain ⟨d7,d8,d9⟩:=Kd.dJ af.out;subst d9)|((with_reducible refine bU 92 ?_);refine bV (some 30) rfl rfl func92 aB rfl #[.pointer (some ⟨g,0,none⟩),.slice d7 bw.length d8] rfl aW ?_;(with_reducible refine (oM.calls g aX aq ar _ _ bw cr d2 d3 w0 _ aZ dA ?mJ ((Kd.bZ af.out).2.1) (wV (aJ.own_ne HI0.out af.out (by decide))) dz.out).mono ?_);(case mJ=>repeat (first|exact (Kd.bZ af.out).2.2|(with_reducible refine Kd.jJ ?_ _)|(with_reducible refine Kd.jL ?_ _)|(with_reducible refine Kd.jK ?_)));rintro e ey ⟨rfl,hi,hb,hk⟩;refine ⟨_,rfl,?_⟩;obtain ⟨j_,jY,y9,af,HK,HB,HI0⟩:=p_ (aQ.blk hk (g':=a6) (o:=.cells #[ah 0,.string (⟨#[]⟩:ByteArray),.string (⟨#[]⟩:ByteArray),ah 0,ah 0,.string (⟨#[]⟩:ByteArray)] 45) (aj j_) a5.out (by simp)) <| p_ (aQ.blk hk (g':=aa) (o:=.cells #[ah rZ,.string uq,.string (⟨#[]⟩:ByteArray),ah ap,ah 0,.string (⟨#[]⟩:ByteArray)] 45) (aj jY) ab.out (by simp)) <| p_ (Kd.bW (Kd.lY (aJ.apart (show aJ w0 _ g aX aq ar from aZ) (aG y9) (by decide)) hk (fun _ h=>h.2)) (fun _ h=>h.1)) <| p_ (Kd.bW (Kd.lY (aJ.apart (show aJ w0 _ g aX aq ar from aZ) (aG af) (by decide)) hk (fun _ h=>h.2)) (fun _ h=>h.1)) <| p_ (aQ.trans pG hk (.inl rfl)) <| p_ (hb) <| a_ (hi);(try clear hb);(try clear hk);(try clear hi);have e5:=jV jY.out;obtain ⟨aT,al⟩:=iJ a5 Gf;have e6:=jV j_.out))
  refine bodyPost_ret (results_cell_row rfl _ _ a6 45 #[ah rZ,.string uq,.string (⟨#[]⟩:ByteArray),ah ap,ah cr,.string (⟨#[]⟩:ByteArray)] (0,0) _ rfl bH underlying45 rfl aB) rfl ?_
  exact ⟨b_,aZ,dA,pG⟩
 have cp:=gU bu
 have cq:=gV bu
 revert H;refine fJ (fun bx H=>?_) fun bx H=>?_
 rotate_left
 ·have ct:=gU bx
  have jg:=gV bx
  revert H;refine fJ (fun bz H=>?_) fun bz H=>?_
  rotate_left
  ·have cv:=gU bz
   have cw:=gV bz
   simp only [Option.some.injEq,Prod.mk.injEq] at H
   obtain ⟨rfl,rfl,rfl,rfl,rfl,rfl,rfl,rfl⟩:=H
   have e7:=jV jY.out
   obtain ⟨aT,al⟩:=iJ a5 Gf
   have e8:=jV j_.out
   go_wp2
   refine bodyPost_ret (results_cell_row rfl _ _ a6 45 #[ah rZ,.string uq,.string (⟨#[]⟩:ByteArray),ah 0,ah 0,.string (⟨#[]⟩:ByteArray)] (0,0) _ rfl bH underlying45 rfl aB) rfl ?_
   exact ⟨b_,aZ,dA,pG⟩
  have cv:=gZ bz
  have cw:=g_ bz
  clear bz
  obtain ⟨ca,b6⟩:∃ y_:List Int,y_=(([0,1,5,31,32,33,64,70,128,129]:List Int)):=⟨_,rfl⟩
  rw [← b6] at H
  have bj:=m_ b6
  clear b6
  obtain ⟨⟨cx,da,db⟩,e9,H⟩:=bd_ H
  try dsimp -simprocs only at H
  simp only [Option.some.injEq,Prod.mk.injEq] at H
  obtain ⟨rfl,rfl,rfl,rfl,rfl,rfl,rfl,rfl⟩:=H
  have ea:=jV jY.out
  go_wp2_with (first|((with_reducible refine dG 47 ?_);refine Kd.qV (Kd.int .i64) _ 3 ?hg (N:=47) ?hd (xs:=([0,1,5,31,32,33,64,70,128,129]:List Int)) (inner:=[ah 0,ah 1,ah 5,ah 31,ah 32,ah 33,ah 64,ah 70,ah 128,ah 129]) (ok:=fun _=>True) (iT:=fun _=>True) ?hr ?hp (fun _ hk=>hk) trivial (Below.refl _ _) (Nat.le_refl _) (by simp) ?_;(case hd=>rfl);(case hg=>rfl);(case hr=>first|(go_simp;done)|(go_simp;rfl));(case hp=>exact (bM.one (show Kd.M (Kd.int .i64) _ _ _ 0 [ah 0] from rfl) (bM.one (show Kd.M (Kd.int .i64) _ _ _ 1 [ah 1] from rfl) (bM.one (show Kd.M (Kd.int .i64) _ _ _ 5 [ah 5] from rfl) (bM.one (show Kd.M (Kd.int .i64) _ _ _ 31 [ah 31] from rfl) (bM.one (show Kd.M (Kd.int .i64) _ _ _ 32 [ah 32] from rfl) (bM.one (show Kd.M (Kd.int .i64) _ _ _ 33 [ah 33] from rfl) (bM.one (show Kd.M (Kd.int .i64) _ _ _ 64 [ah 64] from rfl) (bM.one (show Kd.M (Kd.int .i64) _ _ _ 70 [ah 70] from rfl) (bM.one (show Kd.M (Kd.int .i64) _ _ _ 128 [ah 128] from rfl) (bM.one (show Kd.M (Kd.int .i64) _ _ _ 129 [ah 129] from rfl) (bM.none _ _))))))))))));intro ajx ez Hl hb jc jd;clear jc jd;(first|rw [← bj.out] at Hl|(simp only [Int.reduceToNat] at Hl;rw [← bj.out] at Hl));obtain ⟨ag,j_,jY,HI0,HK,HB⟩:=p_ (Kd.dK Hl (gY (w:=w) (g:=g) (row:=none) pG)) <| p_ (bG (aj j_) hb) <| p_ (bG (aj jY) hb) <| p_ (aJ.below aZ hb) <| p_ (aQ.trans pG (aQ.of_below hb g none) (.inl rfl)) <| a_ (dI dA hb);clear hb Hl;obtain ⟨dd,de,df⟩:=Kd.dJ ag.out;subst df)|((with_reducible refine bU 92 ?_);refine bV (some 48) rfl rfl func92 aB rfl #[.pointer (some ⟨g,0,none⟩),.slice dd ca.length de] rfl aW ?_;(with_reducible refine (oM.calls g aX a7 a8 _ _ ca cx da db w0 _ aZ dA ?mJ ((Kd.bZ ag.out).2.1) (wV (aJ.own_ne HI0.out ag.out (by decide))) e9.out).mono ?_);(case mJ=>repeat (first|exact (Kd.bZ ag.out).2.2|(with_reducible refine Kd.jJ ?_ _)|(with_reducible refine Kd.jL ?_ _)|(with_reducible refine Kd.jK ?_)));rintro e f4 ⟨rfl,hi,hb,hk⟩;refine ⟨_,rfl,?_⟩;obtain ⟨j_,jY,ag,HK,HB,HI0⟩:=p_ (aQ.blk hk (g':=a6) (o:=.cells #[ah 0,.string (⟨#[]⟩:ByteArray),.string (⟨#[]⟩:ByteArray),ah 0,ah 0,.string (⟨#[]⟩:ByteArray)] 45) (aj j_) a5.out (by simp)) <| p_ (aQ.blk hk (g':=aa) (o:=.cells #[ah rZ,.string uq,.string (⟨#[]⟩:ByteArray),ah 0,ah 0,.string (⟨#[]⟩:ByteArray)] 45) (aj jY) ab.out (by simp)) <| p_ (Kd.bW (Kd.lY (aJ.apart (show aJ w0 _ g aX a7 a8 from aZ) (aG ag) (by decide)) hk (fun _ h=>h.2)) (fun _ h=>h.1)) <| p_ (aQ.trans pG hk (.inl rfl)) <| p_ (hb) <| a_ (hi);(try clear hb);(try clear hk);(try clear hi);have eb:=jV jY.out;obtain ⟨aT,al⟩:=iJ a5 Gf;have ec:=jV j_.out))
  refine bodyPost_ret (results_cell_row rfl _ _ a6 45 #[ah rZ,.string uq,.string (⟨#[]⟩:ByteArray),ah 0,ah cx,.string (⟨#[]⟩:ByteArray)] (0,0) _ rfl bH underlying45 rfl aB) rfl ?_
  exact ⟨b_,aZ,dA,pG⟩
 have ct:=gZ bx
 have jg:=g_ bx
 clear bx
 obtain ⟨cc,b8⟩:∃ y_:List Int,y_=(([0,0,0,1,5,30,32,33,64,100]:List Int)):=⟨_,rfl⟩
 rw [← b8] at H
 have bl:=m_ b8
 clear b8
 obtain ⟨⟨an,bP,av⟩,ed,H⟩:=bd_ H
 try dsimp -simprocs only at H
 obtain ⟨cd,ba⟩:∃ y_:List Int,y_=(([0,1,2,5,20,32,40]:List Int)):=⟨_,rfl⟩
 rw [← ba] at H
 have bm:=m_ ba
 clear ba
 obtain ⟨⟨ce,be,fF⟩,ee,H⟩:=bd_ H
 try dsimp -simprocs only at H
 obtain ⟨⟨cy,dg,lg⟩,ef,H⟩:=bd_ H
 try dsimp -simprocs only at H
 simp only [Option.some.injEq,Prod.mk.injEq] at H
 obtain ⟨rfl,rfl,rfl,rfl,rfl,rfl,rfl,rfl⟩:=H
 have eh:=jV jY.out
 go_wp2_with (first|((with_reducible refine dG 35 ?_);refine Kd.qV (Kd.int .i64) _ 3 ?hg (N:=35) ?hd (xs:=([0,0,0,1,5,30,32,33,64,100]:List Int)) (inner:=[ah 0,ah 0,ah 0,ah 1,ah 5,ah 30,ah 32,ah 33,ah 64,ah 100]) (ok:=fun _=>True) (iT:=fun _=>True) ?hr ?hp (fun _ hk=>hk) trivial (Below.refl _ _) (Nat.le_refl _) (by simp) ?_;(case hd=>rfl);(case hg=>rfl);(case hr=>first|(go_simp;done)|(go_simp;rfl));(case hp=>exact (bM.one (show Kd.M (Kd.int .i64) _ _ _ 0 [ah 0] from rfl) (bM.one (show Kd.M (Kd.int .i64) _ _ _ 0 [ah 0] from rfl) (bM.one (show Kd.M (Kd.int .i64) _ _ _ 0 [ah 0] from rfl) (bM.one (show Kd.M (Kd.int .i64) _ _ _ 1 [ah 1] from rfl) (bM.one (show Kd.M (Kd.int .i64) _ _ _ 5 [ah 5] from rfl) (bM.one (show Kd.M (Kd.int .i64) _ _ _ 30 [ah 30] from rfl) (bM.one (show Kd.M (Kd.int .i64) _ _ _ 32 [ah 32] from rfl) (bM.one (show Kd.M (Kd.int .i64) _ _ _ 33 [ah 33] from rfl) (bM.one (show Kd.M (Kd.int .i64) _ _ _ 64 [ah 64] from rfl) (bM.one (show Kd.M (Kd.int .i64) _ _ _ 100 [ah 100] from rfl) (bM.none _ _))))))))))));intro ajv f5 Hg hb jc jd;clear jc jd;(first|rw [← bl.out] at Hg|(simp only [Int.reduceToNat] at Hg;rw [← bl.out] at Hg));obtain ⟨xG,j_,jY,HI0,HK,HB⟩:=p_ (Kd.dK Hg (gY (w:=w) (g:=g) (row:=none) pG)) <| p_ (bG (aj j_) hb) <| p_ (bG (aj jY) hb) <| p_ (aJ.below aZ hb) <| p_ (aQ.trans pG (aQ.of_below hb g none) (.inl rfl)) <| a_ (dI dA hb);clear hb Hg;obtain ⟨di,dj,dk⟩:=Kd.dJ xG.out;subst dk)|((with_reducible refine bU 92 ?_);refine bV (some 36) rfl rfl func92 aB rfl #[.pointer (some ⟨g,0,none⟩),.slice di cc.length dj] rfl aW ?_;(with_reducible refine (oM.calls g aX a7 a8 _ _ cc an bP av w0 _ aZ dA ?mJ ((Kd.bZ xG.out).2.1) (wV (aJ.own_ne HI0.out xG.out (by decide))) ed.out).mono ?_);(case mJ=>repeat (first|exact (Kd.bZ xG.out).2.2|(with_reducible refine Kd.jJ ?_ _)|(with_reducible refine Kd.jL ?_ _)|(with_reducible refine Kd.jK ?_)));rintro e ei ⟨rfl,hi,hb,hk⟩;refine ⟨_,rfl,?_⟩;obtain ⟨j_,jY,xG,HK,HB,HI0⟩:=p_ (aQ.blk hk (g':=a6) (o:=.cells #[ah 0,.string (⟨#[]⟩:ByteArray),.string (⟨#[]⟩:ByteArray),ah 0,ah 0,.string (⟨#[]⟩:ByteArray)] 45) (aj j_) a5.out (by simp)) <| p_ (aQ.blk hk (g':=aa) (o:=.cells #[ah rZ,.string uq,.string (⟨#[]⟩:ByteArray),ah 0,ah 0,.string (⟨#[]⟩:ByteArray)] 45) (aj jY) ab.out (by simp)) <| p_ (Kd.bW (Kd.lY (aJ.apart (show aJ w0 _ g aX a7 a8 from aZ) (aG xG) (by decide)) hk (fun _ h=>h.2)) (fun _ h=>h.1)) <| p_ (aQ.trans pG hk (.inl rfl)) <| p_ (hb) <| a_ (hi);(try clear hb);(try clear hk);(try clear hi);have ej:=jV jY.out)|((with_reducible refine dG 40 ?_);refine Kd.qV (Kd.int .i64) _ 3 ?hg (N:=40) ?hd (xs:=([0,1,2,5,20,32,40]:List Int)) (inner:=[ah 0,ah 1,ah 2,ah 5,ah 20,ah 32,ah 40]) (ok:=fun _=>True) (iT:=fun _=>True) ?hr ?hp (fun _ hk=>hk) trivial (Below.refl _ _) (Nat.le_refl _) (by simp) ?_;(case hd=>rfl);(case hg=>rfl);(case hr=>first|(go_simp;done)|(go_simp;rfl));(case hp=>exact (bM.one (show Kd.M (Kd.int .i64) _ _ _ 0 [ah 0] from rfl) (bM.one (show Kd.M (Kd.int .i64) _ _ _ 1 [ah 1] from rfl) (bM.one (show Kd.M (Kd.int .i64) _ _ _ 2 [ah 2] from rfl) (bM.one (show Kd.M (Kd.int .i64) _ _ _ 5 [ah 5] from rfl) (bM.one (show Kd.M (Kd.int .i64) _ _ _ 20 [ah 20] from rfl) (bM.one (show Kd.M (Kd.int .i64) _ _ _ 32 [ah 32] from rfl) (bM.one (show Kd.M (Kd.int .i64) _ _ _ 40 [ah 40] from rfl) (bM.none _ _)))))))));intro ajw f7 oK hb jc jd;clear jc jd;(first|rw [← bm.out] at oK|(simp only [Int.reduceToNat] at oK;rw [← bm.out] at oK));obtain ⟨xG,ac,j_,jY,HI0,HK,HB⟩:=p_ (Kd.iY Xc (Kd.iW oK) hb) <| p_ (Kd.dK (Kd.iZ oK (Kd.iD Xc)) (gY (w:=w) (g:=g) (row:=none) pG)) <| p_ (bG (g:=a6) (o:=.cells #[ah 0,.string (⟨#[]⟩:ByteArray),.string (⟨#[]⟩:ByteArray),ah 0,ah 0,.string (⟨#[]⟩:ByteArray)] 45) bH hb) <| p_ (bG (g:=aa) (o:=.cells #[ah rZ,.string uq,.string (⟨#[]⟩:ByteArray),ah an,ah 0,.string (⟨#[]⟩:ByteArray)] 45) WJ hb) <| p_ (aJ.below (show aJ w0 (ei.setCell ⟨aa,3,none⟩ (ah an)) g aX bP av from aZ) hb) <| p_ (aQ.trans pG (aQ.of_below hb g none) (.inl rfl)) <| a_ (dI dA hb);clear hb oK;obtain ⟨dl,dm,kM⟩:=Kd.dJ ac.out;subst kM)|((with_reducible refine bU 92 ?_);refine bV (some 41) rfl rfl func92 aB rfl #[.pointer (some ⟨g,0,none⟩),.slice dl cd.length dm] rfl aW ?_;(with_reducible refine (oM.calls g aX bP av _ _ cd ce be fF w0 _ aZ dA ?mJ ((Kd.bZ ac.out).2.1) (wV (aJ.own_ne HI0.out ac.out (by decide))) ee.out).mono ?_);(case mJ=>repeat (first|exact (Kd.bZ ac.out).2.2|(with_reducible refine Kd.jJ ?_ _)|(with_reducible refine Kd.jL ?_ _)|(with_reducible refine Kd.jK ?_)));rintro e fa ⟨rfl,hi,hb,hk⟩;refine ⟨_,rfl,?_⟩;obtain ⟨j_,jY,xG,ac,HK,HB,HI0⟩:=p_ (aQ.blk hk (g':=a6) (o:=.cells #[ah 0,.string (⟨#[]⟩:ByteArray),.string (⟨#[]⟩:ByteArray),ah 0,ah 0,.string (⟨#[]⟩:ByteArray)] 45) (aj j_) a5.out (by simp)) <| p_ (aQ.blk hk (g':=aa) (o:=.cells #[ah rZ,.string uq,.string (⟨#[]⟩:ByteArray),ah an,ah 0,.string (⟨#[]⟩:ByteArray)] 45) (aj jY) ab.out (by simp)) <| p_ (Kd.bW (Kd.lY (aJ.apart (show aJ w0 _ g aX bP av from aZ) (aG xG) (by decide)) hk (fun _ h=>h.2)) (fun _ h=>h.1)) <| p_ (Kd.bW (Kd.lY (aJ.apart (show aJ w0 _ g aX bP av from aZ) (aG ac) (by decide)) hk (fun _ h=>h.2)) (fun _ h=>h.1)) <| p_ (aQ.trans pG hk (.inl rfl)) <| p_ (hb) <| a_ (hi);(try clear hb);(try clear hk);(try clear hi))|((with_reducible refine bU 147 ?_);refine bV (some 42) rfl rfl func147 aB rfl #[.pointer (some ⟨g,0,none⟩),ah ce] rfl aW ?_;(with_reducible refine (qR.calls E_ g aX be fF ce cy dg lg w0 _ aZ dA ef.out).mono ?_);rintro e fb ⟨rfl,hi,hb,hk⟩;refine ⟨_,rfl,?_⟩;obtain ⟨j_,jY,xG,ac,HK,HB,HI0⟩:=p_ (aQ.blk hk (g':=a6) (o:=.cells #[ah 0,.string (⟨#[]⟩:ByteArray),.string (⟨#[]⟩:ByteArray),ah 0,ah 0,.string (⟨#[]⟩:ByteArray)] 45) (aj j_) a5.out (by simp)) <| p_ (aQ.blk hk (g':=aa) (o:=.cells #[ah rZ,.string uq,.string (⟨#[]⟩:ByteArray),ah an,ah 0,.string (⟨#[]⟩:ByteArray)] 45) (aj jY) ab.out (by simp)) <| p_ (Kd.bW (Kd.lY (aJ.apart (show aJ w0 _ g aX be fF from aZ) (aG xG) (by decide)) hk (fun _ h=>h.2)) (fun _ h=>h.1)) <| p_ (Kd.bW (Kd.lY (aJ.apart (show aJ w0 _ g aX be fF from aZ) (aG ac) (by decide)) hk (fun _ h=>h.2)) (fun _ h=>h.1)) <| p_ (aQ.trans pG hk (.inl rfl)) <| p_ (hb) <| a_ (hi);(try clear hb);(try clear hk);(try clear hi);have ek:=jV jY.out;obtain ⟨aT,al⟩:=iJ a5 Gf;have el:=jV j_.out))
 refine bodyPost_ret (results_cell_row rfl _ _ a6 45 #[ah rZ,.string uq,.string (⟨#[]⟩:ByteArray),ah an,ah 0,.string cy] (0,0) _ rfl bH underlying45 rfl aB) rfl ?_
 exact ⟨b_,aZ,dA,pG⟩

def qp.l0:Nat→Int→List Int→Int→Int→Int→Int→Int→Int→List (aC)→Option ((List (aC)) × Int × Int)
 | 0,_,_,_,_,_,_,_,_,_=>none
 | k+1,x6,ac,ae,af,a7,a8,a9,aa,ab=>(nG.f ac ae af 12).bind fun a6=>(if x6 < a6.1 then ((tJ.f k ac a6.2.1 a6.2.2).bind fun a5=>((nO.f k a7 a8 a9 aa ab a5.1 a5.2.1 a5.2.2.1 a5.2.2.2.1 a5.2.2.2.2.1 a5.2.2.2.2.2.1).bind fun ag=>(qp.l0 k (wrap64 (x6+1)) ac a5.2.2.2.2.2.2.1 a5.2.2.2.2.2.2.2 a7 a8 a9 aa ag.1))) else (some (ab,a6.2.1,a6.2.2)))
def qp.f (k:Nat) (aX:List Int) (dW:Int) (dX:Int) (a5:Int) (a6:Int) (a7:Int) (a8:Int):Option ((List (aC)) × Int × Int):=qp.l0 k 0 aX dW dX a5 a6 a7 a8 ([]:List (aC))
def qp.T5:Bool × List (List Nat × List Nat):=(true,[([],[]),([],[]),([],[]),([2],[2]),([0,1,3,3],[0,1,3]),([4],[4]),([5],[5]),([5],[5]),([6,4,0,1,2,3,4,5,6],[6])])
def qp.B5:List Nat:=[0,0,0,4,15,31,63,63,127]
theorem qp.calls (k:Nat) (g:Nat) (aX:List Int) (dW:Int) (dX:Int) (fH:Int) (fG:Int) (fE:Int) (ai:Int) (r1:List (aC)) (r2:Int) (r3:Int) (w0 w:World) (hI:aJ w0 w g aX dW dX) (hB:Below w0.heap.size w0 w) (h:qp.f k aX dW dX fH fG fE ai=some (r1,r2,r3)) :
  Calls Tryz.prog 88 #[.pointer (some ⟨g,0,none⟩),.agg #[ah fH,ah fG,ah fE,ah ai]] w fun e w'=>∃ gQ:Value,e=.returned (.agg #[gQ])∧Kd.R bF 43 w' w.heap.size (fun _=>True) gQ r1∧aJ w0 w' g aX r2 r3∧Below w0.heap.size w0 w'∧aQ w w' g none:=by
 have w_:=underlying25
 have oq:=underlying28
 have HI0:=m_ hI
 have HK:=m_ (aQ.refl w g none)
 have HL:=m_ hB.size
 clear hI
 have HW0:=m_ hB.size
 have HB:=m_ hB
 clear hB
 unfold qp.f at h
 have H:=h
 clear h
 have H':=m_ H
 clear H
 go_enter func88,ntmps88
 go_wp2_with (first|((with_reducible refine dG 3 ?_);refine dU 3 (cs:=#[ah fH,ah fG,ah fE,ah ai]) 25 ?_;intro aa hg w3 hbox hb;have eP:=p_ (aJ.below aZ hb) <| p_ (aQ.trans iI (aQ.of_below hb g none) (.inl rfl)) <| p_ (dI dA hb) <| p_ (hbox) <| p_ ((by rw [hg];exact (gY (w:=w) (g:=g) (row:=none) iI):w.heap.size≤aa)) <| p_ ((Nat.le_trans HW0.out (by rw [hg];exact (gY (w:=w) (g:=g) (row:=none) iI):w.heap.size≤aa):w0.heap.size≤aa)) <| p_ ((by rw [hg];exact Nat.ne_of_lt (aJ.lt (show aJ w0 _ g aX dW dX from aZ)):g≠aa)) <| a_ ((by rw [hg];exact Nat.ne_of_gt (aJ.lt (show aJ w0 _ g aX dW dX from aZ)):aa≠g));clear HI0 HK HB;obtain ⟨HI0,HK,HB,a6,Ls,Qq,ad3,an⟩:=eP;clear hb hbox hg)|((with_reducible refine dG 4 ?_);refine dU 4 (cs:=#[.slice none 0 0]) 28 ?_;intro af hg w4 hbox hb;have eP:=p_ (aJ.below aZ hb) <| p_ (bG (aj a6) hb) <| p_ (aQ.trans PG (aQ.of_below hb g none) (.inl rfl)) <| p_ (dI (by repeat (first|(with_reducible first|exact HB.out|apply ny|apply qm|apply k_|refine iL ?_ (aJ.ge HI0.out)|refine iL ?_ Qq.out)|exact HB.out)) hb) <| p_ (hbox) <| p_ ((by rw [hg];exact (gY (w:=w) (g:=g) (row:=none) PG):w.heap.size≤af)) <| p_ ((Nat.le_trans HW0.out (by rw [hg];exact (gY (w:=w) (g:=g) (row:=none) PG):w.heap.size≤af):w0.heap.size≤af)) <| p_ (kW hg (fO (aj a6))) <| p_ (kU hg (fO (aj a6))) <| p_ ((by rw [hg];exact Nat.ne_of_lt (aJ.lt (show aJ w0 _ g aX dW dX from aZ)):g≠af)) <| a_ ((by rw [hg];exact Nat.ne_of_gt (aJ.lt (show aJ w0 _ g aX dW dX from aZ)):af≠g));clear HI0 a6 HK HB;obtain ⟨HI0,a6,HK,HB,a8,Qu,XT,ao,ap,Yb,aP⟩:=eP;clear hb hbox hg)|((with_reducible refine dG 5 ?_);refine dU 5 (cs:=#[.slice none 0 0]) 28 ?_;intro ae hg w5 hbox hb;have eP:=p_ (aJ.below aZ hb) <| p_ (bG (aj a6) hb) <| p_ (bG (aj a8) hb) <| p_ (aQ.trans PD (aQ.of_below hb g none) (.inl rfl)) <| p_ (dI (by repeat (first|(with_reducible first|exact HB.out|apply ny|apply qm|apply k_|refine iL ?_ (aJ.ge HI0.out)|refine iL ?_ Qq.out|refine iL ?_ XT.out)|exact HB.out)) hb) <| p_ (hbox) <| p_ ((by rw [hg];exact (gY (w:=w) (g:=g) (row:=none) PD):w.heap.size≤ae)) <| p_ ((Nat.le_trans HW0.out (by rw [hg];exact (gY (w:=w) (g:=g) (row:=none) PD):w.heap.size≤ae):w0.heap.size≤ae)) <| p_ (kW hg (fO (aj a6))) <| p_ (kU hg (fO (aj a6))) <| p_ (kW hg (fO (aj a8))) <| p_ (kU hg (fO (aj a8))) <| p_ ((by rw [hg];exact Nat.ne_of_lt (aJ.lt (show aJ w0 _ g aX dW dX from aZ)):g≠ae)) <| a_ ((by rw [hg];exact Nat.ne_of_gt (aJ.lt (show aJ w0 _ g aX dW dX from aZ)):ae≠g));clear HI0 a6 a8 HK HB;obtain ⟨HI0,a6,a8,HK,HB,a7,XZ,adL,aN,aT,al,am,QG,ag⟩:=eP;clear hb hbox hg;obtain ⟨aq,ar,bP,av,b0,b1⟩:=kL aT aN am al ag QG;have Ee:=cu a7.out))
 go_loopg [6] k (fun kq v6 w'=>∃ (aw:Int) (ab:Int) (ac:Int) (a9:List (aC)) (D9:Value),v6=ah aw∧aA (qp.l0 kq aw aX ab ac fH fG fE ai a9=some (r1,r2,r3))∧aA (kq≤k)∧aA (Kd.R bF 43 w' w.heap.size (fun _=>True) D9 a9)∧aA (w'.heap[aa]?=some (.cells #[ah fH,ah fG,ah fE,ah ai] 25))∧aA (w'.heap[af]?=some (.cells #[(.slice none 0 0)] 28))∧aA (w'.heap[ae]?=some (.cells #[D9] 28))∧aA (aJ w0 w' g aX ab ac)∧aA (aQ w w' g none)∧aA (Below w0.heap.size w0 w'))
 case atStart=>exact ⟨(0),(dW),(dX),(([]:List (aC))),(.slice none 0 0),bg,H',⟨Nat.le_refl _⟩,⟨tN⟩,⟨bH⟩,⟨bH⟩,⟨bH⟩,⟨aZ⟩,⟨AB⟩,⟨dA⟩⟩
 case round =>
 clear H'
 try clear Ee
 obtain ⟨aw,ab,ac,a9,D9,rfl,HA,iq,a5,a6,a8,a7,HI0,HK,HB⟩:=hrel
 cases gk with
 | zero=>exact absurd HA.out (by simp [qp.l0])
 | succ k1 =>
 obtain ⟨H⟩:=HA
 simp only [qp.l0] at H
 obtain ⟨⟨b2,ax,dw⟩,bz,H⟩:=bd_ H
 try dsimp -simprocs only at H
 revert H;refine gI (fun bb H=>?_) fun bb H=>?_
 rotate_left
 ·simp only [Option.some.injEq,Prod.mk.injEq] at H
  obtain ⟨rfl,rfl,rfl⟩:=H
  go_wp2_with (first|((with_reducible refine bU 87 ?_);refine bV (some 10) rfl rfl func87 aB rfl #[.pointer (some ⟨g,0,none⟩),ah 12] rfl aW ?_;(with_reducible refine (nG.calls g aX ab ac 12 b2 ax dw w0 _ aZ dA bz.out).mono ?_);rintro e cg ⟨rfl,hi,hb,hk⟩;refine ⟨_,rfl,?_⟩;obtain ⟨a5,a6,a8,a7,HK,HB,HI0⟩:=p_ (Kd.bW (Kd.lY (aJ.apart (show aJ w0 _ g aX ab ac from aZ) (aG a5) (by decide)) hk (fun _ h=>h.2)) (fun _ h=>h.1)) <| p_ (aQ.blk hk (g':=aa) (o:=.cells #[ah fH,ah fG,ah fE,ah ai] 25) (aj a6) an.out (by simp)) <| p_ (aQ.blk hk (g':=af) (o:=.cells #[.slice none 0 0] 28) (aj a8) aP.out (by simp)) <| p_ (aQ.blk hk (g':=ae) (o:=.cells #[D9] 28) (aj a7) ag.out (by simp)) <| p_ (aQ.trans AB hk (.inl rfl)) <| p_ (hb) <| a_ (hi);(try clear hb);(try clear hk);(try clear hi);obtain ⟨aq,ar,bP,av,b0,b1⟩:=kL aT aN am al ag QG;have Qm:=cu a7.out;obtain ⟨bl,bm,fK⟩:=Kd.dJ a5.out;subst fK;obtain ⟨bc,bd,bo,bp⟩:=jE ap ao aP Yb;have Qo:=cu a8.out))
  refine bodyPost_ret (results_cell_row rfl _ _ af 28 #[.slice bl a9.length bm] (0,0) _ rfl bH underlying28 rfl aB) rfl ?_
  exact ⟨_,b_,(by (with_reducible repeat (first|apply Kd.dR|apply Kd.dS|apply Kd.bK));exact Kd.bW (aU (Kd.dL a5.out a8.out (by decide))) (fun _ hk=>trivial)),aZ,dA,AB⟩
 obtain ⟨⟨b3,b4,b5,b6,b7,b8,be,fF⟩,cc,H⟩:=bd_ H
 try dsimp -simprocs only at H
 obtain ⟨⟨b9,bq,br,bs,bu,bv⟩,cd,H⟩:=bd_ H
 try dsimp -simprocs only at H
 have H':=m_ H
 clear H
 try go_wp2_with (first|((with_reducible refine bU 87 ?_);refine bV (some 10) rfl rfl func87 aB rfl #[.pointer (some ⟨g,0,none⟩),ah 12] rfl aW ?_;(with_reducible refine (nG.calls g aX ab ac 12 b2 ax dw w0 _ aZ dA bz.out).mono ?_);rintro e ce ⟨rfl,hi,hb,hk⟩;refine ⟨_,rfl,?_⟩;obtain ⟨a5,a6,a8,a7,HK,HB,HI0⟩:=p_ (Kd.bW (Kd.lY (aJ.apart (show aJ w0 _ g aX ab ac from aZ) (aG a5) (by decide)) hk (fun _ h=>h.2)) (fun _ h=>h.1)) <| p_ (aQ.blk hk (g':=aa) (o:=.cells #[ah fH,ah fG,ah fE,ah ai] 25) (aj a6) an.out (by simp)) <| p_ (aQ.blk hk (g':=af) (o:=.cells #[.slice none 0 0] 28) (aj a8) aP.out (by simp)) <| p_ (aQ.blk hk (g':=ae) (o:=.cells #[D9] 28) (aj a7) ag.out (by simp)) <| p_ (aQ.trans AB hk (.inl rfl)) <| p_ (hb) <| a_ (hi);(try clear hb);(try clear hk);(try clear hi)))
 obtain ⟨a5,a6,a8,a7,HI0,HK,HB⟩:=p_ (Kd.bK a5.out) <| p_ (gW a6.out) <| p_ (gW a8.out) <| p_ (gW a7.out) <| p_ (aJ.drew HI0.out) <| p_ (uX HK.out) <| a_ (k_ HB.out)
 refine iH (n:=9) (S:=fun w'=>xB w' aa (ah fH) (ah fG) (ah fE) (ah ai) <| y7 w' ae (D9)) (ds:=[8]) Gq aB rfl rfl (nK a6.out ((aO a7.out 0).trans rfl)) (fun hH=>?_);refine jC (T:=qp.T5) (B:=qp.B5) aB aB (fun aS gJ=>?_)
 generalize ce.drew=ch at a5 a6 a8 a7 HI0 HK HB hH ⊢
 refine aI 2 ?_
 refine fV 0 hH ?_
 refine pJ 1 16 #[ak,ak,ak,F_,F_,F_,F_,F_,F_] aS gJ hH ?_
 refine gB (i:=3) (N:=some 18) #[ak,ak,ak,ak,F_,F_,F_,F_,F_] rfl rfl (jW aS.out aB) (by decide) (fun K hK=>?_)
 refine iR func131 aB rfl #[.pointer (some ⟨g,0,none⟩)] (by rfl) rfl rfl aW ?_
 with_reducible refine (tJ.calls k1 g aX ax dw b3 b4 b5 b6 b7 b8 be fF w0 _ aZ dA cc.out).mono ?_
 rintro e ci ⟨rfl,hi,hb,hk⟩
 refine ⟨_,rfl,?_⟩
 obtain ⟨a5,a6,a8,a7,HK,HB,HI0⟩:=p_ (Kd.bW (Kd.lY (aJ.apart (show aJ w0 _ g aX ax dw from aZ) (aG a5) (by decide)) hk (fun _ h=>h.2)) (fun _ h=>h.1)) <| p_ (aQ.blk hk (g':=aa) (o:=.cells #[ah fH,ah fG,ah fE,ah ai] 25) (aj a6) an.out (by simp)) <| p_ (aQ.blk hk (g':=af) (o:=.cells #[.slice none 0 0] 28) (aj a8) aP.out (by simp)) <| p_ (aQ.blk hk (g':=ae) (o:=.cells #[D9] 28) (aj a7) ag.out (by simp)) <| p_ (aQ.trans AB hk (.inl rfl)) <| p_ (hb) <| a_ (hi)
 (try clear hb)
 (try clear hk)
 (try clear hi)
 obtain ⟨dM,bh,bi⟩:=Kd.dJ a5.out
 (first|subst bi|(injection bi with dP fZ dQ;have f_:=dP.symm;have gq:=dQ.symm;clear dP fZ dQ;subst f_;subst gq))
 refine hK.out _ _ (nK a6.out ((aO a7.out 0).trans rfl)) (fun hH=>?_)
 clear hK K
 refine fD (some 18) ?_
 refine gB (i:=4) (N:=some 19) #[ak,ak,ak,ak,ak,F_,F_,F_,F_] rfl rfl (jW aS.out aB) (by decide) (fun K hK=>?_)
 refine iR func29 aB rfl #[.agg #[ah fH,ah fG,ah fE,ah ai],.agg #[.slice dM a9.length bh],.agg #[ah b3,.string b4,.string b5,ah b6,ah b7,.string b8]] (by rfl) rfl rfl aW ?_
 with_reducible refine (nO.calls k1 fH fG fE ai _ _ a9 b3 b4 b5 b6 b7 b8 b9 bq br bs bu bv _ ?kG ((Kd.bZ a5.out).2.1) cd.out).mono ?_
 (case kG=>repeat (first|exact (Kd.bZ a5.out).2.2|(with_reducible refine Kd.jJ ?_ _)|(with_reducible refine Kd.jL ?_ _)|(with_reducible refine Kd.jK ?_)))
 rintro e cf ⟨ajy,ajz,rfl,ho0,ho1,hb⟩
 refine ⟨_,rfl,?_⟩
 obtain ⟨a5,az,ca,a6,a8,a7,HI0,HK,HB⟩:=p_ (Kd.iY (aG a5) (Kd.iW ho0) hb) <| p_ (Kd.dK (Kd.iZ ho0 (Kd.iD (aG a5))) (gY (w:=w) (g:=g) (row:=none) AB)) <| p_ (Kd.dK ho1 (gY (w:=w) (g:=g) (row:=none) AB)) <| p_ (bG (aj a6) hb) <| p_ (bG (aj a8) hb) <| p_ (bG (aj a7) hb) <| p_ (aJ.below aZ hb) <| p_ (aQ.trans AB (aQ.of_below hb g none) (.inl rfl)) <| a_ (dI dA hb)
 (try clear hb)
 (try clear ho0)
 (try clear ho1)
 obtain ⟨bw,bx,bj⟩:=Kd.dJ az.out
 (first|subst bj|(injection bj with dP fZ dQ;have f_:=dP.symm;have gq:=dQ.symm;clear dP fZ dQ;subst f_;subst gq))
 refine hK.out _ _ (nK a6.out ((aO a7.out 0).trans rfl)) (fun hH=>?_)
 clear hK K
 refine fD (some 19) ?_
 refine eY 5 14 #[ak,ak,ak,ak,ak,ak,F_,F_,F_] aS ?_
 refine aI 6 ?_
 refine aI 7 ?_
 refine wz 8 (fun K hK=>?_)
 have aao:cf.cell? ⟨ae,0,none⟩=some (.slice dM a9.length bh):=(aO a7.out 0).trans rfl
 have Z5:=dF a7.out 0
 refine jr (w1:=?_) (by rfl) rfl ?_ ?_
 rotate_left
 ·go_simp
  rfl
 refine hK.out _ _ ?_
 clear hK K
 refine iF (jB aS.out aB) ?_
 try go_wp2
 go_roundg k1
 case measure=>have:=iq.out;omega
 case rel=>exact ⟨(wrap64 (aw+1)),(be),(fF),(b9),(.slice bw b9.length bx),bg,H',⟨nT⟩,⟨(by (with_reducible repeat (first|apply Kd.dR|apply Kd.dS|apply Kd.bK));exact Kd.bW (aU (Kd.dL az.out a7.out (by decide))) (fun _ hk=>trivial))⟩,⟨bH⟩,⟨bH⟩,⟨bH⟩,⟨aZ⟩,⟨AB⟩,⟨dA⟩⟩

end Go.Proofs.YthejdhjpbpamoaaGreatDoor.jM
