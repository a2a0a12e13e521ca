/- Contracts of Go functions: each call returns what the Lean function beside it computes. Conditions: as each theorem states them. -/
import Derived.Test.YthejdhjpbpamoaaGreatDoorPkFnCodes
import Derived.Test.YthejdhjpbpamoaaGreatDoorPFnCodesx1
import Derived.Test.YthejdhjpbpamoaaGreatDoorPFnCodesx16
import Derived.Test.YthejdhjpbpamoaaGreatDoorPFnCodesx17
import Derived.Test.YthejdhjpbpamoaaGreatDoorPFnCodesx25
import Derived.Test.YthejdhjpbpamoaaGreatDoorPFnCodesx18
import Derived.Test.YthejdhjpbpamoaaGreatDoorPFnCodesx23
namespace Go.Proofs.YthejdhjpbpamoaaGreatDoor.jD
open Go.RowKit Go.Proofs.YthejdhjpbpamoaaGreatDoorW.iw Go.Proofs.YthejdhjpbpamoaaGreatDoorW.lH Go.Proofs.YthejdhjpbpamoaaGreatDoorW.oO Go.Proofs.Tryz
attribute [local go_sem] qw qB qA qF qy qE qx qC   -- for this text's walks alone
set_option linter.unusedVariables false
set_option maxHeartbeats 8000000
set_option maxRecDepth 100000
set_option linter.unusedSimpArgs false

def zy.f (bI:List Int) (eG:Int) (eH:Int):Option (ByteArray × Int × Int):=(yH.f bI eG eH 5).bind fun a5=>(if a5.1=true then ((zS.f bI a5.2.1 a5.2.2 (([(⟨#[]⟩:ByteArray),(⟨#[97]⟩:ByteArray),(⟨#[47,47]⟩:ByteArray),(⟨#[47,97,47]⟩:ByteArray),(⟨#[47,97,47,47,98]⟩:ByteArray),(⟨#[47,65]⟩:ByteArray),(⟨#[47,97,32,98]⟩:ByteArray),(⟨#[47,97,98,99,100,101,102,103,104]⟩:ByteArray),(⟨#[47,97,47,97,98,99,100,101,102,103,104,47,98]⟩:ByteArray),(⟨#[47,97,98,99,100,101,102,103,104,47,65]⟩:ByteArray),(⟨#[47,97,98,99,100,101,102,47,97,98,99,100,101,102,47,97,98,99,100,101,102,47,97,98,99,100,101,102,47,97,98,99,100,101,102,47,97,98,99,100,101,102,47,97,98,99,100,101,102,47,97,98,99,100,101,102,47,97,98,99]⟩:ByteArray),(⟨#[47,97,98,99,100,101,102,47,97,98,99,100,101,102,47,97,98,99,100,101,102,47,97,98,99,100,101,102,47,97,98,99,100,101,102,47,97,98,99,100,101,102,47,97,98,99,100,101,102,47,97,98,99,100,101,102,47,97,98,99,100]⟩:ByteArray),(⟨#[47,0]⟩:ByteArray)]:List ByteArray))).bind fun a6=>(some (a6.1,a6.2.1,a6.2.2))) else ((w_.f bI a5.2.1 a5.2.2).bind fun a7=>(some (a7.1,a7.2.1,a7.2.2))))
theorem zy.calls (g:Nat) (bI:List Int) (eG:Int) (eH:Int) (r1:ByteArray) (r2:Int) (r3:Int) (w0 w:World) (hI:aS w0 w g bI eG eH) (hB:Below w0.heap.size w0 w) (h:zy.f bI eG eH=some (r1,r2,r3)) :
  Calls Tryz.prog 89 #[.pointer (some ⟨g,0,none⟩)] w fun e w'=>e=.returned (.string r1)∧aS w0 w' g bI r2 r3∧Below w0.heap.size w0 w'∧aV w w' g none:=by
 have HI0:=m_ hI
 have HK:=m_ (aV.refl w g none)
 have HL:=m_ hB.size
 clear hI
 have HW0:=m_ hB.size
 have HB:=m_ hB
 clear hB
 unfold zy.f at h
 have H:=h
 clear h
 obtain ⟨⟨ac,a6,a7⟩,A2,H⟩:=bd_ H
 by_cases c3:ac=true
 rotate_left
 ·replace c3:=Bool.eq_false_iff.mpr c3
  subst c3
  rw [if_neg iI] at H
  obtain ⟨⟨ae,af,ag⟩,aQ,H⟩:=bd_ H
  simp only [Option.some.injEq,Prod.mk.injEq] at H
  obtain ⟨rfl,rfl,rfl⟩:=H
  go_enter func89,ntmps89
  go_wp2_with (first|((with_reducible refine bT 42 ?_);refine bU (some 4) rfl rfl func42 aB rfl #[.pointer (some ⟨g,0,none⟩),ah 5] rfl aX ?_;(with_reducible refine (yH.calls g bI eG eH 5 false a6 a7 w0 _ b_ dZ A2.out).mono ?_);rintro e ao ⟨rfl,hi,hb,hk⟩;refine ⟨_,rfl,?_⟩;obtain ⟨HK,HB,HI0⟩:=p_ (aV.trans jv hk (.inl rfl)) <| p_ (hb) <| a_ (hi);(try clear hb);(try clear hk);(try clear hi))|((with_reducible refine bT 44 ?_);refine bU (some 9) rfl rfl func44 aB rfl #[.pointer (some ⟨g,0,none⟩)] rfl aX ?_;(with_reducible refine (w_.calls g bI a6 a7 ae af ag w0 _ b_ dZ aQ.out).mono ?_);rintro e ap ⟨rfl,hi,hb,hk⟩;refine ⟨_,rfl,?_⟩;obtain ⟨HK,HB,HI0⟩:=p_ (aV.trans jv hk (.inl rfl)) <| p_ (hb) <| a_ (hi);(try clear hb);(try clear hk);(try clear hi)))
  go_ret
  exact ⟨bM,b_,dZ,jv⟩
 subst c3
 rw [if_pos rfl] at H
 obtain ⟨ab,a8⟩:∃ y_:List ByteArray,y_=(([(⟨#[]⟩:ByteArray),(⟨#[97]⟩:ByteArray),(⟨#[47,47]⟩:ByteArray),(⟨#[47,97,47]⟩:ByteArray),(⟨#[47,97,47,47,98]⟩:ByteArray),(⟨#[47,65]⟩:ByteArray),(⟨#[47,97,32,98]⟩:ByteArray),(⟨#[47,97,98,99,100,101,102,103,104]⟩:ByteArray),(⟨#[47,97,47,97,98,99,100,101,102,103,104,47,98]⟩:ByteArray),(⟨#[47,97,98,99,100,101,102,103,104,47,65]⟩:ByteArray),(⟨#[47,97,98,99,100,101,102,47,97,98,99,100,101,102,47,97,98,99,100,101,102,47,97,98,99,100,101,102,47,97,98,99,100,101,102,47,97,98,99,100,101,102,47,97,98,99,100,101,102,47,97,98,99,100,101,102,47,97,98,99]⟩:ByteArray),(⟨#[47,97,98,99,100,101,102,47,97,98,99,100,101,102,47,97,98,99,100,101,102,47,97,98,99,100,101,102,47,97,98,99,100,101,102,47,97,98,99,100,101,102,47,97,98,99,100,101,102,47,97,98,99,100,101,102,47,97,98,99,100]⟩:ByteArray),(⟨#[47,0]⟩:ByteArray)]:List ByteArray)):=⟨_,rfl⟩
 rw [← a8] at H
 have aa:=m_ a8
 clear a8
 obtain ⟨⟨aK,ai,aN⟩,A4,H⟩:=bd_ H
 simp only [Option.some.injEq,Prod.mk.injEq] at H
 obtain ⟨rfl,rfl,rfl⟩:=H
 go_enter func89,ntmps89
 go_wp2_with (first|((with_reducible refine bT 42 ?_);refine bU (some 4) rfl rfl func42 aB rfl #[.pointer (some ⟨g,0,none⟩),ah 5] rfl aX ?_;(with_reducible refine (yH.calls g bI eG eH 5 true a6 a7 w0 _ b_ dZ A2.out).mono ?_);rintro e w5 ⟨rfl,hi,hb,hk⟩;refine ⟨_,rfl,?_⟩;obtain ⟨HK,HB,HI0⟩:=p_ (aV.trans jv hk (.inl rfl)) <| p_ (hb) <| a_ (hi);(try clear hb);(try clear hk);(try clear hi))|((with_reducible refine dJ 6 ?_);refine Kd.sU Kd.string _ 9 ?hg (N:=6) ?hd (xs:=([(⟨#[]⟩:ByteArray),(⟨#[97]⟩:ByteArray),(⟨#[47,47]⟩:ByteArray),(⟨#[47,97,47]⟩:ByteArray),(⟨#[47,97,47,47,98]⟩:ByteArray),(⟨#[47,65]⟩:ByteArray),(⟨#[47,97,32,98]⟩:ByteArray),(⟨#[47,97,98,99,100,101,102,103,104]⟩:ByteArray),(⟨#[47,97,47,97,98,99,100,101,102,103,104,47,98]⟩:ByteArray),(⟨#[47,97,98,99,100,101,102,103,104,47,65]⟩:ByteArray),(⟨#[47,97,98,99,100,101,102,47,97,98,99,100,101,102,47,97,98,99,100,101,102,47,97,98,99,100,101,102,47,97,98,99,100,101,102,47,97,98,99,100,101,102,47,97,98,99,100,101,102,47,97,98,99,100,101,102,47,97,98,99]⟩:ByteArray),(⟨#[47,97,98,99,100,101,102,47,97,98,99,100,101,102,47,97,98,99,100,101,102,47,97,98,99,100,101,102,47,97,98,99,100,101,102,47,97,98,99,100,101,102,47,97,98,99,100,101,102,47,97,98,99,100,101,102,47,97,98,99,100]⟩:ByteArray),(⟨#[47,0]⟩:ByteArray)]:List ByteArray)) (inner:=[.string (⟨#[]⟩:ByteArray),.string (⟨#[97]⟩:ByteArray),.string (⟨#[47,47]⟩:ByteArray),.string (⟨#[47,97,47]⟩:ByteArray),.string (⟨#[47,97,47,47,98]⟩:ByteArray),.string (⟨#[47,65]⟩:ByteArray),.string (⟨#[47,97,32,98]⟩:ByteArray),.string (⟨#[47,97,98,99,100,101,102,103,104]⟩:ByteArray),.string (⟨#[47,97,47,97,98,99,100,101,102,103,104,47,98]⟩:ByteArray),.string (⟨#[47,97,98,99,100,101,102,103,104,47,65]⟩:ByteArray),.string (⟨#[47,97,98,99,100,101,102,47,97,98,99,100,101,102,47,97,98,99,100,101,102,47,97,98,99,100,101,102,47,97,98,99,100,101,102,47,97,98,99,100,101,102,47,97,98,99,100,101,102,47,97,98,99,100,101,102,47,97,98,99]⟩:ByteArray),.string (⟨#[47,97,98,99,100,101,102,47,97,98,99,100,101,102,47,97,98,99,100,101,102,47,97,98,99,100,101,102,47,97,98,99,100,101,102,47,97,98,99,100,101,102,47,97,98,99,100,101,102,47,97,98,99,100,101,102,47,97,98,99,100]⟩:ByteArray),.string (⟨#[47,0]⟩:ByteArray)]) (ok:=fun _=>True) (iJ:=fun _=>True) ?hr ?hp (fun _ hk=>hk) trivial (Below.refl _ _) (Nat.le_refl _) (by simp) ?_;(case hd=>rfl);(case hg=>rfl);(case hr=>first|(go_simp;done)|(go_simp;rfl));(case hp=>exact (bD.one (show Kd.M Kd.string _ _ _ (⟨#[]⟩:ByteArray) [.string (⟨#[]⟩:ByteArray)] from rfl) (bD.one (show Kd.M Kd.string _ _ _ (⟨#[97]⟩:ByteArray) [.string (⟨#[97]⟩:ByteArray)] from rfl) (bD.one (show Kd.M Kd.string _ _ _ (⟨#[47,47]⟩:ByteArray) [.string (⟨#[47,47]⟩:ByteArray)] from rfl) (bD.one (show Kd.M Kd.string _ _ _ (⟨#[47,97,47]⟩:ByteArray) [.string (⟨#[47,97,47]⟩:ByteArray)] from rfl) (bD.one (show Kd.M Kd.string _ _ _ (⟨#[47,97,47,47,98]⟩:ByteArray) [.string (⟨#[47,97,47,47,98]⟩:ByteArray)] from rfl) (bD.one (show Kd.M Kd.string _ _ _ (⟨#[47,65]⟩:ByteArray) [.string (⟨#[47,65]⟩:ByteArray)] from rfl) (bD.one (show Kd.M Kd.string _ _ _ (⟨#[47,97,32,98]⟩:ByteArray) [.string (⟨#[47,97,32,98]⟩:ByteArray)] from rfl) (bD.one (show Kd.M Kd.string _ _ _ (⟨#[47,97,98,99,100,101,102,103,104]⟩:ByteArray) [.string (⟨#[47,97,98,99,100,101,102,103,104]⟩:ByteArray)] from rfl) (bD.one (show Kd.M Kd.string _ _ _ (⟨#[47,97,47,97,98,99,100,101,102,103,104,47,98]⟩:ByteArray) [.string (⟨#[47,97,47,97,98,99,100,101,102,103,104,47,98]⟩:ByteArray)] from rfl) (bD.one (show Kd.M Kd.string _ _ _ (⟨#[47,97,98,99,100,101,102,103,104,47,65]⟩:ByteArray) [.string (⟨#[47,97,98,99,100,101,102,103,104,47,65]⟩:ByteArray)] from rfl) (bD.one (show Kd.M Kd.string _ _ _ (⟨#[47,97,98,99,100,101,102,47,97,98,99,100,101,102,47,97,98,99,100,101,102,47,97,98,99,100,101,102,47,97,98,99,100,101,102,47,97,98,99,100,101,102,47,97,98,99,100,101,102,47,97,98,99,100,101,102,47,97,98,99]⟩:ByteArray) [.string (⟨#[47,97,98,99,100,101,102,47,97,98,99,100,101,102,47,97,98,99,100,101,102,47,97,98,99,100,101,102,47,97,98,99,100,101,102,47,97,98,99,100,101,102,47,97,98,99,100,101,102,47,97,98,99,100,101,102,47,97,98,99]⟩:ByteArray)] from rfl) (bD.one (show Kd.M Kd.string _ _ _ (⟨#[47,97,98,99,100,101,102,47,97,98,99,100,101,102,47,97,98,99,100,101,102,47,97,98,99,100,101,102,47,97,98,99,100,101,102,47,97,98,99,100,101,102,47,97,98,99,100,101,102,47,97,98,99,100,101,102,47,97,98,99,100]⟩:ByteArray) [.string (⟨#[47,97,98,99,100,101,102,47,97,98,99,100,101,102,47,97,98,99,100,101,102,47,97,98,99,100,101,102,47,97,98,99,100,101,102,47,97,98,99,100,101,102,47,97,98,99,100,101,102,47,97,98,99,100,101,102,47,97,98,99,100]⟩:ByteArray)] from rfl) (bD.one (show Kd.M Kd.string _ _ _ (⟨#[47,0]⟩:ByteArray) [.string (⟨#[47,0]⟩:ByteArray)] from rfl) (bD.none _ _)))))))))))))));intro aAB w6 y7 hb iV iW;clear iV iW;(first|rw [← aa.out] at y7|(simp only [Int.reduceToNat] at y7;rw [← aa.out] at y7));obtain ⟨a5,HI0,HK,HB⟩:=p_ (Kd.dI y7 (jr (w:=w) (g:=g) (row:=none) jv)) <| p_ (aS.below b_ hb) <| p_ (aV.trans jv (aV.of_below hb g none) (.inl rfl)) <| a_ (dP dZ hb);clear hb y7;obtain ⟨al,am,an⟩:=Kd.dK a5.out;subst an)|((with_reducible refine bT 93 ?_);refine bU (some 7) rfl rfl func93 aB rfl #[.pointer (some ⟨g,0,none⟩),.slice al ab.length am] rfl aX ?_;(with_reducible refine (zS.calls g bI a6 a7 _ _ ab aK ai aN w0 _ b_ dZ ?oI ((Kd.dN a5.out).2.1) (Ak (aS.own_ne HI0.out a5.out (by decide))) A4.out).mono ?_);(case oI=>repeat (first|exact (Kd.dN a5.out).2.2|(with_reducible refine Kd.jO ?_ _)|(with_reducible refine Kd.jT ?_ _)|(with_reducible refine Kd.jS ?_)));rintro e w9 ⟨rfl,hi,hb,hk⟩;refine ⟨_,rfl,?_⟩;obtain ⟨a5,HK,HB,HI0⟩:=p_ (Kd.bn (Kd.nN (aS.apart (show aS w0 _ g bI a6 a7 from b_) (aJ a5) (by decide)) hk (fun _ h=>h.2)) (fun _ h=>h.1)) <| p_ (aV.trans jv hk (.inl rfl)) <| p_ (hb) <| a_ (hi);(try clear hb);(try clear hk);(try clear hi)))
 go_ret
 exact ⟨bM,b_,dZ,jv⟩

def uG.f (bI:List Int) (eG:Int) (eH:Int) (l1:List Int):Option (Int × Int × Int):=(pF.f bI eG eH (l1.length:Int)).bind fun a5=>(if 0≤a5.1 then (if a5.1 < (l1.length:Int) then (some (rd l1 a5.1,a5.2.1,a5.2.2)) else (none)) else (none))
theorem uG.calls (g:Nat) (bI:List Int) (eG:Int) (eH:Int) (A1:Option Addr) (c1:Nat) (l1:List Int) (r1:Int) (r2:Int) (r3:Int) (w0 w:World) (hI:aS w0 w g bI eG eH) (hB:Below w0.heap.size w0 w) (hr1:Kd.C (Kd.int .i64) w A1 l1.length l1) (hc1:l1.length≤c1) (hf1:∀ ad,A1=some ad→0 < l1.length→ad.block≠g) (h:uG.f bI eG eH l1=some (r1,r2,r3)) :
  Calls Tryz.prog 92 #[.pointer (some ⟨g,0,none⟩),.slice A1 l1.length c1] w fun e w'=>e=.returned (ah r1)∧aS w0 w' g bI r2 r3∧Below w0.heap.size w0 w'∧aV w w' g none:=by
 have ae:=m_ hr1
 have aK:=m_ hc1
 clear hr1 hc1
 have HI0:=m_ hI
 have HK:=m_ (aV.refl w g none)
 have HL:=m_ hB.size
 clear hI
 have HW0:=m_ hB.size
 have HB:=m_ hB
 clear hB
 unfold uG.f at h
 have H:=h
 clear h
 obtain ⟨⟨a6,aa,ab⟩,A3,H⟩:=bd_ H
 obtain ⟨af,H⟩:=gK H
 obtain ⟨ag,H⟩:=gK H
 simp only [Option.some.injEq,Prod.mk.injEq] at H
 obtain ⟨rfl,rfl,rfl⟩:=H
 go_enter func92,ntmps92
 go_wp2_with (first|((with_reducible refine bT 87 ?_);refine bU (some 9) rfl rfl func87 aB rfl #[.pointer (some ⟨g,0,none⟩),ah (l1.length:Int)] rfl aX ?_;(with_reducible refine (pF.calls g bI eG eH (l1.length:Int) a6 aa ab w0 _ b_ dZ A3.out).mono ?_);rintro e w6 ⟨rfl,hi,hb,hk⟩;refine ⟨_,rfl,?_⟩;obtain ⟨HK,HB,HI0⟩:=p_ (aV.trans jv hk (.inl rfl)) <| p_ (hb) <| a_ (hi);(try clear hb);(try clear hk);(try clear hi);have a7:0≤(a6:Int):=bF bG;have a8:a6 < (l1.length:Int):=bF bG;obtain ⟨a9,ac,a5⟩:=Kd.Lc ae.out a6 a7 a8;cases ac;replace a5:=Nj HK.out a5 (by first|(rw [add_block];exact hf1 _ rfl (by omega))|exact hf1 _ rfl (by omega)|exact hf1 a9 rfl (by omega));replace a7:=eq_true a7;replace a8:=eq_true a8))
 go_ret
 exact ⟨bM,b_,dZ,jv⟩

mutual
def r_.j0:Nat→Int→List Int→Int→Int→Option (ByteArray × Int × Int)
 | 0,_,_,_,_=>none
 | k+1,x1,a5,a6,a7=>r_.l0 k x1 (([]:List Int)) 0 a5 a6 a7
def r_.l0:Nat→Int→List Int→Int→List Int→Int→Int→Option (ByteArray × Int × Int)
 | 0,_,_,_,_,_,_=>none
 | k+1,x1,x5,x6,a6,a7,a8=>if x6 < x1 then ((vk.f a6 a7 a8).bind fun a5=>(if x5.length < 140737488355328 then (r_.l0 k x1 (x5++[(a5.1) % 256]) (wrap64 (x6+1)) a6 a5.2.1 a5.2.2) else (none))) else (some (strOfNums x5,a7,a8))
end
def r_.f (k:Nat) (bI:List Int) (eG:Int) (eH:Int) (a1:Int):Option (ByteArray × Int × Int):=if a1 > 5000 then (r_.j0 k 5000 bI eG eH) else (r_.j0 k a1 bI eG eH)
theorem r_.calls (k:Nat) (g:Nat) (bI:List Int) (eG:Int) (eH:Int) (a1:Int) (r1:ByteArray) (r2:Int) (r3:Int) (w0 w:World) (hI:aS w0 w g bI eG eH) (hB:Below w0.heap.size w0 w) (h:r_.f k bI eG eH a1=some (r1,r2,r3)) :
  Calls Tryz.prog 147 #[.pointer (some ⟨g,0,none⟩),ah a1] w fun e w'=>e=.returned (.string r1)∧aS w0 w' g bI r2 r3∧Below w0.heap.size w0 w'∧aV w w' g none:=by
 have HI0:=m_ hI
 have HK:=m_ (aV.refl w g none)
 have HL:=m_ hB.size
 clear hI
 have HW0:=m_ hB.size
 have HB:=m_ hB
 clear hB
 unfold r_.f at h
 have H:=h
 clear h
 have an:=m_ H
 clear H
 go_enter func147,ntmps147
 go_upto_if 8 with (fail)
 go_cut [1] (fun v1 wc=>∃ (kq:Nat) (a7:Int),v1=ah a7∧aA (r_.j0 kq a7 bI eG eH=some (r1,r2,r3))∧aA (kq≤k)∧aA (aS w0 wc g bI eG eH)∧aA (aV w wc g none)∧aA (Below w0.heap.size w0 wc))
 case first =>
  obtain ⟨H⟩:=an
  revert H;refine gJ (fun a8 H=>?_) fun a8 H=>?_
  rotate_left
  ·try simp only [aY,bf,a8]
   have H':=m_ H
   clear H
   go_wp2
   go_meet
   case rel=>exact ⟨_,(a1),bg,H',⟨kC⟩,⟨b_⟩,⟨jv⟩,⟨dZ⟩⟩
  try simp only [aY,bf,a8]
  have H':=m_ H
  clear H
  go_wp2
  go_meet
  case rel=>exact ⟨_,(5000),bg,H',⟨kC⟩,⟨b_⟩,⟨jv⟩,⟨dZ⟩⟩
 case rest =>
 clear an
 obtain ⟨kq,a7,rfl,HA,HJ2,HI0,HK,HB⟩:=hcut
 cases kq with
 | zero=>exact absurd HA.out (by simp [r_.j0])
 | succ BG =>
 obtain ⟨H⟩:=HA
 simp only [r_.j0] at H
 obtain ⟨ai,aa⟩:∃ y_:List Int,y_=(([]:List Int)):=⟨_,rfl⟩
 rw [← aa] at H
 have af:=m_ aa
 clear aa
 have H':=m_ H
 clear H
 go_wp2_with (first|((with_reducible refine dJ 9 ?_);refine Kd.sU (Kd.int .u8) _ 5 ?hg (N:=9) ?hd (xs:=([]:List Int)) (inner:=[]) (ok:=fun _=>True) (iJ:=fun _=>True) ?hr ?hp (fun _ hk=>hk) trivial (Below.refl _ _) (Nat.le_refl _) (by simp) ?_;(case hd=>rfl);(case hg=>rfl);(case hr=>first|(go_simp;done)|(go_simp;rfl));(case hp=>exact (bD.none _ _));intro aAC w5 uZ hb iV iW;clear iV iW;(first|rw [← af.out] at uZ|(simp only [Int.reduceToNat] at uZ;rw [← af.out] at uZ));obtain ⟨aN,HI0,HK,HB⟩:=p_ (Kd.dI uZ (jr (w:=w) (g:=g) (row:=none) jv)) <| p_ (aS.below b_ hb) <| p_ (aV.trans jv (aV.of_below hb g none) (.inl rfl)) <| a_ (dP dZ hb);clear hb uZ))
 go_loopg [5,6] BG (fun kq v5 v6 w'=>∃ (ab:List Int) (a9:Int) (a5:Int) (a6:Int),v6=ah a9∧aA (r_.l0 kq a7 ab a9 bI a5 a6=some (r1,r2,r3))∧aA (kq≤BG)∧aA (Kd.R (Kd.int .u8) 5 w' w.heap.size (fun _=>True) v5 ab)∧aA (aS w0 w' g bI a5 a6)∧aA (aV w w' g none)∧aA (Below w0.heap.size w0 w'))
 case atStart=>exact ⟨(ai),(0),(eG),(eH),bg,H',⟨Nat.le_refl _⟩,⟨(aJ aN)⟩,⟨b_⟩,⟨jv⟩,⟨dZ⟩⟩
 case round =>
 clear H'
 obtain ⟨ab,a9,a5,a6,rfl,HA,jM,dn,HI0,HK,HB⟩:=hrel
 cases gk with
 | zero=>exact absurd HA.out (by simp [r_.l0])
 | succ k2 =>
 obtain ⟨H⟩:=HA
 simp only [r_.l0] at H
 revert H;refine gJ (fun ao H=>?_) fun ao H=>?_
 rotate_left
 ·simp only [Option.some.injEq,Prod.mk.injEq] at H
  obtain ⟨rfl,rfl,rfl⟩:=H
  have al1:=Zz (P:=Tryz.prog) underlying22 underlying5 underlying9 (Kd.Nv dn.out)
  go_wp2
  go_ret
  exact ⟨bM,b_,dZ,jv⟩
 obtain ⟨⟨ae,ag,aK⟩,Ci,H⟩:=bd_ H
 obtain ⟨c9,H⟩:=kV H
 have ap:=m_ c9
 clear c9
 obtain ⟨aQ,ac⟩:∃ y_:List Int,y_=(ab++[(ae) % 256]):=⟨_,rfl⟩
 rw [← ac] at H
 have al:=m_ ac
 clear ac
 have H':=m_ H
 clear H
 go_wp2_with (first|((with_reducible refine bT 130 ?_);refine bU (some 17) rfl rfl func130 aB rfl #[.pointer (some ⟨g,0,none⟩)] rfl aX ?_;(with_reducible refine (vk.calls g bI a5 a6 ae ag aK w0 _ b_ dZ Ci.out).mono ?_);rintro e aq ⟨rfl,hi,hb,hk⟩;refine ⟨_,rfl,?_⟩;obtain ⟨dn,HK,HB,HI0⟩:=p_ (Kd.bn (Kd.nN (aS.apart (show aS w0 _ g bI a5 a6 from b_) (aJ dn) (by decide)) hk (fun _ h=>h.2)) (fun _ h=>h.1)) <| p_ (aV.trans jv hk (.inl rfl)) <| p_ (hb) <| a_ (hi);(try clear hb);(try clear hk);(try clear hi))|((with_reducible refine xH (b:=.append) (xs:=#[.tmp 15,.tmp 19]) rfl ?_);at_builtin;refine Kd.CX (Kd.int .u8) w.heap.size rfl (.tmp 15) (.tmp 19) 22 5 (.int .u8 0) 1 rfl underlying22 info5 rfl (by decide) (by omega) u5 ab ((ae) % 256) [.int .u8 ((ae) % 256)] (fun _=>True) (fun _=>False) rfl rfl ?sW (fun _ hk=>hk.elim) ?kT ?kG (Below.refl _ _) ?kH ?aL ?_;(case sW=>exact rfl);(case kT=>exact (fun _ _=>trivial));(case kG=>exact (aJ dn));(case kH=>exact (jr (w:=w) (g:=g) (row:=none) jv));(case aL=>have:=ap.out;omega);intro aAD ar ho hb hg hat;rw [← al.out] at ho;obtain ⟨HI0,HB,HK,am⟩:=p_ (aS.grown b_ hg (aS.own_ne HI0.out dn.out (by decide))) <| p_ (Vu dZ HL.out hb) <| p_ (aV.trans jv (aV.BJ hg g) (Kd.Vk dn.out)) <| a_ (ho);clear ho hb hg hat))
 go_roundg k2
 case measure=>have:=HJ2.out;have:=jM.out;omega
 case rel=>exact ⟨(aQ),(wrap64 (a9+1)),(ag),(aK),bg,H',⟨(by have:=HJ2.out;have:=jM.out;omega)⟩,⟨(aJ am)⟩,⟨b_⟩,⟨jv⟩,⟨dZ⟩⟩

def uH.j0:Nat→List Int→Int→Int→Int→ByteArray→ByteArray→Int→Int→ByteArray→Option (Int × ByteArray × ByteArray × Int × Int × ByteArray × Int × Int)
 | 0,_,_,_,_,_,_,_,_,_=>none
 | k+1,a9,ac,ae,a5,a6,a7,aa,ab,a8=>if a5=5 then ((w_.f a9 ac ae).bind fun af=>(some (a5,a6,af.1,aa,ab,a8,af.2.1,af.2.2))) else (if a5=6 then ((uG.f a9 ac ae (([0,1,5,32,100,200]:List Int))).bind fun ag=>((uG.f a9 ag.2.1 ag.2.2 (([0,1,10,40,128,1000]:List Int))).bind fun aK=>(some (a5,a6,a7,ag.1,aK.1,a8,aK.2.1,aK.2.2)))) else (if a5=7 then ((uG.f a9 ac ae (([0,0,0,1,5,30,32,33,64,100]:List Int))).bind fun ai=>((uG.f a9 ai.2.1 ai.2.2 (([0,1,2,5,20,32,40]:List Int))).bind fun aN=>((r_.f k a9 aN.2.1 aN.2.2 aN.1).bind fun aQ=>(some (a5,a6,a7,ai.1,ab,aQ.1,aQ.2.1,aQ.2.2))))) else (if a5=8 then ((uG.f a9 ac ae (([0,1,5,31,32,33,64,70,128,129]:List Int))).bind fun al=>(some (a5,a6,a7,aa,al.1,a8,al.2.1,al.2.2))) else (some (a5,a6,a7,aa,ab,a8,ac,ae)))))
def uH.f (k:Nat) (bI:List Int) (eG:Int) (eH:Int):Option (Int × ByteArray × ByteArray × Int × Int × ByteArray × Int × Int):=(uG.f bI eG eH (([1,1,1,2,2,3,4,5,5,6,7,7,7,7,7,8,8,9,10,11]:List Int))).bind fun a7=>((w_.f bI a7.2.1 a7.2.2).bind fun a8=>((yH.f bI a8.2.1 a8.2.2 12).bind fun a5=>(if a5.1=true then ((zy.f bI a5.2.1 a5.2.2).bind fun a6=>(uH.j0 k bI a6.2.1 a6.2.2 a7.1 a6.1 (⟨#[]⟩:ByteArray) 0 0 (⟨#[]⟩:ByteArray))) else (uH.j0 k bI a5.2.1 a5.2.2 a7.1 a8.1 (⟨#[]⟩:ByteArray) 0 0 (⟨#[]⟩:ByteArray)))))
theorem uH.calls (k:Nat) (g:Nat) (bI:List Int) (eG:Int) (eH:Int) (r1:Int) (r2:ByteArray) (r3:ByteArray) (r4:Int) (r5:Int) (r6:ByteArray) (r7:Int) (r8:Int) (w0 w:World) (hI:aS w0 w g bI eG eH) (hB:Below w0.heap.size w0 w) (h:uH.f k bI eG eH=some (r1,r2,r3,r4,r5,r6,r7,r8)) :
  Calls Tryz.prog 131 #[.pointer (some ⟨g,0,none⟩)] w fun e w'=>e=.returned (.agg #[ah r1,.string r2,.string r3,ah r4,ah r5,.string r6])∧aS w0 w' g bI r7 r8∧Below w0.heap.size w0 w'∧aV w w' g none:=by
 have Bv:=underlying45
 have HI0:=m_ hI
 have HK:=m_ (aV.refl w g none)
 have HL:=m_ hB.size
 clear hI
 have HW0:=m_ hB.size
 have HB:=m_ hB
 clear hB
 unfold uH.f at h
 have H:=h
 clear h
 obtain ⟨cd,b9⟩:∃ y_:List Int,y_=(([1,1,1,2,2,3,4,5,5,6,7,7,7,7,7,8,8,9,10,11]:List Int)):=⟨_,rfl⟩
 rw [← b9] at H
 have bs:=m_ b9
 clear b9
 obtain ⟨⟨uj,ce,cf⟩,A2,H⟩:=bd_ H
 obtain ⟨⟨br,bb,bc⟩,A3,H⟩:=bd_ H
 obtain ⟨⟨cm,b5,b6⟩,A4,H⟩:=bd_ H
 have d7:=m_ H
 clear H
 go_enter func131,ntmps131
 go_upto_if 11 with (first|((with_reducible refine dJ 2 ?_);refine dO 2 (cs:=#[ah 0,.string (⟨#[]⟩:ByteArray),.string (⟨#[]⟩:ByteArray),ah 0,ah 0,.string (⟨#[]⟩:ByteArray)]) 45 ?_;intro a6 hg w6 hbox hb;have gy:=p_ (aS.below b_ hb) <| p_ (aV.trans jv (aV.of_below hb g none) (.inl rfl)) <| p_ (dP dZ hb) <| p_ (hbox) <| p_ ((by rw [hg];exact (jr (w:=w) (g:=g) (row:=none) jv):w.heap.size≤a6)) <| p_ ((Nat.le_trans HW0.out (by rw [hg];exact (jr (w:=w) (g:=g) (row:=none) jv):w.heap.size≤a6):w0.heap.size≤a6)) <| p_ ((by rw [hg];exact Nat.ne_of_lt (aS.lt (show aS w0 _ g bI eG eH from b_)):g≠a6)) <| a_ ((by rw [hg];exact Nat.ne_of_gt (aS.lt (show aS w0 _ g bI eG eH from b_)):a6≠g));clear HI0 HK HB;obtain ⟨HI0,HK,HB,kF,U1,alu,IB,a5⟩:=gy;clear hb hbox hg)|((with_reducible refine dJ 5 ?_);refine Kd.sU (Kd.int .i64) _ 3 ?hg (N:=5) ?hd (xs:=([1,1,1,2,2,3,4,5,5,6,7,7,7,7,7,8,8,9,10,11]:List Int)) (inner:=[ah 1,ah 1,ah 1,ah 2,ah 2,ah 3,ah 4,ah 5,ah 5,ah 6,ah 7,ah 7,ah 7,ah 7,ah 7,ah 8,ah 8,ah 9,ah 10,ah 11]) (ok:=fun _=>True) (iJ:=fun _=>True) ?hr ?hp (fun _ hk=>hk) trivial (Below.refl _ _) (Nat.le_refl _) (by simp) ?_;(case hd=>rfl);(case hg=>rfl);(case hr=>first|(go_simp;done)|(go_simp;rfl));(case hp=>exact (bD.one (show Kd.M (Kd.int .i64) _ _ _ 1 [ah 1] from rfl) (bD.one (show Kd.M (Kd.int .i64) _ _ _ 1 [ah 1] from rfl) (bD.one (show Kd.M (Kd.int .i64) _ _ _ 1 [ah 1] from rfl) (bD.one (show Kd.M (Kd.int .i64) _ _ _ 2 [ah 2] from rfl) (bD.one (show Kd.M (Kd.int .i64) _ _ _ 2 [ah 2] from rfl) (bD.one (show Kd.M (Kd.int .i64) _ _ _ 3 [ah 3] from rfl) (bD.one (show Kd.M (Kd.int .i64) _ _ _ 4 [ah 4] from rfl) (bD.one (show Kd.M (Kd.int .i64) _ _ _ 5 [ah 5] from rfl) (bD.one (show Kd.M (Kd.int .i64) _ _ _ 5 [ah 5] from rfl) (bD.one (show Kd.M (Kd.int .i64) _ _ _ 6 [ah 6] from rfl) (bD.one (show Kd.M (Kd.int .i64) _ _ _ 7 [ah 7] from rfl) (bD.one (show Kd.M (Kd.int .i64) _ _ _ 7 [ah 7] from rfl) (bD.one (show Kd.M (Kd.int .i64) _ _ _ 7 [ah 7] from rfl) (bD.one (show Kd.M (Kd.int .i64) _ _ _ 7 [ah 7] from rfl) (bD.one (show Kd.M (Kd.int .i64) _ _ _ 7 [ah 7] from rfl) (bD.one (show Kd.M (Kd.int .i64) _ _ _ 8 [ah 8] from rfl) (bD.one (show Kd.M (Kd.int .i64) _ _ _ 8 [ah 8] from rfl) (bD.one (show Kd.M (Kd.int .i64) _ _ _ 9 [ah 9] from rfl) (bD.one (show Kd.M (Kd.int .i64) _ _ _ 10 [ah 10] from rfl) (bD.one (show Kd.M (Kd.int .i64) _ _ _ 11 [ah 11] from rfl) (bD.none _ _))))))))))))))))))))));intro aAE w7 y8 hb iV iW;clear iV iW;(first|rw [← bs.out] at y8|(simp only [Int.reduceToNat] at y8;rw [← bs.out] at y8));obtain ⟨a9,HI0,kF,HK,HB⟩:=p_ (Kd.dI y8 (jr (w:=w) (g:=g) (row:=none) En)) <| p_ (aS.below b_ hb) <| p_ (bZ (ak kF) hb) <| p_ (aV.trans En (aV.of_below hb g none) (.inl rfl)) <| a_ (dP dZ hb);clear hb y8;obtain ⟨dp,dq,dr⟩:=Kd.dK a9.out;subst dr)|((with_reducible refine bT 92 ?_);refine bU (some 6) rfl rfl func92 aB rfl #[.pointer (some ⟨g,0,none⟩),.slice dp cd.length dq] rfl aX ?_;(with_reducible refine (uG.calls g bI eG eH _ _ cd uj ce cf w0 _ b_ dZ ?oI ((Kd.dN a9.out).2.1) (Ak (aS.own_ne HI0.out a9.out (by decide))) A2.out).mono ?_);(case oI=>repeat (first|exact (Kd.dN a9.out).2.2|(with_reducible refine Kd.jO ?_ _)|(with_reducible refine Kd.jT ?_ _)|(with_reducible refine Kd.jS ?_)));rintro e em ⟨rfl,hi,hb,hk⟩;refine ⟨_,rfl,?_⟩;obtain ⟨kF,a9,HK,HB,HI0⟩:=p_ (aV.blk hk (g':=a6) (o:=.cells #[ah 0,.string (⟨#[]⟩:ByteArray),.string (⟨#[]⟩:ByteArray),ah 0,ah 0,.string (⟨#[]⟩:ByteArray)] 45) (ak kF) a5.out (by simp)) <| p_ (Kd.bn (Kd.nN (aS.apart (show aS w0 _ g bI eG eH from b_) (aJ a9) (by decide)) hk (fun _ h=>h.2)) (fun _ h=>h.1)) <| p_ (aV.trans En hk (.inl rfl)) <| p_ (hb) <| a_ (hi);(try clear hb);(try clear hk);(try clear hi))|((with_reducible refine bT 44 ?_);refine bU (some 8) rfl rfl func44 aB rfl #[.pointer (some ⟨g,0,none⟩)] rfl aX ?_;(with_reducible refine (w_.calls g bI ce cf br bb bc w0 _ b_ dZ A3.out).mono ?_);rintro e en ⟨rfl,hi,hb,hk⟩;refine ⟨_,rfl,?_⟩;obtain ⟨kF,a9,HK,HB,HI0⟩:=p_ (aV.blk hk (g':=a6) (o:=.cells #[ah 0,.string (⟨#[]⟩:ByteArray),.string (⟨#[]⟩:ByteArray),ah 0,ah 0,.string (⟨#[]⟩:ByteArray)] 45) (ak kF) a5.out (by simp)) <| p_ (Kd.bn (Kd.nN (aS.apart (show aS w0 _ g bI ce cf from b_) (aJ a9) (by decide)) hk (fun _ h=>h.2)) (fun _ h=>h.1)) <| p_ (aV.trans En hk (.inl rfl)) <| p_ (hb) <| a_ (hi);(try clear hb);(try clear hk);(try clear hi))|((with_reducible refine dJ 3 ?_);refine dO 3 (cs:=#[ah 0,.string (⟨#[]⟩:ByteArray),.string (⟨#[]⟩:ByteArray),ah 0,ah 0,.string (⟨#[]⟩:ByteArray)]) 45 ?_;intro aa hg eo hbox hb;have gy:=p_ (Kd.dw (aJ a9) hb) <| p_ (aS.below b_ hb) <| p_ (bZ (ak kF) hb) <| p_ (aV.trans En (aV.of_below hb g none) (.inl rfl)) <| p_ (dP dZ hb) <| p_ (hbox) <| p_ ((by rw [hg];exact (jr (w:=w) (g:=g) (row:=none) En):w.heap.size≤aa)) <| p_ ((Nat.le_trans HW0.out (by rw [hg];exact (jr (w:=w) (g:=g) (row:=none) En):w.heap.size≤aa):w0.heap.size≤aa)) <| p_ (lV hg (gu (ak kF))) <| p_ (lQ hg (gu (ak kF))) <| p_ ((by rw [hg];exact Nat.ne_of_lt (aS.lt (show aS w0 _ g bI bb bc from b_)):g≠aa)) <| a_ ((by rw [hg];exact Nat.ne_of_gt (aS.lt (show aS w0 _ g bI bb bc from b_)):aa≠g));clear a9 HI0 kF HK HB;obtain ⟨a9,HI0,kF,HK,HB,j_,abv,alv,O1,aQ,Ve,ab⟩:=gy;clear hb hbox hg;obtain ⟨bd,be,cg,ch⟩:=g_ aQ O1 ab Ve;have cn:=jK j_.out)|((with_reducible refine bT 42 ?_);refine bU (some 11) rfl rfl func42 aB rfl #[.pointer (some ⟨g,0,none⟩),ah 12] rfl aX ?_;(with_reducible refine (yH.calls g bI bb bc 12 cm b5 b6 w0 _ b_ dZ A4.out).mono ?_);rintro e ep ⟨rfl,hi,hb,hk⟩;refine ⟨_,rfl,?_⟩;have gy:=p_ (aV.blk hk (g':=a6) (o:=.cells #[ah 0,.string (⟨#[]⟩:ByteArray),.string (⟨#[]⟩:ByteArray),ah 0,ah 0,.string (⟨#[]⟩:ByteArray)] 45) (nO kF.out O1.out) a5.out (by simp)) <| p_ (Kd.bn (Kd.nN (aS.apart (show aS w0 _ g bI bb bc from b_) (by (with_reducible repeat (first|apply Kd.dB|apply Kd.dD|apply Kd.aZ));exact (Kd.bn (aH (aH (aH (aH (aH (aH (Kd.bQ a9.out j_.out (by decide)))))))) (fun _ dG=>dG.1))) (by decide)) hk (fun _ h=>h.2)) (fun _ h=>h.1)) <| p_ (aV.blk hk (g':=aa) (o:=.cells #[ah uj,.string br,.string (⟨#[]⟩:ByteArray),ah 0,ah 0,.string (⟨#[]⟩:ByteArray)] 45) (yB j_.out) ab.out (by simp)) <| p_ (aV.trans pX hk (.inl rfl)) <| p_ (hb) <| a_ (hi);clear kF a9 j_ HK HB HI0;obtain ⟨kF,a9,j_,HK,HB,HI0⟩:=gy;(try clear hb);(try clear hk);(try clear hi)))
 (try simp only [Act.put,List.setIfInBounds_toArray,List.set_cons_zero,List.set_cons_succ])
 go_cut [] (fun wc=>∃ (kq:Nat) (a7:Int) (a8:Int) (uT:ByteArray),aA (uH.j0 kq bI a7 a8 uj uT (⟨#[]⟩:ByteArray) 0 0 (⟨#[]⟩:ByteArray)=some (r1,r2,r3,r4,r5,r6,r7,r8))∧aA (kq≤k)∧aA (wc.heap[a6]?=some (.cells #[ah 0,.string (⟨#[]⟩:ByteArray),.string (⟨#[]⟩:ByteArray),ah 0,ah 0,.string (⟨#[]⟩:ByteArray)] 45))∧aA (wc.heap[aa]?=some (.cells #[ah uj,.string uT,.string (⟨#[]⟩:ByteArray),ah 0,ah 0,.string (⟨#[]⟩:ByteArray)] 45))∧aA (aS w0 wc g bI a7 a8)∧aA (aV w wc g none)∧aA (Below w0.heap.size w0 wc))
 case first =>
  obtain ⟨H⟩:=d7
  by_cases co:cm=true
  rotate_left
  ·replace co:=Bool.eq_false_iff.mpr co
   subst co
   rw [if_neg iI] at H
   have H':=m_ H
   clear H
   go_wp2
   go_meet
   case rel=>exact ⟨_,(b5),(b6),(br),H',⟨kC⟩,⟨(ak kF)⟩,⟨(ak j_)⟩,⟨b_⟩,⟨pX⟩,⟨dZ⟩⟩
  subst co
  rw [if_pos rfl] at H
  obtain ⟨⟨bu,bv,bw⟩,dt,H⟩:=bd_ H
  have H':=m_ H
  clear H
  go_wp2_with (first|((with_reducible refine bT 89 ?_);refine bU (some 13) rfl rfl func89 aB rfl #[.pointer (some ⟨g,0,none⟩)] rfl aX ?_;(with_reducible refine (zy.calls g bI b5 b6 bu bv bw w0 _ b_ dZ dt.out).mono ?_);rintro e eq ⟨rfl,hi,hb,hk⟩;refine ⟨_,rfl,?_⟩;obtain ⟨kF,a9,j_,HK,HB,HI0⟩:=p_ (aV.blk hk (g':=a6) (o:=.cells #[ah 0,.string (⟨#[]⟩:ByteArray),.string (⟨#[]⟩:ByteArray),ah 0,ah 0,.string (⟨#[]⟩:ByteArray)] 45) (ak kF) a5.out (by simp)) <| p_ (Kd.bn (Kd.nN (aS.apart (show aS w0 _ g bI b5 b6 from b_) (aJ a9) (by decide)) hk (fun _ h=>h.2)) (fun _ h=>h.1)) <| p_ (aV.blk hk (g':=aa) (o:=.cells #[ah uj,.string br,.string (⟨#[]⟩:ByteArray),ah 0,ah 0,.string (⟨#[]⟩:ByteArray)] 45) (ak j_) ab.out (by simp)) <| p_ (aV.trans pX hk (.inl rfl)) <| p_ (hb) <| a_ (hi);(try clear hb);(try clear hk);(try clear hi);obtain ⟨bd,be,cg,ch⟩:=g_ aQ O1 ab Ve;have cp:=jK j_.out))
  go_meet
  case rel=>exact ⟨_,(bv),(bw),(bu),H',⟨kC⟩,⟨aT⟩,⟨aT⟩,⟨b_⟩,⟨pX⟩,⟨dZ⟩⟩
 case rest =>
 clear d7
 try clear cn
 obtain ⟨kq,a7,a8,uT,HA,EG,kF,j_,HI0,HK,HB⟩:=hcut
 cases kq with
 | zero=>exact absurd HA.out (by simp [uH.j0])
 | succ Hl =>
 obtain ⟨H⟩:=HA
 simp only [uH.j0] at H
 revert H;refine fH (fun ci H=>?_) fun ci H=>?_
 ·have cq:=fZ ci
  have cr:=f_ ci
  clear ci
  obtain ⟨⟨bx,ct,iO⟩,du,H⟩:=bd_ H
  simp only [Option.some.injEq,Prod.mk.injEq] at H
  obtain ⟨rfl,rfl,rfl,rfl,rfl,rfl,rfl,rfl⟩:=H
  have dv:=jK j_.out
  go_wp2_with (first|((with_reducible refine bT 44 ?_);refine bU (some 20) rfl rfl func44 aB rfl #[.pointer (some ⟨g,0,none⟩)] rfl aX ?_;(with_reducible refine (w_.calls g bI a7 a8 bx ct iO w0 _ b_ dZ du.out).mono ?_);rintro e ev ⟨rfl,hi,hb,hk⟩;refine ⟨_,rfl,?_⟩;obtain ⟨kF,j_,HK,HB,HI0⟩:=p_ (aV.blk hk (g':=a6) (o:=.cells #[ah 0,.string (⟨#[]⟩:ByteArray),.string (⟨#[]⟩:ByteArray),ah 0,ah 0,.string (⟨#[]⟩:ByteArray)] 45) (ak kF) a5.out (by simp)) <| p_ (aV.blk hk (g':=aa) (o:=.cells #[ah uj,.string uT,.string (⟨#[]⟩:ByteArray),ah 0,ah 0,.string (⟨#[]⟩:ByteArray)] 45) (ak j_) ab.out (by simp)) <| p_ (aV.trans pX hk (.inl rfl)) <| p_ (hb) <| a_ (hi);(try clear hb);(try clear hk);(try clear hi);have jU:=jK j_.out;obtain ⟨aq,ar⟩:=gB a5 IB;have dx:=jK kF.out))
  refine bodyPost_ret (results_cell_row rfl _ _ a6 45 #[ah uj,.string uT,.string bx,ah 0,ah 0,.string (⟨#[]⟩:ByteArray)] (0,0) _ rfl aT underlying45 rfl aB) rfl ?_
  exact ⟨bM,b_,dZ,pX⟩
 have cq:=fP ci
 have cr:=fQ ci
 revert H;refine fH (fun cj H=>?_) fun cj H=>?_
 ·have cv:=fZ cj
  have cw:=f_ cj
  clear cj
  obtain ⟨fA,aw⟩:∃ y_:List Int,y_=(([0,1,5,32,100,200]:List Int)):=⟨_,rfl⟩
  rw [← aw] at H
  have dM:=m_ aw
  clear aw
  obtain ⟨⟨al,am,an⟩,dy,H⟩:=bd_ H
  obtain ⟨bh,bH⟩:∃ y_:List Int,y_=(([0,1,10,40,128,1000]:List Int)):=⟨_,rfl⟩
  rw [← bH] at H
  have bi:=m_ bH
  clear bH
  obtain ⟨⟨bz,cx,cy⟩,dz,H⟩:=bd_ H
  simp only [Option.some.injEq,Prod.mk.injEq] at H
  obtain ⟨rfl,rfl,rfl,rfl,rfl,rfl,rfl,rfl⟩:=H
  have e0:=jK j_.out
  go_wp2_with (first|((with_reducible refine dJ 25 ?_);refine Kd.sU (Kd.int .i64) _ 3 ?hg (N:=25) ?hd (xs:=([0,1,5,32,100,200]:List Int)) (inner:=[ah 0,ah 1,ah 5,ah 32,ah 100,ah 200]) (ok:=fun _=>True) (iJ:=fun _=>True) ?hr ?hp (fun _ hk=>hk) trivial (Below.refl _ _) (Nat.le_refl _) (by simp) ?_;(case hd=>rfl);(case hg=>rfl);(case hr=>first|(go_simp;done)|(go_simp;rfl));(case hp=>exact (bD.one (show Kd.M (Kd.int .i64) _ _ _ 0 [ah 0] from rfl) (bD.one (show Kd.M (Kd.int .i64) _ _ _ 1 [ah 1] from rfl) (bD.one (show Kd.M (Kd.int .i64) _ _ _ 5 [ah 5] from rfl) (bD.one (show Kd.M (Kd.int .i64) _ _ _ 32 [ah 32] from rfl) (bD.one (show Kd.M (Kd.int .i64) _ _ _ 100 [ah 100] from rfl) (bD.one (show Kd.M (Kd.int .i64) _ _ _ 200 [ah 200] from rfl) (bD.none _ _))))))));intro ayZ ew Jm hb iV iW;clear iV iW;(first|rw [← dM.out] at Jm|(simp only [Int.reduceToNat] at Jm;rw [← dM.out] at Jm));obtain ⟨zC,kF,j_,HI0,HK,HB⟩:=p_ (Kd.dI Jm (jr (w:=w) (g:=g) (row:=none) pX)) <| p_ (bZ (ak kF) hb) <| p_ (bZ (ak j_) hb) <| p_ (aS.below b_ hb) <| p_ (aV.trans pX (aV.of_below hb g none) (.inl rfl)) <| a_ (dP dZ hb);clear hb Jm;obtain ⟨d8,d9,da⟩:=Kd.dK zC.out;subst da)|((with_reducible refine bT 92 ?_);refine bU (some 26) rfl rfl func92 aB rfl #[.pointer (some ⟨g,0,none⟩),.slice d8 fA.length d9] rfl aX ?_;(with_reducible refine (uG.calls g bI a7 a8 _ _ fA al am an w0 _ b_ dZ ?oI ((Kd.dN zC.out).2.1) (Ak (aS.own_ne HI0.out zC.out (by decide))) dy.out).mono ?_);(case oI=>repeat (first|exact (Kd.dN zC.out).2.2|(with_reducible refine Kd.jO ?_ _)|(with_reducible refine Kd.jT ?_ _)|(with_reducible refine Kd.jS ?_)));rintro e e3 ⟨rfl,hi,hb,hk⟩;refine ⟨_,rfl,?_⟩;obtain ⟨kF,j_,zC,HK,HB,HI0⟩:=p_ (aV.blk hk (g':=a6) (o:=.cells #[ah 0,.string (⟨#[]⟩:ByteArray),.string (⟨#[]⟩:ByteArray),ah 0,ah 0,.string (⟨#[]⟩:ByteArray)] 45) (ak kF) a5.out (by simp)) <| p_ (aV.blk hk (g':=aa) (o:=.cells #[ah uj,.string uT,.string (⟨#[]⟩:ByteArray),ah 0,ah 0,.string (⟨#[]⟩:ByteArray)] 45) (ak j_) ab.out (by simp)) <| p_ (Kd.bn (Kd.nN (aS.apart (show aS w0 _ g bI a7 a8 from b_) (aJ zC) (by decide)) hk (fun _ h=>h.2)) (fun _ h=>h.1)) <| p_ (aV.trans pX hk (.inl rfl)) <| p_ (hb) <| a_ (hi);(try clear hb);(try clear hk);(try clear hi);have e4:=jK j_.out)|((with_reducible refine dJ 29 ?_);refine Kd.sU (Kd.int .i64) _ 3 ?hg (N:=29) ?hd (xs:=([0,1,10,40,128,1000]:List Int)) (inner:=[ah 0,ah 1,ah 10,ah 40,ah 128,ah 1000]) (ok:=fun _=>True) (iJ:=fun _=>True) ?hr ?hp (fun _ hk=>hk) trivial (Below.refl _ _) (Nat.le_refl _) (by simp) ?_;(case hd=>rfl);(case hg=>rfl);(case hr=>first|(go_simp;done)|(go_simp;rfl));(case hp=>exact (bD.one (show Kd.M (Kd.int .i64) _ _ _ 0 [ah 0] from rfl) (bD.one (show Kd.M (Kd.int .i64) _ _ _ 1 [ah 1] from rfl) (bD.one (show Kd.M (Kd.int .i64) _ _ _ 10 [ah 10] from rfl) (bD.one (show Kd.M (Kd.int .i64) _ _ _ 40 [ah 40] from rfl) (bD.one (show Kd.M (Kd.int .i64) _ _ _ 128 [ah 128] from rfl) (bD.one (show Kd.M (Kd.int .i64) _ _ _ 1000 [ah 1000] from rfl) (bD.none _ _))))))));intro ay0 ex GZ hb iV iW;clear iV iW;(first|rw [← bi.out] at GZ|(simp only [Int.reduceToNat] at GZ;rw [← bi.out] at GZ));obtain ⟨zC,af,kF,j_,HI0,HK,HB⟩:=p_ (Kd.jX aaw (Kd.jo GZ) hb) <| p_ (Kd.dI (Kd.jY GZ (Kd.jJ aaw)) (jr (w:=w) (g:=g) (row:=none) pX)) <| p_ (bZ (g:=a6) (o:=.cells #[ah 0,.string (⟨#[]⟩:ByteArray),.string (⟨#[]⟩:ByteArray),ah 0,ah 0,.string (⟨#[]⟩:ByteArray)] 45) aT hb) <| p_ (bZ (g:=aa) (o:=.cells #[ah uj,.string uT,.string (⟨#[]⟩:ByteArray),ah al,ah 0,.string (⟨#[]⟩:ByteArray)] 45) aaK hb) <| p_ (aS.below (show aS w0 (e3.setCell ⟨aa,3,none⟩ (ah al)) g bI am an from b_) hb) <| p_ (aV.trans pX (aV.of_below hb g none) (.inl rfl)) <| a_ (dP dZ hb);clear hb GZ;obtain ⟨db,dd,de⟩:=Kd.dK af.out;subst de)|((with_reducible refine bT 92 ?_);refine bU (some 30) rfl rfl func92 aB rfl #[.pointer (some ⟨g,0,none⟩),.slice db bh.length dd] rfl aX ?_;(with_reducible refine (uG.calls g bI am an _ _ bh bz cx cy w0 _ b_ dZ ?oI ((Kd.dN af.out).2.1) (Ak (aS.own_ne HI0.out af.out (by decide))) dz.out).mono ?_);(case oI=>repeat (first|exact (Kd.dN af.out).2.2|(with_reducible refine Kd.jO ?_ _)|(with_reducible refine Kd.jT ?_ _)|(with_reducible refine Kd.jS ?_)));rintro e ey ⟨rfl,hi,hb,hk⟩;refine ⟨_,rfl,?_⟩;obtain ⟨kF,j_,zC,af,HK,HB,HI0⟩:=p_ (aV.blk hk (g':=a6) (o:=.cells #[ah 0,.string (⟨#[]⟩:ByteArray),.string (⟨#[]⟩:ByteArray),ah 0,ah 0,.string (⟨#[]⟩:ByteArray)] 45) (ak kF) a5.out (by simp)) <| p_ (aV.blk hk (g':=aa) (o:=.cells #[ah uj,.string uT,.string (⟨#[]⟩:ByteArray),ah al,ah 0,.string (⟨#[]⟩:ByteArray)] 45) (ak j_) ab.out (by simp)) <| p_ (Kd.bn (Kd.nN (aS.apart (show aS w0 _ g bI am an from b_) (aJ zC) (by decide)) hk (fun _ h=>h.2)) (fun _ h=>h.1)) <| p_ (Kd.bn (Kd.nN (aS.apart (show aS w0 _ g bI am an from b_) (aJ af) (by decide)) hk (fun _ h=>h.2)) (fun _ h=>h.1)) <| p_ (aV.trans pX hk (.inl rfl)) <| p_ (hb) <| a_ (hi);(try clear hb);(try clear hk);(try clear hi);have e5:=jK j_.out;obtain ⟨aq,ar⟩:=gB a5 IB;have e6:=jK kF.out))
  refine bodyPost_ret (results_cell_row rfl _ _ a6 45 #[ah uj,.string uT,.string (⟨#[]⟩:ByteArray),ah al,ah bz,.string (⟨#[]⟩:ByteArray)] (0,0) _ rfl aT underlying45 rfl aB) rfl ?_
  exact ⟨bM,b_,dZ,pX⟩
 have cv:=fP cj
 have cw:=fQ cj
 revert H;refine fH (fun ck H=>?_) fun ck H=>?_
 rotate_left
 ·have cz:=fP ck
  have d0:=fQ ck
  revert H;refine fH (fun cl H=>?_) fun cl H=>?_
  rotate_left
  ·have d1:=fP cl
   have d2:=fQ cl
   simp only [Option.some.injEq,Prod.mk.injEq] at H
   obtain ⟨rfl,rfl,rfl,rfl,rfl,rfl,rfl,rfl⟩:=H
   have e7:=jK j_.out
   obtain ⟨aq,ar⟩:=gB a5 IB
   have e8:=jK kF.out
   go_wp2
   refine bodyPost_ret (results_cell_row rfl _ _ a6 45 #[ah uj,.string uT,.string (⟨#[]⟩:ByteArray),ah 0,ah 0,.string (⟨#[]⟩:ByteArray)] (0,0) _ rfl aT underlying45 rfl aB) rfl ?_
   exact ⟨bM,b_,dZ,pX⟩
  have d1:=fZ cl
  have d2:=f_ cl
  clear cl
  obtain ⟨bj,az⟩:∃ y_:List Int,y_=(([0,1,5,31,32,33,64,70,128,129]:List Int)):=⟨_,rfl⟩
  rw [← az] at H
  have bl:=m_ az
  clear az
  obtain ⟨⟨ca,d3,d4⟩,e9,H⟩:=bd_ H
  simp only [Option.some.injEq,Prod.mk.injEq] at H
  obtain ⟨rfl,rfl,rfl,rfl,rfl,rfl,rfl,rfl⟩:=H
  have ea:=jK j_.out
  go_wp2_with (first|((with_reducible refine dJ 47 ?_);refine Kd.sU (Kd.int .i64) _ 3 ?hg (N:=47) ?hd (xs:=([0,1,5,31,32,33,64,70,128,129]:List Int)) (inner:=[ah 0,ah 1,ah 5,ah 31,ah 32,ah 33,ah 64,ah 70,ah 128,ah 129]) (ok:=fun _=>True) (iJ:=fun _=>True) ?hr ?hp (fun _ hk=>hk) trivial (Below.refl _ _) (Nat.le_refl _) (by simp) ?_;(case hd=>rfl);(case hg=>rfl);(case hr=>first|(go_simp;done)|(go_simp;rfl));(case hp=>exact (bD.one (show Kd.M (Kd.int .i64) _ _ _ 0 [ah 0] from rfl) (bD.one (show Kd.M (Kd.int .i64) _ _ _ 1 [ah 1] from rfl) (bD.one (show Kd.M (Kd.int .i64) _ _ _ 5 [ah 5] from rfl) (bD.one (show Kd.M (Kd.int .i64) _ _ _ 31 [ah 31] from rfl) (bD.one (show Kd.M (Kd.int .i64) _ _ _ 32 [ah 32] from rfl) (bD.one (show Kd.M (Kd.int .i64) _ _ _ 33 [ah 33] from rfl) (bD.one (show Kd.M (Kd.int .i64) _ _ _ 64 [ah 64] from rfl) (bD.one (show Kd.M (Kd.int .i64) _ _ _ 70 [ah 70] from rfl) (bD.one (show Kd.M (Kd.int .i64) _ _ _ 128 [ah 128] from rfl) (bD.one (show Kd.M (Kd.int .i64) _ _ _ 129 [ah 129] from rfl) (bD.none _ _))))))))))));intro ay3 ez Js hb iV iW;clear iV iW;(first|rw [← bl.out] at Js|(simp only [Int.reduceToNat] at Js;rw [← bl.out] at Js));obtain ⟨ag,kF,j_,HI0,HK,HB⟩:=p_ (Kd.dI Js (jr (w:=w) (g:=g) (row:=none) pX)) <| p_ (bZ (ak kF) hb) <| p_ (bZ (ak j_) hb) <| p_ (aS.below b_ hb) <| p_ (aV.trans pX (aV.of_below hb g none) (.inl rfl)) <| a_ (dP dZ hb);clear hb Js;obtain ⟨df,dg,lN⟩:=Kd.dK ag.out;subst lN)|((with_reducible refine bT 92 ?_);refine bU (some 48) rfl rfl func92 aB rfl #[.pointer (some ⟨g,0,none⟩),.slice df bj.length dg] rfl aX ?_;(with_reducible refine (uG.calls g bI a7 a8 _ _ bj ca d3 d4 w0 _ b_ dZ ?oI ((Kd.dN ag.out).2.1) (Ak (aS.own_ne HI0.out ag.out (by decide))) e9.out).mono ?_);(case oI=>repeat (first|exact (Kd.dN ag.out).2.2|(with_reducible refine Kd.jO ?_ _)|(with_reducible refine Kd.jT ?_ _)|(with_reducible refine Kd.jS ?_)));rintro e f7 ⟨rfl,hi,hb,hk⟩;refine ⟨_,rfl,?_⟩;obtain ⟨kF,j_,ag,HK,HB,HI0⟩:=p_ (aV.blk hk (g':=a6) (o:=.cells #[ah 0,.string (⟨#[]⟩:ByteArray),.string (⟨#[]⟩:ByteArray),ah 0,ah 0,.string (⟨#[]⟩:ByteArray)] 45) (ak kF) a5.out (by simp)) <| p_ (aV.blk hk (g':=aa) (o:=.cells #[ah uj,.string uT,.string (⟨#[]⟩:ByteArray),ah 0,ah 0,.string (⟨#[]⟩:ByteArray)] 45) (ak j_) ab.out (by simp)) <| p_ (Kd.bn (Kd.nN (aS.apart (show aS w0 _ g bI a7 a8 from b_) (aJ ag) (by decide)) hk (fun _ h=>h.2)) (fun _ h=>h.1)) <| p_ (aV.trans pX hk (.inl rfl)) <| p_ (hb) <| a_ (hi);(try clear hb);(try clear hk);(try clear hi);have eb:=jK j_.out;obtain ⟨aq,ar⟩:=gB a5 IB;have ec:=jK kF.out))
  refine bodyPost_ret (results_cell_row rfl _ _ a6 45 #[ah uj,.string uT,.string (⟨#[]⟩:ByteArray),ah 0,ah ca,.string (⟨#[]⟩:ByteArray)] (0,0) _ rfl aT underlying45 rfl aB) rfl ?_
  exact ⟨bM,b_,dZ,pX⟩
 have cz:=fZ ck
 have d0:=f_ ck
 clear ck
 obtain ⟨bm,b1⟩:∃ y_:List Int,y_=(([0,0,0,1,5,30,32,33,64,100]:List Int)):=⟨_,rfl⟩
 rw [← b1] at H
 have fB:=m_ b1
 clear b1
 obtain ⟨⟨aN,ao,ap⟩,ed,H⟩:=bd_ H
 obtain ⟨bo,b3⟩:∃ y_:List Int,y_=(([0,1,2,5,20,32,40]:List Int)):=⟨_,rfl⟩
 rw [← b3] at H
 have bp:=m_ b3
 clear b3
 obtain ⟨⟨bq,b7,b8⟩,ee,H⟩:=bd_ H
 obtain ⟨⟨cc,d5,d6⟩,ef,H⟩:=bd_ H
 simp only [Option.some.injEq,Prod.mk.injEq] at H
 obtain ⟨rfl,rfl,rfl,rfl,rfl,rfl,rfl,rfl⟩:=H
 have eh:=jK j_.out
 go_wp2_with (first|((with_reducible refine dJ 35 ?_);refine Kd.sU (Kd.int .i64) _ 3 ?hg (N:=35) ?hd (xs:=([0,0,0,1,5,30,32,33,64,100]:List Int)) (inner:=[ah 0,ah 0,ah 0,ah 1,ah 5,ah 30,ah 32,ah 33,ah 64,ah 100]) (ok:=fun _=>True) (iJ:=fun _=>True) ?hr ?hp (fun _ hk=>hk) trivial (Below.refl _ _) (Nat.le_refl _) (by simp) ?_;(case hd=>rfl);(case hg=>rfl);(case hr=>first|(go_simp;done)|(go_simp;rfl));(case hp=>exact (bD.one (show Kd.M (Kd.int .i64) _ _ _ 0 [ah 0] from rfl) (bD.one (show Kd.M (Kd.int .i64) _ _ _ 0 [ah 0] from rfl) (bD.one (show Kd.M (Kd.int .i64) _ _ _ 0 [ah 0] from rfl) (bD.one (show Kd.M (Kd.int .i64) _ _ _ 1 [ah 1] from rfl) (bD.one (show Kd.M (Kd.int .i64) _ _ _ 5 [ah 5] from rfl) (bD.one (show Kd.M (Kd.int .i64) _ _ _ 30 [ah 30] from rfl) (bD.one (show Kd.M (Kd.int .i64) _ _ _ 32 [ah 32] from rfl) (bD.one (show Kd.M (Kd.int .i64) _ _ _ 33 [ah 33] from rfl) (bD.one (show Kd.M (Kd.int .i64) _ _ _ 64 [ah 64] from rfl) (bD.one (show Kd.M (Kd.int .i64) _ _ _ 100 [ah 100] from rfl) (bD.none _ _))))))))))));intro ay1 f8 Jr hb iV iW;clear iV iW;(first|rw [← fB.out] at Jr|(simp only [Int.reduceToNat] at Jr;rw [← fB.out] at Jr));obtain ⟨x8,kF,j_,HI0,HK,HB⟩:=p_ (Kd.dI Jr (jr (w:=w) (g:=g) (row:=none) pX)) <| p_ (bZ (ak kF) hb) <| p_ (bZ (ak j_) hb) <| p_ (aS.below b_ hb) <| p_ (aV.trans pX (aV.of_below hb g none) (.inl rfl)) <| a_ (dP dZ hb);clear hb Jr;obtain ⟨di,dj,dk⟩:=Kd.dK x8.out;subst dk)|((with_reducible refine bT 92 ?_);refine bU (some 36) rfl rfl func92 aB rfl #[.pointer (some ⟨g,0,none⟩),.slice di bm.length dj] rfl aX ?_;(with_reducible refine (uG.calls g bI a7 a8 _ _ bm aN ao ap w0 _ b_ dZ ?oI ((Kd.dN x8.out).2.1) (Ak (aS.own_ne HI0.out x8.out (by decide))) ed.out).mono ?_);(case oI=>repeat (first|exact (Kd.dN x8.out).2.2|(with_reducible refine Kd.jO ?_ _)|(with_reducible refine Kd.jT ?_ _)|(with_reducible refine Kd.jS ?_)));rintro e ei ⟨rfl,hi,hb,hk⟩;refine ⟨_,rfl,?_⟩;obtain ⟨kF,j_,x8,HK,HB,HI0⟩:=p_ (aV.blk hk (g':=a6) (o:=.cells #[ah 0,.string (⟨#[]⟩:ByteArray),.string (⟨#[]⟩:ByteArray),ah 0,ah 0,.string (⟨#[]⟩:ByteArray)] 45) (ak kF) a5.out (by simp)) <| p_ (aV.blk hk (g':=aa) (o:=.cells #[ah uj,.string uT,.string (⟨#[]⟩:ByteArray),ah 0,ah 0,.string (⟨#[]⟩:ByteArray)] 45) (ak j_) ab.out (by simp)) <| p_ (Kd.bn (Kd.nN (aS.apart (show aS w0 _ g bI a7 a8 from b_) (aJ x8) (by decide)) hk (fun _ h=>h.2)) (fun _ h=>h.1)) <| p_ (aV.trans pX hk (.inl rfl)) <| p_ (hb) <| a_ (hi);(try clear hb);(try clear hk);(try clear hi);have ej:=jK j_.out)|((with_reducible refine dJ 40 ?_);refine Kd.sU (Kd.int .i64) _ 3 ?hg (N:=40) ?hd (xs:=([0,1,2,5,20,32,40]:List Int)) (inner:=[ah 0,ah 1,ah 2,ah 5,ah 20,ah 32,ah 40]) (ok:=fun _=>True) (iJ:=fun _=>True) ?hr ?hp (fun _ hk=>hk) trivial (Below.refl _ _) (Nat.le_refl _) (by simp) ?_;(case hd=>rfl);(case hg=>rfl);(case hr=>first|(go_simp;done)|(go_simp;rfl));(case hp=>exact (bD.one (show Kd.M (Kd.int .i64) _ _ _ 0 [ah 0] from rfl) (bD.one (show Kd.M (Kd.int .i64) _ _ _ 1 [ah 1] from rfl) (bD.one (show Kd.M (Kd.int .i64) _ _ _ 2 [ah 2] from rfl) (bD.one (show Kd.M (Kd.int .i64) _ _ _ 5 [ah 5] from rfl) (bD.one (show Kd.M (Kd.int .i64) _ _ _ 20 [ah 20] from rfl) (bD.one (show Kd.M (Kd.int .i64) _ _ _ 32 [ah 32] from rfl) (bD.one (show Kd.M (Kd.int .i64) _ _ _ 40 [ah 40] from rfl) (bD.none _ _)))))))));intro ay2 fa sH hb iV iW;clear iV iW;(first|rw [← bp.out] at sH|(simp only [Int.reduceToNat] at sH;rw [← bp.out] at sH));obtain ⟨x8,ac,kF,j_,HI0,HK,HB⟩:=p_ (Kd.jX aav (Kd.jo sH) hb) <| p_ (Kd.dI (Kd.jY sH (Kd.jJ aav)) (jr (w:=w) (g:=g) (row:=none) pX)) <| p_ (bZ (g:=a6) (o:=.cells #[ah 0,.string (⟨#[]⟩:ByteArray),.string (⟨#[]⟩:ByteArray),ah 0,ah 0,.string (⟨#[]⟩:ByteArray)] 45) aT hb) <| p_ (bZ (g:=aa) (o:=.cells #[ah uj,.string uT,.string (⟨#[]⟩:ByteArray),ah aN,ah 0,.string (⟨#[]⟩:ByteArray)] 45) aaK hb) <| p_ (aS.below (show aS w0 (ei.setCell ⟨aa,3,none⟩ (ah aN)) g bI ao ap from b_) hb) <| p_ (aV.trans pX (aV.of_below hb g none) (.inl rfl)) <| a_ (dP dZ hb);clear hb sH;obtain ⟨dl,dm,lF⟩:=Kd.dK ac.out;subst lF)|((with_reducible refine bT 92 ?_);refine bU (some 41) rfl rfl func92 aB rfl #[.pointer (some ⟨g,0,none⟩),.slice dl bo.length dm] rfl aX ?_;(with_reducible refine (uG.calls g bI ao ap _ _ bo bq b7 b8 w0 _ b_ dZ ?oI ((Kd.dN ac.out).2.1) (Ak (aS.own_ne HI0.out ac.out (by decide))) ee.out).mono ?_);(case oI=>repeat (first|exact (Kd.dN ac.out).2.2|(with_reducible refine Kd.jO ?_ _)|(with_reducible refine Kd.jT ?_ _)|(with_reducible refine Kd.jS ?_)));rintro e fb ⟨rfl,hi,hb,hk⟩;refine ⟨_,rfl,?_⟩;obtain ⟨kF,j_,x8,ac,HK,HB,HI0⟩:=p_ (aV.blk hk (g':=a6) (o:=.cells #[ah 0,.string (⟨#[]⟩:ByteArray),.string (⟨#[]⟩:ByteArray),ah 0,ah 0,.string (⟨#[]⟩:ByteArray)] 45) (ak kF) a5.out (by simp)) <| p_ (aV.blk hk (g':=aa) (o:=.cells #[ah uj,.string uT,.string (⟨#[]⟩:ByteArray),ah aN,ah 0,.string (⟨#[]⟩:ByteArray)] 45) (ak j_) ab.out (by simp)) <| p_ (Kd.bn (Kd.nN (aS.apart (show aS w0 _ g bI ao ap from b_) (aJ x8) (by decide)) hk (fun _ h=>h.2)) (fun _ h=>h.1)) <| p_ (Kd.bn (Kd.nN (aS.apart (show aS w0 _ g bI ao ap from b_) (aJ ac) (by decide)) hk (fun _ h=>h.2)) (fun _ h=>h.1)) <| p_ (aV.trans pX hk (.inl rfl)) <| p_ (hb) <| a_ (hi);(try clear hb);(try clear hk);(try clear hi))|((with_reducible refine bT 147 ?_);refine bU (some 42) rfl rfl func147 aB rfl #[.pointer (some ⟨g,0,none⟩),ah bq] rfl aX ?_;(with_reducible refine (r_.calls Hl g bI b7 b8 bq cc d5 d6 w0 _ b_ dZ ef.out).mono ?_);rintro e fc ⟨rfl,hi,hb,hk⟩;refine ⟨_,rfl,?_⟩;obtain ⟨kF,j_,x8,ac,HK,HB,HI0⟩:=p_ (aV.blk hk (g':=a6) (o:=.cells #[ah 0,.string (⟨#[]⟩:ByteArray),.string (⟨#[]⟩:ByteArray),ah 0,ah 0,.string (⟨#[]⟩:ByteArray)] 45) (ak kF) a5.out (by simp)) <| p_ (aV.blk hk (g':=aa) (o:=.cells #[ah uj,.string uT,.string (⟨#[]⟩:ByteArray),ah aN,ah 0,.string (⟨#[]⟩:ByteArray)] 45) (ak j_) ab.out (by simp)) <| p_ (Kd.bn (Kd.nN (aS.apart (show aS w0 _ g bI b7 b8 from b_) (aJ x8) (by decide)) hk (fun _ h=>h.2)) (fun _ h=>h.1)) <| p_ (Kd.bn (Kd.nN (aS.apart (show aS w0 _ g bI b7 b8 from b_) (aJ ac) (by decide)) hk (fun _ h=>h.2)) (fun _ h=>h.1)) <| p_ (aV.trans pX hk (.inl rfl)) <| p_ (hb) <| a_ (hi);(try clear hb);(try clear hk);(try clear hi);have ek:=jK j_.out;obtain ⟨aq,ar⟩:=gB a5 IB;have el:=jK kF.out))
 refine bodyPost_ret (results_cell_row rfl _ _ a6 45 #[ah uj,.string uT,.string (⟨#[]⟩:ByteArray),ah aN,ah 0,.string cc] (0,0) _ rfl aT underlying45 rfl aB) rfl ?_
 exact ⟨bM,b_,dZ,pX⟩

def qQ.l0:Nat→Int→List Int→Int→Int→Int→Int→Int→Int→List (aF)→Option ((List (aF)) × Int × Int)
 | 0,_,_,_,_,_,_,_,_,_=>none
 | k+1,x6,ac,af,ag,a7,a8,a9,aa,ab=>(pF.f ac af ag 12).bind fun a6=>(if x6 < a6.1 then ((uH.f k ac a6.2.1 a6.2.2).bind fun a5=>((nK.f k a7 a8 a9 aa ab a5.1 a5.2.1 a5.2.2.1 a5.2.2.2.1 a5.2.2.2.2.1 a5.2.2.2.2.2.1).bind fun ae=>(qQ.l0 k (wrap64 (x6+1)) ac a5.2.2.2.2.2.2.1 a5.2.2.2.2.2.2.2 a7 a8 a9 aa ae.1))) else (some (ab,a6.2.1,a6.2.2)))
def qQ.f (k:Nat) (bI:List Int) (eG:Int) (eH:Int) (a5:Int) (a6:Int) (a7:Int) (a8:Int):Option ((List (aF)) × Int × Int):=qQ.l0 k 0 bI eG eH a5 a6 a7 a8 ([]:List (aF))
def qQ.T5:Bool × List (List Nat × List Nat):=(true,[([],[]),([],[]),([],[]),([2],[2]),([0,1,3,3],[0,1,3]),([4],[4]),([5],[5]),([5],[5]),([6,4,0,1,2,3,4,5,6],[6])])
def qQ.B5:List Nat:=[0,0,0,4,15,31,63,63,127]
theorem qQ.calls (k:Nat) (g:Nat) (bI:List Int) (eG:Int) (eH:Int) (fG:Int) (fE:Int) (fC:Int) (am:Int) (r1:List (aF)) (r2:Int) (r3:Int) (w0 w:World) (hI:aS w0 w g bI eG eH) (hB:Below w0.heap.size w0 w) (h:qQ.f k bI eG eH fG fE fC am=some (r1,r2,r3)) :
  Calls Tryz.prog 88 #[.pointer (some ⟨g,0,none⟩),.agg #[ah fG,ah fE,ah fC,ah am]] w fun e w'=>∃ eP:Value,e=.returned (.agg #[eP])∧Kd.R aU 43 w' w.heap.size (fun _=>True) eP r1∧aS w0 w' g bI r2 r3∧Below w0.heap.size w0 w'∧aV w w' g none:=by
 have Bq:=underlying25
 have mF:=underlying28
 have HI0:=m_ hI
 have HK:=m_ (aV.refl w g none)
 have HL:=m_ hB.size
 clear hI
 have HW0:=m_ hB.size
 have HB:=m_ hB
 clear hB
 unfold qQ.f at h
 have H:=h
 clear h
 have H':=m_ H
 clear H
 go_enter func88,ntmps88
 go_wp2_with (first|((with_reducible refine dJ 3 ?_);refine dO 3 (cs:=#[ah fG,ah fE,ah fC,ah am]) 25 ?_;intro aa hg w3 hbox hb;have gy:=p_ (aS.below b_ hb) <| p_ (aV.trans jv (aV.of_below hb g none) (.inl rfl)) <| p_ (dP dZ hb) <| p_ (hbox) <| p_ ((by rw [hg];exact (jr (w:=w) (g:=g) (row:=none) jv):w.heap.size≤aa)) <| p_ ((Nat.le_trans HW0.out (by rw [hg];exact (jr (w:=w) (g:=g) (row:=none) jv):w.heap.size≤aa):w0.heap.size≤aa)) <| p_ ((by rw [hg];exact Nat.ne_of_lt (aS.lt (show aS w0 _ g bI eG eH from b_)):g≠aa)) <| a_ ((by rw [hg];exact Nat.ne_of_gt (aS.lt (show aS w0 _ g bI eG eH from b_)):aa≠g));clear HI0 HK HB;obtain ⟨HI0,HK,HB,a6,OA,UW,alP,an⟩:=gy;clear hb hbox hg)|((with_reducible refine dJ 4 ?_);refine dO 4 (cs:=#[.slice none 0 0]) 28 ?_;intro ac hg w4 hbox hb;have gy:=p_ (aS.below b_ hb) <| p_ (bZ (ak a6) hb) <| p_ (aV.trans Uu (aV.of_below hb g none) (.inl rfl)) <| p_ (dP (by repeat (first|(with_reducible first|exact HB.out|apply mY|apply qN|apply lC|refine iF ?_ (aS.ge HI0.out)|refine iF ?_ UW.out)|exact HB.out)) hb) <| p_ (hbox) <| p_ ((by rw [hg];exact (jr (w:=w) (g:=g) (row:=none) Uu):w.heap.size≤ac)) <| p_ ((Nat.le_trans HW0.out (by rw [hg];exact (jr (w:=w) (g:=g) (row:=none) Uu):w.heap.size≤ac):w0.heap.size≤ac)) <| p_ (lV hg (gu (ak a6))) <| p_ (lQ hg (gu (ak a6))) <| p_ ((by rw [hg];exact Nat.ne_of_lt (aS.lt (show aS w0 _ g bI eG eH from b_)):g≠ac)) <| a_ ((by rw [hg];exact Nat.ne_of_gt (aS.lt (show aS w0 _ g bI eG eH from b_)):ac≠g));clear HI0 a6 HK HB;obtain ⟨HI0,a6,HK,HB,a8,UZ,abq,ao,ap,abH,aK⟩:=gy;clear hb hbox hg)|((with_reducible refine dJ 5 ?_);refine dO 5 (cs:=#[.slice none 0 0]) 28 ?_;intro ab hg w5 hbox hb;have gy:=p_ (aS.below b_ hb) <| p_ (bZ (ak a6) hb) <| p_ (bZ (ak a8) hb) <| p_ (aV.trans Ur (aV.of_below hb g none) (.inl rfl)) <| p_ (dP (by repeat (first|(with_reducible first|exact HB.out|apply mY|apply qN|apply lC|refine iF ?_ (aS.ge HI0.out)|refine iF ?_ UW.out|refine iF ?_ abq.out)|exact HB.out)) hb) <| p_ (hbox) <| p_ ((by rw [hg];exact (jr (w:=w) (g:=g) (row:=none) Ur):w.heap.size≤ab)) <| p_ ((Nat.le_trans HW0.out (by rw [hg];exact (jr (w:=w) (g:=g) (row:=none) Ur):w.heap.size≤ab):w0.heap.size≤ab)) <| p_ (lV hg (gu (ak a6))) <| p_ (lQ hg (gu (ak a6))) <| p_ (lV hg (gu (ak a8))) <| p_ (lQ hg (gu (ak a8))) <| p_ ((by rw [hg];exact Nat.ne_of_lt (aS.lt (show aS w0 _ g bI eG eH from b_)):g≠ab)) <| a_ ((by rw [hg];exact Nat.ne_of_gt (aS.lt (show aS w0 _ g bI eG eH from b_)):ab≠g));clear HI0 a6 a8 HK HB;obtain ⟨HI0,a6,a8,HK,HB,a7,abt,alo,ai,aN,aQ,al,Vd,ag⟩:=gy;clear hb hbox hg;obtain ⟨aq,ar,aW,av,b8,b9⟩:=kJ aN ai al aQ ag Vd;have Ey:=dh a7.out))
 go_loopg [6] k (fun kq v6 w'=>∃ (bH:Int) (ae:Int) (af:Int) (a9:List (aF)) (Eo:Value),v6=ah bH∧aA (qQ.l0 kq bH bI ae af fG fE fC am a9=some (r1,r2,r3))∧aA (kq≤k)∧aA (Kd.R aU 43 w' w.heap.size (fun _=>True) Eo a9)∧aA (w'.heap[aa]?=some (.cells #[ah fG,ah fE,ah fC,ah am] 25))∧aA (w'.heap[ac]?=some (.cells #[(.slice none 0 0)] 28))∧aA (w'.heap[ab]?=some (.cells #[Eo] 28))∧aA (aS w0 w' g bI ae af)∧aA (aV w w' g none)∧aA (Below w0.heap.size w0 w'))
 case atStart=>exact ⟨(0),(eG),(eH),(([]:List (aF))),(.slice none 0 0),bg,H',⟨Nat.le_refl _⟩,⟨kD⟩,⟨aT⟩,⟨aT⟩,⟨aT⟩,⟨b_⟩,⟨AV⟩,⟨dZ⟩⟩
 case round =>
 clear H'
 try clear Ey
 obtain ⟨bH,ae,af,a9,Eo,rfl,HA,gZ,a5,a6,a8,a7,HI0,HK,HB⟩:=hrel
 cases gk with
 | zero=>exact absurd HA.out (by simp [qQ.l0])
 | succ k1 =>
 obtain ⟨H⟩:=HA
 simp only [qQ.l0] at H
 obtain ⟨⟨az,aw,ax⟩,ca,H⟩:=bd_ H
 revert H;refine gJ (fun fA H=>?_) fun fA H=>?_
 rotate_left
 ·simp only [Option.some.injEq,Prod.mk.injEq] at H
  obtain ⟨rfl,rfl,rfl⟩:=H
  go_wp2_with (first|((with_reducible refine bT 87 ?_);refine bU (some 10) rfl rfl func87 aB rfl #[.pointer (some ⟨g,0,none⟩),ah 12] rfl aX ?_;(with_reducible refine (pF.calls g bI ae af 12 az aw ax w0 _ b_ dZ ca.out).mono ?_);rintro e cg ⟨rfl,hi,hb,hk⟩;refine ⟨_,rfl,?_⟩;obtain ⟨a5,a6,a8,a7,HK,HB,HI0⟩:=p_ (Kd.bn (Kd.nN (aS.apart (show aS w0 _ g bI ae af from b_) (aJ a5) (by decide)) hk (fun _ h=>h.2)) (fun _ h=>h.1)) <| p_ (aV.blk hk (g':=aa) (o:=.cells #[ah fG,ah fE,ah fC,ah am] 25) (ak a6) an.out (by simp)) <| p_ (aV.blk hk (g':=ac) (o:=.cells #[.slice none 0 0] 28) (ak a8) aK.out (by simp)) <| p_ (aV.blk hk (g':=ab) (o:=.cells #[Eo] 28) (ak a7) ag.out (by simp)) <| p_ (aV.trans AV hk (.inl rfl)) <| p_ (hb) <| a_ (hi);(try clear hb);(try clear hk);(try clear hi);obtain ⟨aq,ar,aW,av,b8,b9⟩:=kJ aN ai al aQ ag Vd;have UJ:=dh a7.out;obtain ⟨bs,bu,bv⟩:=Kd.dK a5.out;subst bv;obtain ⟨bc,bd,bq,br⟩:=g_ ap ao aK abH;have aA7:=dh a8.out))
  refine bodyPost_ret (results_cell_row rfl _ _ ac 28 #[.slice bs a9.length bu] (0,0) _ rfl aT underlying28 rfl aB) rfl ?_
  exact ⟨_,bM,(by (with_reducible repeat (first|apply Kd.dB|apply Kd.dD|apply Kd.aZ));exact Kd.bn (aH (Kd.bQ a5.out a8.out (by decide))) (fun _ hk=>trivial)),b_,dZ,AV⟩
 obtain ⟨⟨b0,b1,b2,b3,b4,b5,ba,bb⟩,cc,H⟩:=bd_ H
 obtain ⟨⟨b6,dM,bh,bi,bj,bl⟩,cd,H⟩:=bd_ H
 have H':=m_ H
 clear H
 try go_wp2_with (first|((with_reducible refine bT 87 ?_);refine bU (some 10) rfl rfl func87 aB rfl #[.pointer (some ⟨g,0,none⟩),ah 12] rfl aX ?_;(with_reducible refine (pF.calls g bI ae af 12 az aw ax w0 _ b_ dZ ca.out).mono ?_);rintro e ce ⟨rfl,hi,hb,hk⟩;refine ⟨_,rfl,?_⟩;obtain ⟨a5,a6,a8,a7,HK,HB,HI0⟩:=p_ (Kd.bn (Kd.nN (aS.apart (show aS w0 _ g bI ae af from b_) (aJ a5) (by decide)) hk (fun _ h=>h.2)) (fun _ h=>h.1)) <| p_ (aV.blk hk (g':=aa) (o:=.cells #[ah fG,ah fE,ah fC,ah am] 25) (ak a6) an.out (by simp)) <| p_ (aV.blk hk (g':=ac) (o:=.cells #[.slice none 0 0] 28) (ak a8) aK.out (by simp)) <| p_ (aV.blk hk (g':=ab) (o:=.cells #[Eo] 28) (ak a7) ag.out (by simp)) <| p_ (aV.trans AV hk (.inl rfl)) <| p_ (hb) <| a_ (hi);(try clear hb);(try clear hk);(try clear hi)))
 obtain ⟨a5,a6,a8,a7,HI0,HK,HB⟩:=p_ (Kd.aZ a5.out) <| p_ (iD a6.out) <| p_ (iD a8.out) <| p_ (iD a7.out) <| p_ (aS.drew HI0.out) <| p_ (wY HK.out) <| a_ (lC HB.out)
 refine iT (n:=9) (S:=fun w'=>sF w' aa (ah fG) (ah fE) (ah fC) (ah am) <| aa3 w' ab (Eo)) (ds:=[8]) EP aB rfl rfl (mV a6.out ((aP a7.out 0).trans rfl)) (fun hH=>?_);refine kE (T:=qQ.T5) (B:=qQ.B5) aB aB (fun aO fJ=>?_)
 generalize ce.drew=ch at a5 a6 a8 a7 HI0 HK HB hH ⊢
 refine bV 2 ?_
 refine lg 0 hH ?_
 refine jZ 1 16 #[aj,aj,aj,F_,F_,F_,F_,F_,F_] aO fJ hH ?_
 refine oZ 3 (fun K hK=>?_)
 refine i_ func131 aB rfl #[.pointer (some ⟨g,0,none⟩)] (by rfl) rfl rfl aX ?_
 with_reducible refine (uH.calls k1 g bI aw ax b0 b1 b2 b3 b4 b5 ba bb w0 _ b_ dZ cc.out).mono ?_
 rintro e ci ⟨rfl,hi,hb,hk⟩
 refine ⟨_,rfl,?_⟩
 obtain ⟨a5,a6,a8,a7,HK,HB,HI0⟩:=p_ (Kd.bn (Kd.nN (aS.apart (show aS w0 _ g bI aw ax from b_) (aJ a5) (by decide)) hk (fun _ h=>h.2)) (fun _ h=>h.1)) <| p_ (aV.blk hk (g':=aa) (o:=.cells #[ah fG,ah fE,ah fC,ah am] 25) (ak a6) an.out (by simp)) <| p_ (aV.blk hk (g':=ac) (o:=.cells #[.slice none 0 0] 28) (ak a8) aK.out (by simp)) <| p_ (aV.blk hk (g':=ab) (o:=.cells #[Eo] 28) (ak a7) ag.out (by simp)) <| p_ (aV.trans AV hk (.inl rfl)) <| p_ (hb) <| a_ (hi)
 (try clear hb)
 (try clear hk)
 (try clear hi)
 obtain ⟨bm,fB,bo⟩:=Kd.dK a5.out
 (first|subst bo|(injection bo with dV gU dW;have gV:=dV.symm;have gW:=dW.symm;clear dV gU dW;subst gV;subst gW))
 refine hK.out _ _ (mV a6.out ((aP a7.out 0).trans rfl)) (fun hH=>?_)
 clear hK K
 refine eX (some 18) ?_
 refine oZ 4 (fun K hK=>?_)
 refine i_ func29 aB rfl #[.agg #[ah fG,ah fE,ah fC,ah am],.agg #[.slice bm a9.length fB],.agg #[ah b0,.string b1,.string b2,ah b3,ah b4,.string b5]] (by rfl) rfl rfl aX ?_
 with_reducible refine (nK.calls k1 fG fE fC am _ _ a9 b0 b1 b2 b3 b4 b5 b6 dM bh bi bj bl _ ?kX ((Kd.dN a5.out).2.1) cd.out).mono ?_
 (case kX=>repeat (first|exact (Kd.dN a5.out).2.2|(with_reducible refine Kd.jO ?_ _)|(with_reducible refine Kd.jT ?_ _)|(with_reducible refine Kd.jS ?_)))
 rintro e cf ⟨ay4,ay5,rfl,ho0,ho1,hb⟩
 refine ⟨_,rfl,?_⟩
 obtain ⟨a5,b7,bw,a6,a8,a7,HI0,HK,HB⟩:=p_ (Kd.jX (aJ a5) (Kd.jo ho0) hb) <| p_ (Kd.dI (Kd.jY ho0 (Kd.jJ (aJ a5))) (jr (w:=w) (g:=g) (row:=none) AV)) <| p_ (Kd.dI ho1 (jr (w:=w) (g:=g) (row:=none) AV)) <| p_ (bZ (ak a6) hb) <| p_ (bZ (ak a8) hb) <| p_ (bZ (ak a7) hb) <| p_ (aS.below b_ hb) <| p_ (aV.trans AV (aV.of_below hb g none) (.inl rfl)) <| a_ (dP dZ hb)
 (try clear hb)
 (try clear ho0)
 (try clear ho1)
 obtain ⟨bx,bz,bp⟩:=Kd.dK b7.out
 (first|subst bp|(injection bp with dV gU dW;have gV:=dV.symm;have gW:=dW.symm;clear dV gU dW;subst gV;subst gW))
 refine hK.out _ _ (mV a6.out ((aP a7.out 0).trans rfl)) (fun hH=>?_)
 clear hK K
 refine eX (some 19) ?_
 refine bV 5 ?_
 refine bV 6 ?_
 refine bV 7 ?_
 refine xQ 8 (fun K hK=>?_)
 have axg:cf.cell? ⟨ab,0,none⟩=some (.slice bm a9.length fB):=(aP a7.out 0).trans rfl
 have aqD:=bP a7.out 0
 refine iM (w1:=?_) (by rfl) rfl ?_ ?_
 rotate_left
 ·go_simp
  rfl
 refine hK.out _ _ ?_
 clear hK K
 refine iP (ku aO.out aB) ?_
 try go_wp2
 go_roundg k1
 case measure=>have:=gZ.out;omega
 case rel=>exact ⟨(wrap64 (bH+1)),(ba),(bb),(b6),(.slice bx b6.length bz),bg,H',⟨ou⟩,⟨(by (with_reducible repeat (first|apply Kd.dB|apply Kd.dD|apply Kd.aZ));exact Kd.bn (aH (Kd.bQ b7.out a7.out (by decide))) (fun _ hk=>trivial))⟩,⟨aT⟩,⟨aT⟩,⟨aT⟩,⟨b_⟩,⟨AV⟩,⟨dZ⟩⟩

def wJ.f (k:Nat) (bI:List Int) (eG:Int) (eH:Int) (af:Int) (ag:Int) (aK:Int) (ai:Int):Option ((List (aF)) × Int × Int):=(qQ.f k bI eG eH af ag aK ai).bind fun a6=>((pF.f bI a6.2.1 a6.2.2 10).bind fun a5=>(if a5.1=0 then ((zy.f bI a5.2.1 a5.2.2).bind fun a7=>((yH.f bI a7.2.1 a7.2.2 2).bind fun a8=>(if a6.1.length < 3518437208883 then (some ((a6.1++[(⟨a7.1,a8.1,(⟨#[]⟩:ByteArray)⟩:aF)]),a8.2.1,a8.2.2)) else (none)))) else (if a5.1=1 then ((w_.f bI a5.2.1 a5.2.2).bind fun a9=>((uG.f bI a9.2.1 a9.2.2 (([128,129,33]:List Int))).bind fun aa=>((sK.f k aa.1 97).bind fun ab=>((jd.f k a6.1 a9.1 false ab).bind fun ac=>(some (ac,aa.2.1,aa.2.2)))))) else (if a5.1=2 then ((qP.f k a6.1 (⟨#[47,97]⟩:ByteArray)).bind fun ae=>(some (ae,a5.2.1,a5.2.2))) else (some (a6.1,a5.2.1,a5.2.2))))))
def wJ.T4:Bool × List (List Nat × List Nat):=(true,[([],[]),([0],[0]),([],[]),([2],[2]),([],[]),([4,3],[4]),([3,5],[3,5]),([6],[6]),([1,7,5],[1,7]),([0,1,2,3,4,5,6,7,8],[]),([9,8,8,0,1,2,3,4,5,6,7,8],[8,9])])
def wJ.B4:List Nat:=[0,1,0,4,0,28,60,124,255,511,1023]
def wJ.T6:Bool × List (List Nat × List Nat):=(true,[([],[]),([],[]),([1],[1]),([],[]),([],[]),([3,4,2],[3,4]),([5,5],[5]),([2,6],[2,6]),([0,7,6],[0,7]),([8,8,0,1,2,3,4,5,6,7,8],[8])])
def wJ.B6:List Nat:=[0,0,2,0,0,30,62,126,255,511]
theorem wJ.calls (k:Nat) (g:Nat) (bI:List Int) (eG:Int) (eH:Int) (fG:Int) (fE:Int) (fC:Int) (aQ:Int) (r1:List (aF)) (r2:Int) (r3:Int) (w0 w:World) (hI:aS w0 w g bI eG eH) (hB:Below w0.heap.size w0 w) (h:wJ.f k bI eG eH fG fE fC aQ=some (r1,r2,r3)) :
  Calls Tryz.prog 41 #[.pointer (some ⟨g,0,none⟩),.agg #[ah fG,ah fE,ah fC,ah aQ]] w fun e w'=>∃ eP:Value,e=.returned (.agg #[eP])∧Kd.R aU 43 w' w.heap.size (fun _=>True) eP r1∧aS w0 w' g bI r2 r3∧Below w0.heap.size w0 w'∧aV w w' g none:=by
 have Bq:=underlying25
 have mF:=underlying28
 have uf:=underlying43
 have HI0:=m_ hI
 have HK:=m_ (aV.refl w g none)
 have HL:=m_ hB.size
 clear hI
 have HW0:=m_ hB.size
 have HB:=m_ hB
 clear hB
 unfold wJ.f at h
 have H:=h
 clear h
 obtain ⟨⟨aa,ai,aN⟩,A3,H⟩:=bd_ H
 obtain ⟨⟨az,al,am⟩,A4,H⟩:=bd_ H
 revert H;refine fH (fun c5 H=>?_) fun c5 H=>?_
 ·have cn:=fZ c5
  have co:=f_ c5
  clear c5
  obtain ⟨⟨b8,bi,bj⟩,A6,H⟩:=bd_ H
  obtain ⟨⟨b9,bl,bm⟩,A7,H⟩:=bd_ H
  obtain ⟨c8,H⟩:=kV H
  have cp:=m_ c8
  clear c8
  obtain ⟨bs,bc⟩:∃ y_:List (aF),y_=(aa++[(⟨b8,b9,(⟨#[]⟩:ByteArray)⟩:aF)]):=⟨_,rfl⟩
  rw [← bc] at H
  have bv:=m_ bc
  clear bc
  simp only [Option.some.injEq,Prod.mk.injEq] at H
  obtain ⟨rfl,rfl,rfl⟩:=H
  go_enter func41,ntmps41
  try go_wp2_with (first|((with_reducible refine dJ 3 ?_);refine dO 3 (cs:=#[ah fG,ah fE,ah fC,ah aQ]) 25 ?_;intro a7 hg w9 hbox hb;have gy:=p_ (aS.below b_ hb) <| p_ (aV.trans jv (aV.of_below hb g none) (.inl rfl)) <| p_ (dP dZ hb) <| p_ (hbox) <| p_ ((by rw [hg];exact (jr (w:=w) (g:=g) (row:=none) jv):w.heap.size≤a7)) <| p_ ((Nat.le_trans HW0.out (by rw [hg];exact (jr (w:=w) (g:=g) (row:=none) jv):w.heap.size≤a7):w0.heap.size≤a7)) <| p_ ((by rw [hg];exact Nat.ne_of_lt (aS.lt (show aS w0 _ g bI eG eH from b_)):g≠a7)) <| a_ ((by rw [hg];exact Nat.ne_of_gt (aS.lt (show aS w0 _ g bI eG eH from b_)):a7≠g));clear HI0 HK HB;obtain ⟨HI0,HK,HB,gq,Ez,Ov,CQ,a8⟩:=gy;clear hb hbox hg)|((with_reducible refine dJ 4 ?_);refine dO 4 (cs:=#[.slice none 0 0]) 28 ?_;intro a5 hg dj hbox hb;have gy:=p_ (aS.below b_ hb) <| p_ (bZ (ak gq) hb) <| p_ (aV.trans yL (aV.of_below hb g none) (.inl rfl)) <| p_ (dP dZ hb) <| p_ (hbox) <| p_ ((by rw [hg];exact (jr (w:=w) (g:=g) (row:=none) yL):w.heap.size≤a5)) <| p_ ((Nat.le_trans HW0.out (by rw [hg];exact (jr (w:=w) (g:=g) (row:=none) yL):w.heap.size≤a5):w0.heap.size≤a5)) <| p_ (lV hg (gu (ak gq))) <| p_ (lQ hg (gu (ak gq))) <| p_ ((by rw [hg];exact Nat.ne_of_lt (aS.lt (show aS w0 _ g bI eG eH from b_)):g≠a5)) <| a_ ((by rw [hg];exact Nat.ne_of_gt (aS.lt (show aS w0 _ g bI eG eH from b_)):a5≠g));clear HI0 gq HK HB;obtain ⟨HI0,gq,HK,HB,ig,Ir,Ox,ae,af,CS,a9⟩:=gy;clear hb hbox hg;obtain ⟨an,ao,b1,b2⟩:=g_ ae af a8 CQ;have d5:=yh gq.out)|((with_reducible refine bT 88 ?_);refine bU (some 8) rfl rfl func88 aB rfl #[.pointer (some ⟨g,0,none⟩),.agg #[ah fG,ah fE,ah fC,ah aQ]] rfl aX ?_;(with_reducible refine (qQ.calls k g bI eG eH fG fE fC aQ aa ai aN w0 _ b_ dZ A3.out).mono ?_);rintro e dk ⟨Uz,rfl,ho0,hi,hb,hk⟩;refine ⟨_,rfl,?_⟩;obtain ⟨gq,ig,iU,HK,HB,HI0⟩:=p_ (aV.blk hk (g':=a7) (o:=.cells #[ah fG,ah fE,ah fC,ah aQ] 25) (ak gq) a8.out (by simp)) <| p_ (aV.blk hk (g':=a5) (o:=.cells #[.slice none 0 0] 28) (ak ig) a9.out (by simp)) <| p_ (Kd.dI ho0 (jr (w:=w) (g:=g) (row:=none) um)) <| p_ (aV.trans um hk (.inl rfl)) <| p_ (hb) <| a_ (hi);(try clear hb);(try clear hk);(try clear hi);(try clear ho0))|((with_reducible refine dJ 5 ?_);refine dO 5 (cs:=#[.slice none 0 0]) 28 ?_;intro a6 hg dl hbox hb;have gy:=p_ (Kd.dw (aJ iU) hb) <| p_ (aS.below b_ hb) <| p_ (bZ (ak gq) hb) <| p_ (bZ (ak ig) hb) <| p_ (aV.trans um (aV.of_below hb g none) (.inl rfl)) <| p_ (dP dZ hb) <| p_ (hbox) <| p_ ((by rw [hg];exact (jr (w:=w) (g:=g) (row:=none) um):w.heap.size≤a6)) <| p_ ((Nat.le_trans HW0.out (by rw [hg];exact (jr (w:=w) (g:=g) (row:=none) um):w.heap.size≤a6):w0.heap.size≤a6)) <| p_ (lV hg (gu (ak gq))) <| p_ (lQ hg (gu (ak gq))) <| p_ (lV hg (gu (ak ig))) <| p_ (lQ hg (gu (ak ig))) <| p_ ((by rw [hg];exact Nat.ne_of_lt (aS.lt (show aS w0 _ g bI ai aN from b_)):g≠a6)) <| a_ ((by rw [hg];exact Nat.ne_of_gt (aS.lt (show aS w0 _ g bI ai aN from b_)):a6≠g));clear iU HI0 gq ig HK HB;obtain ⟨iU,HI0,gq,ig,HK,HB,iG,KA,Oy,CV,ag,CW,aK,CU,ab⟩:=gy;clear hb hbox hg;obtain ⟨bd,be,cq⟩:=Kd.dK iU.out;subst cq;obtain ⟨ap,aq,ar,aW,b3,b4⟩:=kJ ag CV aK CW ab CU;have Ip:=dh iG.out)|((with_reducible refine bT 87 ?_);refine bU (some 10) rfl rfl func87 aB rfl #[.pointer (some ⟨g,0,none⟩),ah 10] rfl aX ?_;(with_reducible refine (pF.calls g bI ai aN 10 az al am w0 _ b_ dZ A4.out).mono ?_);rintro e d6 ⟨rfl,hi,hb,hk⟩;refine ⟨_,rfl,?_⟩;obtain ⟨gq,ig,iU,iG,HK,HB,HI0⟩:=p_ (aV.blk hk (g':=a7) (o:=.cells #[ah fG,ah fE,ah fC,ah aQ] 25) aT a8.out (by simp)) <| p_ (aV.blk hk (g':=a5) (o:=.cells #[.slice none 0 0] 28) aT a9.out (by simp)) <| p_ (Kd.bn (Kd.nN (aS.apart (show aS w0 _ g bI ai aN from b_) NV (by decide)) hk (fun _ h=>h.2)) (fun _ h=>h.1)) <| p_ (aV.blk hk (g':=a6) (o:=.cells #[.slice bd aa.length be] 28) NS ab.out (by simp)) <| p_ (aV.trans pW hk (.inl rfl)) <| p_ (hb) <| a_ (hi);(try clear hb);(try clear hk);(try clear hi)))
  obtain ⟨iU,gq,ig,iG,HI0,HK,HB⟩:=p_ (Kd.aZ iU.out) <| p_ (iD gq.out) <| p_ (iD ig.out) <| p_ (iD iG.out) <| p_ (aS.drew HI0.out) <| p_ (wY HK.out) <| a_ (lC HB.out)
  refine iT (n:=11) (S:=fun w'=>w'.cell? ⟨a6,0,none⟩=some (.slice bd aa.length be)) (ds:=[10]) Bl aB rfl rfl ((aP iG.out 0).trans rfl) (fun hH=>?_);refine kE (T:=wJ.T4) (B:=wJ.B4) aB aB (fun aO fJ=>?_)
  generalize d6.drew=dm at iU gq ig iG HI0 HK HB hH ⊢
  refine cu 0 13 acs aO ?_
  refine cu 2 15 acC aO ?_
  refine cu 4 17 acD aO ?_
  refine lI (i:=1) (N:=some 14) (v:=?_) (a':=?_) acF rfl rfl (xU aO.out fJ.out aB) (fun _ _ _ h=>h) (Or.inl ⟨(by rfl),?_⟩) hH ?_ ?_
  rotate_left
  ·intro w' s0
   go_simp
   with_reducible rfl
  rotate_left
  ·simp only [Act.put,List.setIfInBounds_toArray,List.set_cons_zero,List.set_cons_succ,aY,bf]
   rfl
  refine fD (i:=3) (N:=some 16) acE rfl rfl (jq aO.out aB) (by decide) (fun K hK=>?_)
  refine i_ func89 aB rfl #[.pointer (some ⟨g,0,none⟩)] (by rfl) rfl rfl aX ?_
  with_reducible refine (zy.calls g bI al am b8 bi bj w0 _ b_ dZ A6.out).mono ?_
  rintro e lF ⟨rfl,hi,hb,hk⟩
  refine ⟨_,rfl,?_⟩
  obtain ⟨gq,ig,iU,iG,HK,HB,HI0⟩:=p_ (aV.blk hk (g':=a7) (o:=.cells #[ah fG,ah fE,ah fC,ah aQ] 25) (ak gq) a8.out (by simp)) <| p_ (aV.blk hk (g':=a5) (o:=.cells #[.slice none 0 0] 28) (ak ig) a9.out (by simp)) <| p_ (Kd.bn (Kd.nN (aS.apart (show aS w0 _ g bI al am from b_) (aJ iU) (by decide)) hk (fun _ h=>h.2)) (fun _ h=>h.1)) <| p_ (aV.blk hk (g':=a6) (o:=.cells #[.slice bd aa.length be] 28) (ak iG) ab.out (by simp)) <| p_ (aV.trans pW hk (.inl rfl)) <| p_ (hb) <| a_ (hi)
  (try clear hb)
  (try clear hk)
  (try clear hi)
  refine hK.out _ _ ((aP iG.out 0).trans rfl) (fun hH=>?_)
  clear hK K
  refine eX (some 16) ?_
  refine fD (i:=5) (N:=some 18) acA rfl rfl (jq aO.out aB) (by decide) (fun K hK=>?_)
  refine i_ func42 aB rfl #[.pointer (some ⟨g,0,none⟩),ah 2] (by rfl) rfl rfl aX ?_
  with_reducible refine (yH.calls g bI bi bj 2 b9 bl bm w0 _ b_ dZ A7.out).mono ?_
  rintro e dp ⟨rfl,hi,hb,hk⟩
  refine ⟨_,rfl,?_⟩
  obtain ⟨gq,ig,iU,iG,HK,HB,HI0⟩:=p_ (aV.blk hk (g':=a7) (o:=.cells #[ah fG,ah fE,ah fC,ah aQ] 25) (ak gq) a8.out (by simp)) <| p_ (aV.blk hk (g':=a5) (o:=.cells #[.slice none 0 0] 28) (ak ig) a9.out (by simp)) <| p_ (Kd.bn (Kd.nN (aS.apart (show aS w0 _ g bI bi bj from b_) (aJ iU) (by decide)) hk (fun _ h=>h.2)) (fun _ h=>h.1)) <| p_ (aV.blk hk (g':=a6) (o:=.cells #[.slice bd aa.length be] 28) (ak iG) ab.out (by simp)) <| p_ (aV.trans pW hk (.inl rfl)) <| p_ (hb) <| a_ (hi)
  (try clear hb)
  (try clear hk)
  (try clear hi)
  refine hK.out _ _ ((aP iG.out 0).trans rfl) (fun hH=>?_)
  clear hK K
  refine eX (some 18) ?_
  refine cu 6 19 acB aO ?_
  refine fD (i:=7) (N:=some 20) acG rfl rfl (jq aO.out aB) (by decide) (fun K hK=>?_)
  refine Oh (w1:=?_) (v:=?_) (by rfl) rfl ?_ ?_
  rotate_left 2
  ·go_simp
   constructor
   ·rfl
   ·rfl
  refine hK.out _ _ ((aP (kU iG.out _) 0).trans rfl) (fun hH=>?_)
  clear hK K
  refine eX (some 20) ?_
  refine fD (i:=8) (N:=some 21) acH rfl rfl (jq aO.out aB) (by decide) (fun K hK=>?_)
  refine Kd.KO aU w.heap.size (by rfl) (.tmp 14) (.tmp 20) 26 43 (.agg #[(.string ⟨#[]⟩),(.bool false),(.string ⟨#[]⟩)]) 40 rfl underlying26 pV rfl (by decide) (by omega) (.slice bd aa.length be) aa (⟨b8,b9,(⟨#[]⟩:ByteArray)⟩:aF) [.string b8,.bool b9,.string (⟨#[]⟩:ByteArray)] (fun _=>True) (fun _=>False) rfl rfl ?sW (fun _ hk=>hk.elim) ?kT ?kG (Below.refl _ _) ?kH ?aL ?_
  (case sW=>exact qp _ _ _ (⟨b8,b9,(⟨#[]⟩:ByteArray)⟩:aF))
  (case kT=>exact (fun _ _=>trivial))
  (case kG=>exact (aJ iU))
  (case kH=>exact (jr (w:=w) (g:=g) (row:=none) pW))
  (case aL=>have:=cp.out;omega)
  intro ay6 d7 ho hb hg hat
  rw [← bv.out] at ho
  obtain ⟨HI0,gq,ig,iG,HB,HK,fB⟩:=p_ (aS.grown (show aS w0 _ g bI bl bm from b_) hg (aS.own_ne HI0.out iU.out (by decide))) <| p_ (iy (g:=a7) (o:=.cells #[ah fG,ah fE,ah fC,ah aQ] 25) (ak gq) hg (Kd.fV iU.out gq.out (by decide))) <| p_ (iy (g:=a5) (o:=.cells #[.slice none 0 0] 28) (ak ig) hg (Kd.fV iU.out ig.out (by decide))) <| p_ (iy (g:=a6) (o:=.cells #[.slice bd aa.length be] 28) (ak iG) hg (Kd.fV iU.out iG.out (by decide))) <| p_ (Vu dZ HL.out hb) <| p_ (aV.trans pW (aV.BJ hg g) (Kd.Vk iU.out)) <| a_ (ho)
  clear ho hb hg hat
  obtain ⟨cr,ct,bz⟩:=Kd.dK fB.out
  (first|subst bz|(injection bz with dV gU dW;have gV:=dV.symm;have gW:=dW.symm;clear dV gU dW;subst gV;subst gW))
  refine hK.out _ _ ((aP iG.out 0).trans rfl) (fun hH=>?_)
  clear hK K
  refine eX (some 21) ?_
  refine cu 9 22 acp aO ?_
  refine JO (i:=10) (N:=none) acr rfl rfl (jq aO.out aB) (by decide) (fun K hK=>?_)
  have axw:d7.cell? ⟨a6,0,none⟩=some (.slice bd aa.length be):=(aP iG.out 0).trans rfl
  have aqR:=bP iG.out 0
  refine iM (w1:=?_) (by rfl) rfl ?_ ?_
  rotate_left
  ·go_simp
   rfl
  refine hK.out _ _ ?_
  clear hK K
  refine iP (ku aO.out aB) ?_
  have Kt:=dh iG.out
  obtain ⟨b5,b6⟩:=gB a9 CS
  have Ku:=dh ig.out
  try go_wp2
  refine bodyPost_ret (results_cell_row rfl _ _ a5 28 #[.slice cr bs.length ct] (0,0) _ rfl aT underlying28 rfl aB) rfl ?_
  exact ⟨_,bM,(by (with_reducible repeat (first|apply Kd.dB|apply Kd.dD|apply Kd.aZ));exact Kd.bn (aH (aH (Kd.bQ (Kd.bQ fB.out iG.out (by decide)) ig.out (by decide)) (fun _ hk=>hk.1.2))) (fun _ hk=>trivial)),b_,dZ,pW⟩
 have cn:=fP c5
 have co:=fQ c5
 revert H;refine fH (fun bw H=>?_) fun bw H=>?_
 rotate_left
 ·have ca:=fP bw
  have cc:=fQ bw
  revert H;refine fH (fun bx H=>?_) fun bx H=>?_
  rotate_left
  ·have cd:=fP bx
   have ce:=fQ bx
   simp only [Option.some.injEq,Prod.mk.injEq] at H
   obtain ⟨rfl,rfl,rfl⟩:=H
   go_enter func41,ntmps41
   go_wp2_with (first|((with_reducible refine dJ 3 ?_);refine dO 3 (cs:=#[ah fG,ah fE,ah fC,ah aQ]) 25 ?_;intro a7 hg dq hbox hb;have gy:=p_ (aS.below b_ hb) <| p_ (aV.trans jv (aV.of_below hb g none) (.inl rfl)) <| p_ (dP dZ hb) <| p_ (hbox) <| p_ ((by rw [hg];exact (jr (w:=w) (g:=g) (row:=none) jv):w.heap.size≤a7)) <| p_ ((Nat.le_trans HW0.out (by rw [hg];exact (jr (w:=w) (g:=g) (row:=none) jv):w.heap.size≤a7):w0.heap.size≤a7)) <| p_ ((by rw [hg];exact Nat.ne_of_lt (aS.lt (show aS w0 _ g bI eG eH from b_)):g≠a7)) <| a_ ((by rw [hg];exact Nat.ne_of_gt (aS.lt (show aS w0 _ g bI eG eH from b_)):a7≠g));clear HI0 HK HB;obtain ⟨HI0,HK,HB,gq,Ez,Ov,CQ,a8⟩:=gy;clear hb hbox hg)|((with_reducible refine dJ 4 ?_);refine dO 4 (cs:=#[.slice none 0 0]) 28 ?_;intro a5 hg dr hbox hb;have gy:=p_ (aS.below b_ hb) <| p_ (bZ (ak gq) hb) <| p_ (aV.trans yL (aV.of_below hb g none) (.inl rfl)) <| p_ (dP dZ hb) <| p_ (hbox) <| p_ ((by rw [hg];exact (jr (w:=w) (g:=g) (row:=none) yL):w.heap.size≤a5)) <| p_ ((Nat.le_trans HW0.out (by rw [hg];exact (jr (w:=w) (g:=g) (row:=none) yL):w.heap.size≤a5):w0.heap.size≤a5)) <| p_ (lV hg (gu (ak gq))) <| p_ (lQ hg (gu (ak gq))) <| p_ ((by rw [hg];exact Nat.ne_of_lt (aS.lt (show aS w0 _ g bI eG eH from b_)):g≠a5)) <| a_ ((by rw [hg];exact Nat.ne_of_gt (aS.lt (show aS w0 _ g bI eG eH from b_)):a5≠g));clear HI0 gq HK HB;obtain ⟨HI0,gq,HK,HB,ig,Ir,Ox,ae,af,CS,a9⟩:=gy;clear hb hbox hg;obtain ⟨an,ao,b1,b2⟩:=g_ ae af a8 CQ;have d8:=yh gq.out)|((with_reducible refine bT 88 ?_);refine bU (some 8) rfl rfl func88 aB rfl #[.pointer (some ⟨g,0,none⟩),.agg #[ah fG,ah fE,ah fC,ah aQ]] rfl aX ?_;(with_reducible refine (qQ.calls k g bI eG eH fG fE fC aQ aa ai aN w0 _ b_ dZ A3.out).mono ?_);rintro e dt ⟨Uz,rfl,ho0,hi,hb,hk⟩;refine ⟨_,rfl,?_⟩;obtain ⟨gq,ig,iU,HK,HB,HI0⟩:=p_ (aV.blk hk (g':=a7) (o:=.cells #[ah fG,ah fE,ah fC,ah aQ] 25) (ak gq) a8.out (by simp)) <| p_ (aV.blk hk (g':=a5) (o:=.cells #[.slice none 0 0] 28) (ak ig) a9.out (by simp)) <| p_ (Kd.dI ho0 (jr (w:=w) (g:=g) (row:=none) um)) <| p_ (aV.trans um hk (.inl rfl)) <| p_ (hb) <| a_ (hi);(try clear hb);(try clear hk);(try clear hi);(try clear ho0))|((with_reducible refine dJ 5 ?_);refine dO 5 (cs:=#[.slice none 0 0]) 28 ?_;intro a6 hg du hbox hb;have gy:=p_ (Kd.dw (aJ iU) hb) <| p_ (aS.below b_ hb) <| p_ (bZ (ak gq) hb) <| p_ (bZ (ak ig) hb) <| p_ (aV.trans um (aV.of_below hb g none) (.inl rfl)) <| p_ (dP dZ hb) <| p_ (hbox) <| p_ ((by rw [hg];exact (jr (w:=w) (g:=g) (row:=none) um):w.heap.size≤a6)) <| p_ ((Nat.le_trans HW0.out (by rw [hg];exact (jr (w:=w) (g:=g) (row:=none) um):w.heap.size≤a6):w0.heap.size≤a6)) <| p_ (lV hg (gu (ak gq))) <| p_ (lQ hg (gu (ak gq))) <| p_ (lV hg (gu (ak ig))) <| p_ (lQ hg (gu (ak ig))) <| p_ ((by rw [hg];exact Nat.ne_of_lt (aS.lt (show aS w0 _ g bI ai aN from b_)):g≠a6)) <| a_ ((by rw [hg];exact Nat.ne_of_gt (aS.lt (show aS w0 _ g bI ai aN from b_)):a6≠g));clear iU HI0 gq ig HK HB;obtain ⟨iU,HI0,gq,ig,HK,HB,iG,KA,Oy,CV,ag,CW,aK,CU,ab⟩:=gy;clear hb hbox hg;obtain ⟨cf,cg,iO⟩:=Kd.dK iU.out;subst iO;obtain ⟨ap,aq,ar,aW,b3,b4⟩:=kJ ag CV aK CW ab CU;have aBy:=dh iG.out)|((with_reducible refine bT 87 ?_);refine bU (some 10) rfl rfl func87 aB rfl #[.pointer (some ⟨g,0,none⟩),ah 10] rfl aX ?_;(with_reducible refine (pF.calls g bI ai aN 10 az al am w0 _ b_ dZ A4.out).mono ?_);rintro e dv ⟨rfl,hi,hb,hk⟩;refine ⟨_,rfl,?_⟩;obtain ⟨gq,ig,iU,iG,HK,HB,HI0⟩:=p_ (aV.blk hk (g':=a7) (o:=.cells #[ah fG,ah fE,ah fC,ah aQ] 25) aT a8.out (by simp)) <| p_ (aV.blk hk (g':=a5) (o:=.cells #[.slice none 0 0] 28) aT a9.out (by simp)) <| p_ (Kd.bn (Kd.nN (aS.apart (show aS w0 _ g bI ai aN from b_) NV (by decide)) hk (fun _ h=>h.2)) (fun _ h=>h.1)) <| p_ (aV.blk hk (g':=a6) (o:=.cells #[.slice cf aa.length cg] 28) NS ab.out (by simp)) <| p_ (aV.trans pW hk (.inl rfl)) <| p_ (hb) <| a_ (hi);(try clear hb);(try clear hk);(try clear hi);have aBA:=dh iG.out;obtain ⟨b5,b6⟩:=gB a9 CS;have aBC:=dh ig.out))
   refine bodyPost_ret (results_cell_row rfl _ _ a5 28 #[.slice cf aa.length cg] (0,0) _ rfl aT underlying28 rfl aB) rfl ?_
   exact ⟨_,bM,(by (with_reducible repeat (first|apply Kd.dB|apply Kd.dD|apply Kd.aZ));exact Kd.bn (aH (Kd.bQ iU.out ig.out (by decide))) (fun _ hk=>trivial)),b_,dZ,pW⟩
  have cd:=fZ bx
  have ce:=f_ bx
  clear bx
  obtain ⟨bu,d9,H⟩:=bd_ H
  simp only [Option.some.injEq,Prod.mk.injEq] at H
  obtain ⟨rfl,rfl,rfl⟩:=H
  go_enter func41,ntmps41
  go_wp2_with (first|((with_reducible refine dJ 3 ?_);refine dO 3 (cs:=#[ah fG,ah fE,ah fC,ah aQ]) 25 ?_;intro a7 hg jU hbox hb;have gy:=p_ (aS.below b_ hb) <| p_ (aV.trans jv (aV.of_below hb g none) (.inl rfl)) <| p_ (dP dZ hb) <| p_ (hbox) <| p_ ((by rw [hg];exact (jr (w:=w) (g:=g) (row:=none) jv):w.heap.size≤a7)) <| p_ ((Nat.le_trans HW0.out (by rw [hg];exact (jr (w:=w) (g:=g) (row:=none) jv):w.heap.size≤a7):w0.heap.size≤a7)) <| p_ ((by rw [hg];exact Nat.ne_of_lt (aS.lt (show aS w0 _ g bI eG eH from b_)):g≠a7)) <| a_ ((by rw [hg];exact Nat.ne_of_gt (aS.lt (show aS w0 _ g bI eG eH from b_)):a7≠g));clear HI0 HK HB;obtain ⟨HI0,HK,HB,gq,Ez,Ov,CQ,a8⟩:=gy;clear hb hbox hg)|((with_reducible refine dJ 4 ?_);refine dO 4 (cs:=#[.slice none 0 0]) 28 ?_;intro a5 hg dx hbox hb;have gy:=p_ (aS.below b_ hb) <| p_ (bZ (ak gq) hb) <| p_ (aV.trans yL (aV.of_below hb g none) (.inl rfl)) <| p_ (dP dZ hb) <| p_ (hbox) <| p_ ((by rw [hg];exact (jr (w:=w) (g:=g) (row:=none) yL):w.heap.size≤a5)) <| p_ ((Nat.le_trans HW0.out (by rw [hg];exact (jr (w:=w) (g:=g) (row:=none) yL):w.heap.size≤a5):w0.heap.size≤a5)) <| p_ (lV hg (gu (ak gq))) <| p_ (lQ hg (gu (ak gq))) <| p_ ((by rw [hg];exact Nat.ne_of_lt (aS.lt (show aS w0 _ g bI eG eH from b_)):g≠a5)) <| a_ ((by rw [hg];exact Nat.ne_of_gt (aS.lt (show aS w0 _ g bI eG eH from b_)):a5≠g));clear HI0 gq HK HB;obtain ⟨HI0,gq,HK,HB,ig,Ir,Ox,ae,af,CS,a9⟩:=gy;clear hb hbox hg;obtain ⟨an,ao,b1,b2⟩:=g_ ae af a8 CQ;have da:=yh gq.out)|((with_reducible refine bT 88 ?_);refine bU (some 8) rfl rfl func88 aB rfl #[.pointer (some ⟨g,0,none⟩),.agg #[ah fG,ah fE,ah fC,ah aQ]] rfl aX ?_;(with_reducible refine (qQ.calls k g bI eG eH fG fE fC aQ aa ai aN w0 _ b_ dZ A3.out).mono ?_);rintro e dy ⟨Uz,rfl,ho0,hi,hb,hk⟩;refine ⟨_,rfl,?_⟩;obtain ⟨gq,ig,iU,HK,HB,HI0⟩:=p_ (aV.blk hk (g':=a7) (o:=.cells #[ah fG,ah fE,ah fC,ah aQ] 25) (ak gq) a8.out (by simp)) <| p_ (aV.blk hk (g':=a5) (o:=.cells #[.slice none 0 0] 28) (ak ig) a9.out (by simp)) <| p_ (Kd.dI ho0 (jr (w:=w) (g:=g) (row:=none) um)) <| p_ (aV.trans um hk (.inl rfl)) <| p_ (hb) <| a_ (hi);(try clear hb);(try clear hk);(try clear hi);(try clear ho0))|((with_reducible refine dJ 5 ?_);refine dO 5 (cs:=#[.slice none 0 0]) 28 ?_;intro a6 hg dz hbox hb;have gy:=p_ (Kd.dw (aJ iU) hb) <| p_ (aS.below b_ hb) <| p_ (bZ (ak gq) hb) <| p_ (bZ (ak ig) hb) <| p_ (aV.trans um (aV.of_below hb g none) (.inl rfl)) <| p_ (dP dZ hb) <| p_ (hbox) <| p_ ((by rw [hg];exact (jr (w:=w) (g:=g) (row:=none) um):w.heap.size≤a6)) <| p_ ((Nat.le_trans HW0.out (by rw [hg];exact (jr (w:=w) (g:=g) (row:=none) um):w.heap.size≤a6):w0.heap.size≤a6)) <| p_ (lV hg (gu (ak gq))) <| p_ (lQ hg (gu (ak gq))) <| p_ (lV hg (gu (ak ig))) <| p_ (lQ hg (gu (ak ig))) <| p_ ((by rw [hg];exact Nat.ne_of_lt (aS.lt (show aS w0 _ g bI ai aN from b_)):g≠a6)) <| a_ ((by rw [hg];exact Nat.ne_of_gt (aS.lt (show aS w0 _ g bI ai aN from b_)):a6≠g));clear iU HI0 gq ig HK HB;obtain ⟨iU,HI0,gq,ig,HK,HB,iG,KA,Oy,CV,ag,CW,aK,CU,ab⟩:=gy;clear hb hbox hg;obtain ⟨ch,ci,cv⟩:=Kd.dK iU.out;subst cv;obtain ⟨ap,aq,ar,aW,b3,b4⟩:=kJ ag CV aK CW ab CU;have ali:=dh iG.out)|((with_reducible refine bT 87 ?_);refine bU (some 10) rfl rfl func87 aB rfl #[.pointer (some ⟨g,0,none⟩),ah 10] rfl aX ?_;(with_reducible refine (pF.calls g bI ai aN 10 az al am w0 _ b_ dZ A4.out).mono ?_);rintro e e0 ⟨rfl,hi,hb,hk⟩;refine ⟨_,rfl,?_⟩;obtain ⟨gq,ig,iU,iG,HK,HB,HI0⟩:=p_ (aV.blk hk (g':=a7) (o:=.cells #[ah fG,ah fE,ah fC,ah aQ] 25) aT a8.out (by simp)) <| p_ (aV.blk hk (g':=a5) (o:=.cells #[.slice none 0 0] 28) aT a9.out (by simp)) <| p_ (Kd.bn (Kd.nN (aS.apart (show aS w0 _ g bI ai aN from b_) NV (by decide)) hk (fun _ h=>h.2)) (fun _ h=>h.1)) <| p_ (aV.blk hk (g':=a6) (o:=.cells #[.slice ch aa.length ci] 28) NS ab.out (by simp)) <| p_ (aV.trans pW hk (.inl rfl)) <| p_ (hb) <| a_ (hi);(try clear hb);(try clear hk);(try clear hi);have aaY:=dh iG.out)|((with_reducible refine bT 77 ?_);refine bU (some 37) rfl rfl func77 aB rfl #[.agg #[.slice ch aa.length ci],.string (⟨#[47,97]⟩:ByteArray)] rfl aX ?_;(with_reducible refine (qP.calls k _ _ aa (⟨#[47,97]⟩:ByteArray) bu _ aaz ((Kd.dN iU.out).2.1) d9.out).mono ?_);rintro e e3 ⟨ay8,rfl,ho0,hb⟩;refine ⟨_,rfl,?_⟩;obtain ⟨iU,bo,HI0,gq,ig,iG,HK,HB⟩:=p_ (Kd.jX (aJ iU) (Kd.jo ho0) hb) <| p_ (Kd.dI (Kd.jY ho0 (Kd.jJ (aJ iU))) (jr (w:=w) (g:=g) (row:=none) pW)) <| p_ (aS.below b_ hb) <| p_ (bZ (ak gq) hb) <| p_ (bZ (ak ig) hb) <| p_ (bZ (ak iG) hb) <| p_ (aV.trans pW (aV.of_below hb g none) (.inl rfl)) <| a_ (dP dZ hb);(try clear hb);(try clear hk);(try clear hi);(try clear ho0);obtain ⟨cw,cx,cy⟩:=Kd.dK bo.out;subst cy;have aBt:=dh iG.out;obtain ⟨b5,b6⟩:=gB a9 CS;have alj:=dh ig.out))
  refine bodyPost_ret (results_cell_row rfl _ _ a5 28 #[.slice cw bu.length cx] (0,0) _ rfl aT underlying28 rfl aB) rfl ?_
  exact ⟨_,bM,(by (with_reducible repeat (first|apply Kd.dB|apply Kd.dD|apply Kd.aZ));exact Kd.bn (aH (aH (Kd.bQ (Kd.bQ bo.out iG.out (by decide)) ig.out (by decide)) (fun _ hk=>hk.1.2))) (fun _ hk=>trivial)),b_,dZ,pW⟩
 have ca:=fZ bw
 have cc:=f_ bw
 clear bw
 obtain ⟨⟨b0,ax,bH⟩,d4,H⟩:=bd_ H
 obtain ⟨ba,fA⟩:∃ y_:List Int,y_=(([128,129,33]:List Int)):=⟨_,rfl⟩
 rw [← fA] at H
 have b7:=m_ fA
 clear fA
 obtain ⟨⟨bp,cj,ck⟩,db,H⟩:=bd_ H
 obtain ⟨bb,dd,H⟩:=bd_ H
 obtain ⟨bh,de,H⟩:=bd_ H
 simp only [Option.some.injEq,Prod.mk.injEq] at H
 obtain ⟨rfl,rfl,rfl⟩:=H
 go_enter func41,ntmps41
 try go_wp2_with (first|((with_reducible refine dJ 3 ?_);refine dO 3 (cs:=#[ah fG,ah fE,ah fC,ah aQ]) 25 ?_;intro a7 hg e4 hbox hb;have gy:=p_ (aS.below b_ hb) <| p_ (aV.trans jv (aV.of_below hb g none) (.inl rfl)) <| p_ (dP dZ hb) <| p_ (hbox) <| p_ ((by rw [hg];exact (jr (w:=w) (g:=g) (row:=none) jv):w.heap.size≤a7)) <| p_ ((Nat.le_trans HW0.out (by rw [hg];exact (jr (w:=w) (g:=g) (row:=none) jv):w.heap.size≤a7):w0.heap.size≤a7)) <| p_ ((by rw [hg];exact Nat.ne_of_lt (aS.lt (show aS w0 _ g bI eG eH from b_)):g≠a7)) <| a_ ((by rw [hg];exact Nat.ne_of_gt (aS.lt (show aS w0 _ g bI eG eH from b_)):a7≠g));clear HI0 HK HB;obtain ⟨HI0,HK,HB,gq,Ez,Ov,CQ,a8⟩:=gy;clear hb hbox hg)|((with_reducible refine dJ 4 ?_);refine dO 4 (cs:=#[.slice none 0 0]) 28 ?_;intro a5 hg e5 hbox hb;have gy:=p_ (aS.below b_ hb) <| p_ (bZ (ak gq) hb) <| p_ (aV.trans yL (aV.of_below hb g none) (.inl rfl)) <| p_ (dP dZ hb) <| p_ (hbox) <| p_ ((by rw [hg];exact (jr (w:=w) (g:=g) (row:=none) yL):w.heap.size≤a5)) <| p_ ((Nat.le_trans HW0.out (by rw [hg];exact (jr (w:=w) (g:=g) (row:=none) yL):w.heap.size≤a5):w0.heap.size≤a5)) <| p_ (lV hg (gu (ak gq))) <| p_ (lQ hg (gu (ak gq))) <| p_ ((by rw [hg];exact Nat.ne_of_lt (aS.lt (show aS w0 _ g bI eG eH from b_)):g≠a5)) <| a_ ((by rw [hg];exact Nat.ne_of_gt (aS.lt (show aS w0 _ g bI eG eH from b_)):a5≠g));clear HI0 gq HK HB;obtain ⟨HI0,gq,HK,HB,ig,Ir,Ox,ae,af,CS,a9⟩:=gy;clear hb hbox hg;obtain ⟨an,ao,b1,b2⟩:=g_ ae af a8 CQ;have df:=yh gq.out)|((with_reducible refine bT 88 ?_);refine bU (some 8) rfl rfl func88 aB rfl #[.pointer (some ⟨g,0,none⟩),.agg #[ah fG,ah fE,ah fC,ah aQ]] rfl aX ?_;(with_reducible refine (qQ.calls k g bI eG eH fG fE fC aQ aa ai aN w0 _ b_ dZ A3.out).mono ?_);rintro e e6 ⟨Uz,rfl,ho0,hi,hb,hk⟩;refine ⟨_,rfl,?_⟩;obtain ⟨gq,ig,iU,HK,HB,HI0⟩:=p_ (aV.blk hk (g':=a7) (o:=.cells #[ah fG,ah fE,ah fC,ah aQ] 25) (ak gq) a8.out (by simp)) <| p_ (aV.blk hk (g':=a5) (o:=.cells #[.slice none 0 0] 28) (ak ig) a9.out (by simp)) <| p_ (Kd.dI ho0 (jr (w:=w) (g:=g) (row:=none) um)) <| p_ (aV.trans um hk (.inl rfl)) <| p_ (hb) <| a_ (hi);(try clear hb);(try clear hk);(try clear hi);(try clear ho0))|((with_reducible refine dJ 5 ?_);refine dO 5 (cs:=#[.slice none 0 0]) 28 ?_;intro a6 hg e7 hbox hb;have gy:=p_ (Kd.dw (aJ iU) hb) <| p_ (aS.below b_ hb) <| p_ (bZ (ak gq) hb) <| p_ (bZ (ak ig) hb) <| p_ (aV.trans um (aV.of_below hb g none) (.inl rfl)) <| p_ (dP dZ hb) <| p_ (hbox) <| p_ ((by rw [hg];exact (jr (w:=w) (g:=g) (row:=none) um):w.heap.size≤a6)) <| p_ ((Nat.le_trans HW0.out (by rw [hg];exact (jr (w:=w) (g:=g) (row:=none) um):w.heap.size≤a6):w0.heap.size≤a6)) <| p_ (lV hg (gu (ak gq))) <| p_ (lQ hg (gu (ak gq))) <| p_ (lV hg (gu (ak ig))) <| p_ (lQ hg (gu (ak ig))) <| p_ ((by rw [hg];exact Nat.ne_of_lt (aS.lt (show aS w0 _ g bI ai aN from b_)):g≠a6)) <| a_ ((by rw [hg];exact Nat.ne_of_gt (aS.lt (show aS w0 _ g bI ai aN from b_)):a6≠g));clear iU HI0 gq ig HK HB;obtain ⟨iU,HI0,gq,ig,HK,HB,iG,KA,Oy,CV,ag,CW,aK,CU,ab⟩:=gy;clear hb hbox hg;obtain ⟨av,aw,cz⟩:=Kd.dK iU.out;subst cz;obtain ⟨ap,aq,ar,aW,b3,b4⟩:=kJ ag CV aK CW ab CU;have aBg:=dh iG.out)|((with_reducible refine bT 87 ?_);refine bU (some 10) rfl rfl func87 aB rfl #[.pointer (some ⟨g,0,none⟩),ah 10] rfl aX ?_;(with_reducible refine (pF.calls g bI ai aN 10 az al am w0 _ b_ dZ A4.out).mono ?_);rintro e dg ⟨rfl,hi,hb,hk⟩;refine ⟨_,rfl,?_⟩;obtain ⟨gq,ig,iU,iG,HK,HB,HI0⟩:=p_ (aV.blk hk (g':=a7) (o:=.cells #[ah fG,ah fE,ah fC,ah aQ] 25) aT a8.out (by simp)) <| p_ (aV.blk hk (g':=a5) (o:=.cells #[.slice none 0 0] 28) aT a9.out (by simp)) <| p_ (Kd.bn (Kd.nN (aS.apart (show aS w0 _ g bI ai aN from b_) NV (by decide)) hk (fun _ h=>h.2)) (fun _ h=>h.1)) <| p_ (aV.blk hk (g':=a6) (o:=.cells #[.slice av aa.length aw] 28) NS ab.out (by simp)) <| p_ (aV.trans pW hk (.inl rfl)) <| p_ (hb) <| a_ (hi);(try clear hb);(try clear hk);(try clear hi)))
 obtain ⟨iU,gq,ig,iG,HI0,HK,HB⟩:=p_ (Kd.aZ iU.out) <| p_ (iD gq.out) <| p_ (iD ig.out) <| p_ (iD iG.out) <| p_ (aS.drew HI0.out) <| p_ (wY HK.out) <| a_ (lC HB.out)
 refine iT (n:=10) (S:=fun w'=>w'.cell? ⟨a6,0,none⟩=some (.slice av aa.length aw)) (ds:=[9]) PY aB rfl rfl ((aP iG.out 0).trans rfl) (fun hH=>?_);refine kE (T:=wJ.T6) (B:=wJ.B6) aB aB (fun aO fJ=>?_)
 generalize dg.drew=e8 at iU gq ig iG HI0 HK HB hH ⊢
 refine cu 1 26 PZ aO ?_
 refine cu 3 28 Pq aO ?_
 refine lI (i:=0) (N:=some 25) (v:=?_) (a':=?_) #[aj,aj,F_,aj,F_,F_,F_,F_,F_,F_] rfl rfl (xU aO.out fJ.out aB) (fun _ _ _ h=>h) (Or.inl ⟨(by rfl),?_⟩) hH ?_ ?_
 rotate_left
 ·intro w' s0
  go_simp
  with_reducible rfl
 rotate_left
 ·simp only [Act.put,List.setIfInBounds_toArray,List.set_cons_zero,List.set_cons_succ,aY,bf]
  rfl
 refine yx (σ:=Value) 5 PK (fun s_=>[(27,.string b0),(29,s_)]) (fun s_ w'=>(w'.cell? ⟨a6,0,none⟩=some (.slice av aa.length aw))∧(Kd.R aU 43 w' w.heap.size (fun _=>True) (.slice av aa.length aw) aa)∧(Kd.R (Kd.int .i64) 3 w' w.heap.size (fun _=>True) s_ ba)∧(w'.heap[a7]?=some (.cells #[ah fG,ah fE,ah fC,ah aQ] 25))∧(w'.heap[a5]?=some (.cells #[.slice none 0 0] 28))∧(w'.heap[a6]?=some (.cells #[.slice av aa.length aw] 28))∧(aS w0 w' g bI ax bH)∧(aV w w' g none)∧(Below w0.heap.size w0 w')) ?_ ?_
 rotate_left
 ·intro uM
  refine yM (i:=2) (j:=4) (Ni:=some 27) (uJ:=some 29) #[aj,aj,aj,aj,F_,F_,F_,F_,F_,F_] #[aj,aj,F_,aj,aj,F_,F_,F_,F_,F_] rfl rfl rfl rfl (yN aO.out aB) (by decide) (by decide) (fun K hK=>?_) (fun K hK=>?_)
  ·skip
   refine i_ func44 aB rfl #[.pointer (some ⟨g,0,none⟩)] (by rfl) rfl rfl aX ?_
   with_reducible refine (w_.calls g bI al am b0 ax bH w0 _ b_ dZ d4.out).mono ?_
   rintro e lN ⟨rfl,hi,hb,hk⟩
   refine ⟨_,rfl,?_⟩
   obtain ⟨gq,ig,iU,iG,HK,HB,HI0⟩:=p_ (aV.blk hk (g':=a7) (o:=.cells #[ah fG,ah fE,ah fC,ah aQ] 25) (ak gq) a8.out (by simp)) <| p_ (aV.blk hk (g':=a5) (o:=.cells #[.slice none 0 0] 28) (ak ig) a9.out (by simp)) <| p_ (Kd.bn (Kd.nN (aS.apart (show aS w0 _ g bI al am from b_) (aJ iU) (by decide)) hk (fun _ h=>h.2)) (fun _ h=>h.1)) <| p_ (aV.blk hk (g':=a6) (o:=.cells #[.slice av aa.length aw] 28) (ak iG) ab.out (by simp)) <| p_ (aV.trans pW hk (.inl rfl)) <| p_ (hb) <| a_ (hi)
   (try clear hb)
   (try clear hk)
   (try clear hi)
   refine hK.out _ _ ((aP iG.out 0).trans rfl) (fun hH=>?_)
   clear hK K
   refine eX (some 27) ?_
   refine fD (i:=4) (N:=some 29) PK rfl rfl (jq aO.out aB) (by decide) (fun K hK=>?_)
   refine Kd.x9 (Kd.int .i64) _ 3 ?hg (N:=29) ?hd (xs:=([128,129,33]:List Int)) (inner:=[ah 128,ah 129,ah 33]) (ok:=fun _=>True) (iJ:=fun _=>True) ?hr ?hp (fun _ hk=>hk) trivial (Below.refl _ _) (Nat.le_refl _) (by simp) ?_;(case hd=>rfl);(case hg=>rfl);(case hr=>first|(go_simp;done)|(go_simp;rfl));(case hp=>exact aam)
   intro Kq e9 Jq hb iV iW
   clear iV iW
   (first|rw [← b7.out] at Jq|(simp only [Int.reduceToNat] at Jq;rw [← b7.out] at Jq))
   obtain ⟨iU,ac,HI0,gq,ig,iG,HK,HB⟩:=p_ (Kd.dw (aJ iU) hb) <| p_ (Kd.dI Jq (jr (w:=w) (g:=g) (row:=none) pW)) <| p_ (aS.below b_ hb) <| p_ (bZ (ak gq) hb) <| p_ (bZ (ak ig) hb) <| p_ (bZ (ak iG) hb) <| p_ (aV.trans pW (aV.of_below hb g none) (.inl rfl)) <| a_ (dP dZ hb)
   clear hb Jq
   refine hK.out _ _ ((aP iG.out 0).trans rfl) (fun hH=>?_)
   clear hK K
   refine eX (some 29) ?_
   exact lW xk (uM (Kq) _ ⟨hH,(aJ iU),(aJ ac),(ak gq),(ak ig),(ak iG),b_,pW,dZ⟩)
  ·skip
   refine Kd.x9 (Kd.int .i64) _ 3 ?hg (N:=29) ?hd (xs:=([128,129,33]:List Int)) (inner:=[ah 128,ah 129,ah 33]) (ok:=fun _=>True) (iJ:=fun _=>True) ?hr ?hp (fun _ hk=>hk) trivial (Below.refl _ _) (Nat.le_refl _) (by simp) ?_;(case hd=>rfl);(case hg=>rfl);(case hr=>first|(go_simp;done)|(go_simp;rfl));(case hp=>exact aam)
   intro Kq lN Jp hb iV iW
   clear iV iW
   (first|rw [← b7.out] at Jp|(simp only [Int.reduceToNat] at Jp;rw [← b7.out] at Jp))
   obtain ⟨iU,ac,HI0,gq,ig,iG,HK,HB⟩:=p_ (Kd.dw (aJ iU) hb) <| p_ (Kd.dI Jp (jr (w:=w) (g:=g) (row:=none) pW)) <| p_ (aS.below b_ hb) <| p_ (bZ (ak gq) hb) <| p_ (bZ (ak ig) hb) <| p_ (bZ (ak iG) hb) <| p_ (aV.trans pW (aV.of_below hb g none) (.inl rfl)) <| a_ (dP dZ hb)
   clear hb Jp
   refine hK.out _ _ ((aP iG.out 0).trans rfl) (fun hH=>?_)
   clear hK K
   refine eX (some 29) ?_
   refine fD (i:=2) (N:=some 27) PK rfl rfl (jq aO.out aB) (by decide) (fun K hK=>?_)
   refine i_ func44 aB rfl #[.pointer (some ⟨g,0,none⟩)] (by rfl) rfl rfl aX ?_
   with_reducible refine (w_.calls g bI al am b0 ax bH w0 _ b_ dZ d4.out).mono ?_
   rintro e ea ⟨rfl,hi,hb,hk⟩
   refine ⟨_,rfl,?_⟩
   obtain ⟨gq,ig,iU,iG,ac,HK,HB,HI0⟩:=p_ (aV.blk hk (g':=a7) (o:=.cells #[ah fG,ah fE,ah fC,ah aQ] 25) (ak gq) a8.out (by simp)) <| p_ (aV.blk hk (g':=a5) (o:=.cells #[.slice none 0 0] 28) (ak ig) a9.out (by simp)) <| p_ (Kd.bn (Kd.nN (aS.apart (show aS w0 _ g bI al am from b_) (aJ iU) (by decide)) hk (fun _ h=>h.2)) (fun _ h=>h.1)) <| p_ (aV.blk hk (g':=a6) (o:=.cells #[.slice av aa.length aw] 28) (ak iG) ab.out (by simp)) <| p_ (Kd.bn (Kd.nN (aS.apart (show aS w0 _ g bI al am from b_) (aJ ac) (by decide)) hk (fun _ h=>h.2)) (fun _ h=>h.1)) <| p_ (aV.trans pW hk (.inl rfl)) <| p_ (hb) <| a_ (hi)
   (try clear hb)
   (try clear hk)
   (try clear hi)
   refine hK.out _ _ ((aP iG.out 0).trans rfl) (fun hH=>?_)
   clear hK K
   refine eX (some 27) ?_
   exact lW xk (uM (Kq) _ ⟨hH,(aJ iU),(aJ ac),(ak gq),(ak ig),(ak iG),b_,pW,dZ⟩)
 rintro Kq br ⟨oG,rG,rH,rJ,rM,rO,rP,rQ,rU⟩
 obtain ⟨iU,ac,gq,ig,iG,HI0,HK,HB⟩:=bY (⟨rG⟩:aA (Kd.R aU 43 br w.heap.size (fun _=>True) (.slice av aa.length aw) aa)) <| bY (⟨rH⟩:aA (Kd.R (Kd.int .i64) 3 br w.heap.size (fun _=>True) Kq ba)) <| bY (⟨rJ⟩:aA (br.heap[a7]?=some (.cells #[ah fG,ah fE,ah fC,ah aQ] 25))) <| bY (⟨rM⟩:aA (br.heap[a5]?=some (.cells #[.slice none 0 0] 28))) <| bY (⟨rO⟩:aA (br.heap[a6]?=some (.cells #[.slice av aa.length aw] 28))) <| bY (⟨rP⟩:aA (aS w0 br g bI ax bH)) <| bY (⟨rQ⟩:aA (aV w br g none)) <| (⟨rU⟩:aA (Below w0.heap.size w0 br))
 have hH:br.cell? ⟨a6,0,none⟩=some (.slice av aa.length aw):=oG
 obtain ⟨d0,d1,cl⟩:=Kd.dK ac.out
 (first|subst cl|(injection cl with dV gU dW;have gV:=dV.symm;have gW:=dW.symm;clear dV gU dW;subst gV;subst gW))
 refine lW (a':=?_) ?_ ?_
 rotate_left
 ·simp only [uO,Act.put,List.setIfInBounds_toArray,List.set_cons_zero,List.set_cons_succ]
  rfl
 refine fD (i:=5) (N:=some 30) #[aj,aj,aj,aj,aj,aj,F_,F_,F_,F_] rfl rfl (jq aO.out aB) (by decide) (fun K hK=>?_)
 refine i_ func92 aB rfl #[.pointer (some ⟨g,0,none⟩),.slice d0 ba.length d1] (by rfl) rfl rfl aX ?_
 with_reducible refine (uG.calls g bI ax bH _ _ ba bp cj ck w0 _ b_ dZ ?oI ((Kd.dN ac.out).2.1) (Ak (aS.own_ne HI0.out ac.out (by decide))) db.out).mono ?_
 (case oI=>repeat (first|exact (Kd.dN ac.out).2.2|(with_reducible refine Kd.jO ?_ _)|(with_reducible refine Kd.jT ?_ _)|(with_reducible refine Kd.jS ?_)))
 rintro e eb ⟨rfl,hi,hb,hk⟩
 refine ⟨_,rfl,?_⟩
 obtain ⟨gq,ig,iU,iG,ac,HK,HB,HI0⟩:=p_ (aV.blk hk (g':=a7) (o:=.cells #[ah fG,ah fE,ah fC,ah aQ] 25) (ak gq) a8.out (by simp)) <| p_ (aV.blk hk (g':=a5) (o:=.cells #[.slice none 0 0] 28) (ak ig) a9.out (by simp)) <| p_ (Kd.bn (Kd.nN (aS.apart (show aS w0 _ g bI ax bH from b_) (aJ iU) (by decide)) hk (fun _ h=>h.2)) (fun _ h=>h.1)) <| p_ (aV.blk hk (g':=a6) (o:=.cells #[.slice av aa.length aw] 28) (ak iG) ab.out (by simp)) <| p_ (Kd.bn (Kd.nN (aS.apart (show aS w0 _ g bI ax bH from b_) (aJ ac) (by decide)) hk (fun _ h=>h.2)) (fun _ h=>h.1)) <| p_ (aV.trans pW hk (.inl rfl)) <| p_ (hb) <| a_ (hi)
 (try clear hb)
 (try clear hk)
 (try clear hi)
 refine hK.out _ _ ((aP iG.out 0).trans rfl) (fun hH=>?_)
 clear hK K
 refine eX (some 30) ?_
 refine fD (i:=6) (N:=some 31) Pv rfl rfl (jq aO.out aB) (by decide) (fun K hK=>?_)
 refine i_ func91 aB rfl #[ah bp,.int .u8 97] (by rfl) rfl rfl aX ?_
 with_reducible refine (sK.calls k bp 97 bb _ dd.out).mono ?_
 rintro e ec ⟨rfl,hb⟩
 refine ⟨_,rfl,?_⟩
 obtain ⟨iU,ac,HI0,gq,ig,iG,HK,HB⟩:=p_ (Kd.dw (aJ iU) hb) <| p_ (Kd.dw (aJ ac) hb) <| p_ (aS.below b_ hb) <| p_ (bZ (ak gq) hb) <| p_ (bZ (ak ig) hb) <| p_ (bZ (ak iG) hb) <| p_ (aV.trans pW (aV.of_below hb g none) (.inl rfl)) <| a_ (dP dZ hb)
 (try clear hb)
 refine hK.out _ _ ((aP iG.out 0).trans rfl) (fun hH=>?_)
 clear hK K
 refine eX (some 31) ?_
 refine cu 7 32 Ac aO ?_
 refine fD (i:=8) (N:=some 33) Px rfl rfl (jq aO.out aB) (by decide) (fun K hK=>?_)
 refine i_ func90 aB rfl #[.agg #[.slice av aa.length aw],.agg #[.string b0,.bool false,.string bb]] (by rfl) rfl rfl aX ?_
 with_reducible refine (jd.calls k _ _ aa b0 false bb bh _ aaz ((Kd.dN iU.out).2.1) de.out).mono ?_
 rintro e di ⟨ay7,rfl,ho0,hb⟩
 refine ⟨_,rfl,?_⟩
 obtain ⟨iU,ac,bq,HI0,gq,ig,iG,HK,HB⟩:=p_ (Kd.jX (aJ iU) (Kd.jo ho0) hb) <| p_ (Kd.dw (aJ ac) hb) <| p_ (Kd.dI (Kd.jY ho0 (Kd.jJ (aJ iU))) (jr (w:=w) (g:=g) (row:=none) pW)) <| p_ (aS.below b_ hb) <| p_ (bZ (ak gq) hb) <| p_ (bZ (ak ig) hb) <| p_ (bZ (ak iG) hb) <| p_ (aV.trans pW (aV.of_below hb g none) (.inl rfl)) <| a_ (dP dZ hb)
 (try clear hb)
 (try clear ho0)
 obtain ⟨d2,d3,cm⟩:=Kd.dK bq.out
 (first|subst cm|(injection cm with dV gU dW;have gV:=dV.symm;have gW:=dW.symm;clear dV gU dW;subst gV;subst gW))
 refine hK.out _ _ ((aP iG.out 0).trans rfl) (fun hH=>?_)
 clear hK K
 refine eX (some 33) ?_
 refine JO (i:=9) (N:=none) Py rfl rfl (jq aO.out aB) (by decide) (fun K hK=>?_)
 have aiM:di.cell? ⟨a6,0,none⟩=some (.slice av aa.length aw):=(aP iG.out 0).trans rfl
 have af4:=bP iG.out 0
 refine iM (w1:=?_) (by rfl) rfl ?_ ?_
 rotate_left
 ·go_simp
  rfl
 refine hK.out _ _ ?_
 clear hK K
 refine iP (ku aO.out aB) ?_
 have aaW:=dh iG.out
 obtain ⟨b5,b6⟩:=gB a9 CS
 have aBm:=dh ig.out
 try go_wp2
 refine bodyPost_ret (results_cell_row rfl _ _ a5 28 #[.slice d2 bh.length d3] (0,0) _ rfl aT underlying28 rfl aB) rfl ?_
 exact ⟨_,bM,(by (with_reducible repeat (first|apply Kd.dB|apply Kd.dD|apply Kd.aZ));exact Kd.bn (aH (aH (Kd.bQ (Kd.bQ bq.out iG.out (by decide)) ig.out (by decide)) (fun _ hk=>hk.1.2))) (fun _ hk=>trivial)),b_,dZ,pW⟩

def Ia.f (k:Nat) (l0:List Int):Option ((List (aF)) × ByteArray):=(vw.f k l0).bind fun a6=>((Eh.f a6.1 a6.2.1 a6.2.2).bind fun a5=>((wJ.f k a6.1 a5.2.2.2.2.1 a5.2.2.2.2.2 a5.1 a5.2.1 a5.2.2.1 a5.2.2.2.1).bind fun a7=>((zy.f a6.1 a7.2.1 a7.2.2).bind fun a8=>(some (a7.1,a8.1)))))
theorem Ia.calls (k:Nat) (A0:Option Addr) (c0:Nat) (l0:List Int) (r1:List (aF)) (r2:ByteArray) (w:World) (hr0:Kd.C (Kd.int .u8) w A0 l0.length l0) (hc0:l0.length≤c0) (h:Ia.f k l0=some (r1,r2)) :
  Calls Tryz.prog 69 #[.slice A0 l0.length c0] w fun e w'=>∃ eP:Value,e=.returned (.tuple #[.agg #[eP],.string r2])∧Kd.R aU 43 w' w.heap.size (fun _=>True) eP r1∧Below w.heap.size w w':=by
 have mF:=underlying28
 have HR0:=m_ hr0
 have b6:=m_ hc0
 clear hr0 hc0
 have HB:=m_ (Below.refl w.heap.size w)
 unfold Ia.f at h
 have H:=h
 clear h
 obtain ⟨⟨ac,ap,aq⟩,A2,H⟩:=bd_ H
 obtain ⟨⟨al,am,an,ao,ar,aW⟩,A3,H⟩:=bd_ H
 obtain ⟨⟨a9,ai,aN⟩,A4,H⟩:=bd_ H
 obtain ⟨⟨b0,b1,b2⟩,A5,H⟩:=bd_ H
 simp only [Option.some.injEq,Prod.mk.injEq] at H
 obtain ⟨rfl,rfl⟩:=H
 go_enter func69,ntmps69
 try go_wp2_with (first|((with_reducible refine dJ 2 ?_);refine dO 2 (cs:=#[.slice none 0 0]) 28 ?_;intro ab hg w6 hbox hb;obtain ⟨HB,a5,b3,UY⟩:=kL au hb hbox hg;clear hb hbox hg)|((with_reducible refine bT 39 ?_);refine bU (some 7) rfl rfl func39 aB rfl #[.slice A0 l0.length c0] rfl aX ?_;(with_reducible refine (vw.calls k _ _ l0 ac ap aq w _ ?kX HR0.out b6.out A2.out).mono ?_);(case kX=>repeat (first|(with_reducible first|exact HB.out|apply mY|apply qN|apply lC|refine iF ?_ UY.out)|exact HB.out));rintro e w7 ⟨yj,rfl,hi,hb,hb2⟩;refine ⟨_,rfl,?_⟩;obtain ⟨a5,HB,xw,abI,aa⟩:=p_ (bZ (ak a5) hb2) <| p_ (hb) <| p_ (hi) <| p_ (aS.Zq hi (bZ (ak a5) hb2) (by decide)) <| a_ (Ne.symm (aS.Zq hi (bZ (ak a5) hb2) (by decide)));(try clear hb);(try clear hb2);(try clear hi))|((with_reducible refine bT 40 ?_);refine bU (some 10) rfl rfl func40 aB rfl #[.pointer (some ⟨yj,0,none⟩)] rfl aX ?_;(with_reducible refine (Eh.calls yj ac ap aq al am an ao ar aW w _ b_ dZ A3.out).mono ?_);rintro e w8 ⟨rfl,hi,hb,hk⟩;refine ⟨_,rfl,?_⟩;obtain ⟨a5,HB,xw⟩:=p_ (aV.blk hk (g':=ab) (o:=.cells #[.slice none 0 0] 28) (ak a5) aa.out (by simp)) <| p_ (hb) <| a_ (hi);(try clear hb);(try clear hb2);(try clear hk);(try clear hi))|((with_reducible refine bT 41 ?_);refine bU (some 11) rfl rfl func41 aB rfl #[.pointer (some ⟨yj,0,none⟩),.agg #[ah al,ah am,ah an,ah ao]] rfl aX ?_;(with_reducible refine (wJ.calls k yj ac ar aW al am an ao a9 ai aN w _ b_ dZ A4.out).mono ?_);rintro e w9 ⟨ay9,rfl,ho0,hi,hb,hk⟩;refine ⟨_,rfl,?_⟩;obtain ⟨a5,a6,HB,xw⟩:=p_ (aV.blk hk (g':=ab) (o:=.cells #[.slice none 0 0] 28) (ak a5) aa.out (by simp)) <| p_ (Kd.dI ho0 (cZ dZ)) <| p_ (hb) <| a_ (hi);(try clear hb);(try clear hb2);(try clear hk);(try clear hi);(try clear ho0))|((with_reducible refine dJ 5 ?_);refine dO 5 (cs:=#[.slice none 0 0]) 28 ?_;intro a8 hg az hbox hb;have gy:=p_ (Kd.dw (aJ a6) hb) <| p_ (bZ (ak a5) hb) <| p_ (aS.below b_ hb) <| p_ (dP dZ hb) <| p_ (hbox) <| p_ (t_ hg dZ) <| p_ (t_ hg dZ) <| p_ (lV hg (gu (ak a5))) <| p_ (lQ hg (gu (ak a5))) <| p_ ((by rw [hg];exact Nat.ne_of_lt (aS.lt (show aS w _ yj ac ai aN from b_)):yj≠a8)) <| a_ ((by rw [hg];exact Nat.ne_of_gt (aS.lt (show aS w _ yj ac ai aN from b_)):a8≠yj));clear a6 a5 xw HB;obtain ⟨a6,a5,xw,HB,a7,b4,abr,aQ,ae,Vf,af⟩:=gy;clear hb hbox hg;obtain ⟨ag,aK,b5⟩:=Kd.dK a6.out;subst b5;obtain ⟨av,aw,ax,bH⟩:=g_ ae aQ af Vf;have Kr:=dh a7.out))
 have eF:aA (Kd.R aU 43 (az.setCell ⟨a8,0,none⟩ (.slice ag a9.length aK)) w.heap.size (fun _=>True) (.slice ag a9.length aK) a9):=⟨(by (with_reducible repeat (first|apply Kd.dB|apply Kd.dD|apply Kd.aZ));exact Kd.bn (aH (Kd.bQ a6.out a7.out (by decide))) (fun _ hk=>trivial))⟩
 have jF:aA ((az.setCell ⟨a8,0,none⟩ (.slice ag a9.length aK)).heap[ab]?=some (.cells #[.slice none 0 0] 28)):=⟨aT⟩
 have jG:aA ((az.setCell ⟨a8,0,none⟩ (.slice ag a9.length aK)).heap[a8]?=some (.cells #[.slice ag a9.length aK] 28)):=⟨aT⟩
 have jH:aA (aS w (az.setCell ⟨a8,0,none⟩ (.slice ag a9.length aK)) yj ac ai aN):=⟨b_⟩
 have jI:aA (Below w.heap.size w (az.setCell ⟨a8,0,none⟩ (.slice ag a9.length aK))):=⟨dZ⟩
 (try clear a6)
 (try clear a5)
 (try clear a7)
 (try clear xw)
 (try clear HB)
 generalize (az.setCell ⟨a8,0,none⟩ (.slice ag a9.length aK))=b7 at eF jF jG jH jI ⊢
 have a6:=eF
 have a5:=jF
 have a7:=jG
 have xw:=jH
 have HB:=jI
 clear eF jF jG jH jI
 obtain ⟨a6,a5,a7,xw,HB⟩:=p_ (Kd.aZ a6.out) <| p_ (iD a5.out) <| p_ (iD a7.out) <| p_ (aS.drew xw.out) <| a_ (lC HB.out)
 refine iT (n:=5) (S:=fun w'=>w'.cell? ⟨a8,0,none⟩=some (.slice ag a9.length aK)) (ds:=[]) Di aB rfl rfl ((aP a7.out 0).trans rfl) (fun hH=>?_)
 generalize b7.drew=b9 at a6 a5 a7 xw HB hH ⊢
 refine sN (i:=1) (N:=some 13) IX aB ?_
 refine lI (i:=0) (N:=some 12) (v:=?_) (a':=?_) IY rfl rfl aB (fun _ _ _ h=>h) (Or.inl ⟨(by rfl),?_⟩) hH ?_ ?_
 rotate_left
 ·intro w' s0
  go_simp
  with_reducible rfl
 rotate_left
 ·simp only [Act.put,List.setIfInBounds_toArray,List.set_cons_zero,List.set_cons_succ,aY,bf]
  rfl
 refine fD (i:=2) (N:=some 14) ER rfl rfl aB (by decide) (fun K hK=>?_)
 refine i_ func89 aB rfl #[.pointer (some ⟨yj,0,none⟩)] (by rfl) rfl rfl aX ?_
 with_reducible refine (zy.calls yj ac ai aN b0 b1 b2 w _ ?kX ?wH A5.out).mono ?_
 (case kX=>repeat (first|(with_reducible first|exact xw.out|apply aS.alloc|apply aS.drewN|apply aS.drew|apply aS.NJ|apply aS.NK|refine aS.far ?_ abI.out _|refine aS.far ?_ Vf.out _)|exact xw.out))
 (case wH=>repeat (first|(with_reducible first|exact HB.out|apply mY|apply qN|apply lC|refine iF ?_ (aS.ge xw.out)|refine iF ?_ UY.out|refine iF ?_ abr.out)|exact HB.out))
 rintro e b8 ⟨rfl,hi,hb,hk⟩
 refine ⟨_,rfl,?_⟩
 obtain ⟨a5,a6,a7,HB,xw⟩:=p_ (aV.blk hk (g':=ab) (o:=.cells #[.slice none 0 0] 28) (ak a5) aa.out (by simp)) <| p_ (Kd.bn (Kd.nN (aS.apart (show aS w _ yj ac ai aN from b_) (aJ a6) (by decide)) hk (fun _ h=>h.2)) (fun _ h=>h.1)) <| p_ (aV.blk hk (g':=a8) (o:=.cells #[.slice ag a9.length aK] 28) (ak a7) af.out (by simp)) <| p_ (hb) <| a_ (hi)
 (try clear hb)
 (try clear hk)
 (try clear hi)
 refine hK.out _ _ ((aP a7.out 0).trans rfl) (fun hH=>?_)
 clear hK K
 refine eX (some 14) ?_
 refine fD (i:=3) (N:=none) Dj rfl rfl aB (by decide) (fun K hK=>?_)
 have aiC:b8.cell? ⟨ab,0,none⟩=some (.slice none 0 0):=(aP a5.out 0).trans rfl
 have afS:=bP a5.out 0
 refine iM (w1:=?_) (by rfl) rfl ?_ ?_
 rotate_left
 ·go_simp
  rfl
 refine hK.out _ _ ((aG ae hH)) (fun hH=>?_)
 clear hK K
 refine sN (i:=4) (N:=some 3) Dk aB ?_
 refine iP aB ?_
 try go_wp2
 refine bodyPost_ret (Nz rfl _ _ ab 28 #[.slice ag a9.length aK] (0,0) _ rfl aT underlying28 rfl aB) rfl ?_
 exact ⟨_,bM,(by (with_reducible repeat (first|apply Kd.dB|apply Kd.dD|apply Kd.aZ));exact Kd.bn (aH (Kd.bQ a6.out a5.out (by decide))) (fun _ hk=>trivial)),dZ⟩

def BN.f (k:Nat) (l0:List Int):Option ((List (aF)) × ByteArray):=(Ia.f k l0).bind fun a5=>(some (a5.1,a5.2))
theorem BN.calls (k:Nat) (A0:Option Addr) (c0:Nat) (l0:List Int) (r1:List (aF)) (r2:ByteArray) (w:World) (hr0:Kd.C (Kd.int .u8) w A0 l0.length l0) (hc0:l0.length≤c0) (h:BN.f k l0=some (r1,r2)) :
  Calls Tryz.prog 23 #[.slice A0 l0.length c0] w fun e w'=>∃ eP:Value,e=.returned (.tuple #[.agg #[eP],.string r2])∧Kd.R aU 43 w' w.heap.size (fun _=>True) eP r1∧Below w.heap.size w w':=by
 have mF:=underlying28
 have HR0:=m_ hr0
 have ac:=m_ hc0
 clear hr0 hc0
 have HB:=m_ (Below.refl w.heap.size w)
 unfold BN.f at h
 have H:=h
 clear h
 obtain ⟨⟨a7,a9⟩,A2,H⟩:=bd_ H
 simp only [Option.some.injEq,Prod.mk.injEq] at H
 obtain ⟨rfl,rfl⟩:=H
 go_enter func23,ntmps23
 go_wp2_with (first|((with_reducible refine dJ 2 ?_);refine dO 2 (cs:=#[.slice none 0 0]) 28 ?_;intro a8 hg w3 hbox hb;obtain ⟨HB,a5,aa,ab⟩:=kL au hb hbox hg;clear hb hbox hg)|((with_reducible refine bT 69 ?_);refine bU (some 5) rfl rfl func69 aB rfl #[.slice A0 l0.length c0] rfl aX ?_;(with_reducible refine (Ia.calls k _ _ l0 a7 a9 _ Uw ac.out A2.out).mono ?_);rintro e w4 ⟨ay',rfl,ho0,hb⟩;refine ⟨_,rfl,?_⟩;obtain ⟨a6,a5,HB⟩:=p_ (Kd.dI ho0 (cZ au)) <| o_ (ak a5) au hb;(try clear hb);(try clear ho0);obtain ⟨ae,af,ag⟩:=Kd.dK a6.out;subst ag;have aaX:=dh a5.out))
 refine bodyPost_ret (Nz rfl _ _ a8 28 #[.slice ae a7.length af] (0,0) _ rfl aT underlying28 rfl aB) rfl ?_
 exact ⟨_,bM,(by (with_reducible repeat (first|apply Kd.dB|apply Kd.dD|apply Kd.aZ));exact Kd.bn (aH (Kd.bQ a6.out a5.out (by decide))) (fun _ hk=>trivial)),au⟩

end Go.Proofs.YthejdhjpbpamoaaGreatDoor.jD
