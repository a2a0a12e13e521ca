/- Contracts of Go functions: each call returns what the Lean function beside it computes. Conditions: as each theorem states them. -/
import Derived.Test.YtleoknilacjakaaGreatDoorPkFnExactReadPart
namespace Go.Proofs.YtleoknilacjakaaGreatDoor.PFnExactReadPart
open Go.RowKit Go.Proofs.YtleoknilacjakaaGreatDoorW.PrintWords Go.Proofs.YtleoknilacjakaaGreatDoorW.PrintLast Go.Proofs.YtleoknilacjakaaGreatDoorW.PrintMore
attribute [local go_sem] max2_int min2_int max_two min_two max_three min_three max_four min_four   -- for this text's walks alone
set_option linter.unusedVariables false
set_option maxHeartbeats 8000000
set_option maxRecDepth 100000
set_option linter.unusedSimpArgs false
theorem fc_ {c:Prop} [Decidable c] {α:Type} {x:Option α} {r:α} (h:(if c then x else none)=some r):c∧x=some r:=by
  by_cases k:c
  · rw [if_pos k] at h;exact ⟨k,h⟩
  · rw [if_neg k] at h;exact absurd h (by simp)
theorem fd_ {c:Prop} [Decidable c] {α:Type} {x:Option α} {r:α} (h:(if c then none else x)=some r):¬ c∧x=some r:=by
  by_cases k:c
  · rw [if_pos k] at h;exact absurd h (by simp)
  · rw [if_neg k] at h;exact ⟨k,h⟩
theorem bd_ {α β:Type} {o:Option α} {f:α→Option β} {r:β} (h:o.bind f=some r):∃ a,Aside0 (o=some a)∧f a=some r:=by
  obtain ⟨a,h1,h2⟩:=Option.bind_eq_some_iff.mp h
  exact ⟨a,⟨h1⟩,h2⟩
theorem bs_ {α β:Type} {a:α} {f:α→Option β} {r:β} (h:(some a).bind f=some r):∃ y,Aside0 (y=a)∧f y=some r:=⟨a,⟨rfl⟩,h⟩
theorem nf_:¬ (false=true):=by decide



def errW:Option Int→Value
  | none=>.nilIface
  | some c=>.iface 0 (.int .i64 c)
theorem bl_leq:∀ (x y:List UInt8),(Op.bytesLess x y || x == y)=!Op.bytesLess y x
 | [],[]=>by simp [Op.bytesLess]
 | [],_ :: _=>by simp [Op.bytesLess]
 | _ :: _,[]=>by simp [Op.bytesLess]
 | a :: x,b :: y=>by
  have ih:=bl_leq x y
  simp only [Op.bytesLess]
  rcases Nat.lt_trichotomy a.toNat b.toNat with h|h|h
  ·have h1:a < b:=UInt8.lt_iff_toNat_lt.2 h
   have h2:¬ b < a:=fun c=>by have:=UInt8.lt_iff_toNat_lt.1 c;omega
   have h3:¬ b=a:=fun c=>by subst c;omega
   simp [h1,h2,h3]
  ·have h1:a=b:=UInt8.toNat_inj.1 h
   subst h1
   have h2:¬ a < a:=fun c=>by have:=UInt8.lt_iff_toNat_lt.1 c;omega
   simpa [h2] using ih
  ·have h1:b < a:=UInt8.lt_iff_toNat_lt.2 h
   have h2:¬ a < b:=fun c=>by have:=UInt8.lt_iff_toNat_lt.1 c;omega
   have h3:¬ a=b:=fun c=>by subst c;omega
   simp [h1,h2,h3]
theorem bl_gtr (x y:List UInt8):(!Op.bytesLess y x && !(y == x))=Op.bytesLess x y:=by rw [← Bool.not_or,bl_leq,Bool.not_not]
theorem setCell_drewN (w:World) (n:Nat) (p:Addr) (v:Value):(w.drewN n).setCell p v=(w.setCell p v).drewN n:=rfl
theorem errW_none:errW none=.nilIface:=rfl
theorem errW_some (c:Int):errW (some c)=.iface 0 (.int .i64 c):=rfl

theorem info3:(Tryz.prog.info? 3).map (fun i=>(i.zero,i.size,i.bytes))=some (some (.int .i64 0),1,8):=by kernel_rfl
theorem info5:(Tryz.prog.info? 5).map (fun i=>(i.zero,i.size,i.bytes))=some (some (.int .u8 0),1,1):=by kernel_rfl
theorem info9:(Tryz.prog.info? 9).map (fun i=>(i.zero,i.size,i.bytes))=some (some (.string ⟨#[]⟩),1,16):=by kernel_rfl
theorem info62:(Tryz.prog.info? 62).map (fun i=>(i.zero,i.size,i.bytes))=some (some (.agg #[(.int .i64 0),(.int .i64 0),(.int .i64 0),(.string ⟨#[]⟩),(.slice none 0 0),(.slice none 0 0)]),6,88):=by kernel_rfl
theorem info78:(Tryz.prog.info? 78).map (fun i=>(i.zero,i.size,i.bytes))=some (some (.agg #[(.int .i64 0),(.string ⟨#[]⟩),(.bool false)]),3,32):=by kernel_rfl
theorem info86:(Tryz.prog.info? 86).map (fun i=>(i.zero,i.size,i.bytes))=some (some (.agg #[(.int .i64 0),(.int .i64 0),(.string ⟨#[]⟩)]),3,32):=by kernel_rfl
theorem info90:(Tryz.prog.info? 90).map (fun i=>(i.zero,i.size,i.bytes))=some (some (.agg #[(.int .i64 0),(.string ⟨#[]⟩)]),2,24):=by kernel_rfl
-- the values' own types
/-! #### struct type 76 -/
structure S76 where
  f0:Int
  f1:ByteArray
  f2:Bool
def z76:S76:=⟨(0:Int),(⟨#[]⟩:ByteArray),false⟩
def k76:Kd S76:=Kd.iso (Kd.pair (Kd.int .i64) (Kd.pair Kd.string Kd.bool)) (fun x:S76=>(x.f0,x.f1,x.f2))
theorem k76_open {w:World} {x:S76} {cs:List Value} (h:k76.K w x cs):cs=[.int .i64 x.f0,.string x.f1,.bool x.f2]:=by
  obtain ⟨_,_,rfl,rfl,⟨_,_,rfl,rfl,rfl⟩⟩:=h
  exact rfl
def rd_T76 (xs:List S76) (i:Int):S76:=xs.getD i.toNat z76
theorem at_T76 {w:World} {A:Option Addr} {n:Nat} {xs:List S76} (h:Kd.C k76 w A n xs) (i:Int) (h0:0≤i) (h1:i < n):∃ ad ,A=some ad∧w.cell? (ad.add (i.toNat * 3))=some (.int .i64 (rd_T76 xs i).f0)∧w.cell? ⟨(ad.add (i.toNat * 3)).block,(ad.add (i.toNat * 3)).off+1,none⟩=some (.string (rd_T76 xs i).f1)∧w.cell? ⟨(ad.add (i.toNat * 3)).block,(ad.add (i.toNat * 3)).off+2,none⟩=some (.bool (rd_T76 xs i).f2):=by
  obtain ⟨ad,c,e,_,hK,hc0⟩:=Kd.C_get h z76 i h0 h1
  have hc:∀ j u,c[j]?=some u→w.cell? (ad.add (i.toNat * 3+j))=some u:=hc0
  obtain rfl:=k76_open hK
  exact ⟨ad,e,hc 0 _ rfl,tq_76,tq_106⟩

/-! #### struct type 78 -/
structure S78 where
  f0:Int
  f1:ByteArray
  f2:Bool
def z78:S78:=⟨(0:Int),(⟨#[]⟩:ByteArray),false⟩
def k78:Kd S78:=Kd.iso (Kd.pair (Kd.int .i64) (Kd.pair Kd.string Kd.bool)) (fun x:S78=>(x.f0,x.f1,x.f2))
theorem k78_open {w:World} {x:S78} {cs:List Value} (h:k78.K w x cs):cs=[.int .i64 x.f0,.string x.f1,.bool x.f2]:=by
  obtain ⟨_,_,rfl,rfl,⟨_,_,rfl,rfl,rfl⟩⟩:=h
  exact rfl
theorem k78_openM {w:World} {base:Nat} {ok:Nat→Prop} {x:S78} {cs:List Value} (h:k78.M w base ok x cs):cs=[.int .i64 x.f0,.string x.f1,.bool x.f2]:=by
  obtain ⟨_,_,rfl,rfl,⟨_,_,rfl,rfl,rfl⟩⟩:=h
  exact rfl
theorem k78_mkM (w:World) (base:Nat) (ok:Nat→Prop) (x:S78) :k78.M w base ok x [.int .i64 x.f0,.string x.f1,.bool x.f2]:=⟨[.int .i64 x.f0],[.string x.f1,.bool x.f2],rfl,rfl,⟨[.string x.f1],[.bool x.f2],rfl,rfl,rfl⟩⟩
def rd_T78 (xs:List S78) (i:Int):S78:=xs.getD i.toNat z78
theorem at_T78 {w:World} {A:Option Addr} {n:Nat} {xs:List S78} (h:Kd.C k78 w A n xs) (i:Int) (h0:0≤i) (h1:i < n):∃ ad ,A=some ad∧w.cell? (ad.add (i.toNat * 3))=some (.int .i64 (rd_T78 xs i).f0)∧w.cell? ⟨(ad.add (i.toNat * 3)).block,(ad.add (i.toNat * 3)).off+1,none⟩=some (.string (rd_T78 xs i).f1)∧w.cell? ⟨(ad.add (i.toNat * 3)).block,(ad.add (i.toNat * 3)).off+2,none⟩=some (.bool (rd_T78 xs i).f2):=by
  obtain ⟨ad,c,e,_,hK,hc0⟩:=Kd.C_get h z78 i h0 h1
  have hc:∀ j u,c[j]?=some u→w.cell? (ad.add (i.toNat * 3+j))=some u:=hc0
  obtain rfl:=k78_open hK
  exact ⟨ad,e,hc 0 _ rfl,tq_76,tq_106⟩

/-! #### struct type 86 -/
structure S86 where
  f0:Int
  f1:Int
  f2:ByteArray
def z86:S86:=⟨(0:Int),(0:Int),(⟨#[]⟩:ByteArray)⟩
def k86:Kd S86:=Kd.iso (Kd.pair (Kd.int .i64) (Kd.pair (Kd.int .i64) Kd.string)) (fun x:S86=>(x.f0,x.f1,x.f2))
theorem k86_open {w:World} {x:S86} {cs:List Value} (h:k86.K w x cs):cs=[.int .i64 x.f0,.int .i64 x.f1,.string x.f2]:=by
  obtain ⟨_,_,rfl,rfl,⟨_,_,rfl,rfl,rfl⟩⟩:=h
  exact rfl
theorem k86_openM {w:World} {base:Nat} {ok:Nat→Prop} {x:S86} {cs:List Value} (h:k86.M w base ok x cs):cs=[.int .i64 x.f0,.int .i64 x.f1,.string x.f2]:=by
  obtain ⟨_,_,rfl,rfl,⟨_,_,rfl,rfl,rfl⟩⟩:=h
  exact rfl
theorem k86_mkM (w:World) (base:Nat) (ok:Nat→Prop) (x:S86) :k86.M w base ok x [.int .i64 x.f0,.int .i64 x.f1,.string x.f2]:=⟨[.int .i64 x.f0],[.int .i64 x.f1,.string x.f2],rfl,rfl,⟨[.int .i64 x.f1],[.string x.f2],rfl,rfl,rfl⟩⟩
def rd_T86 (xs:List S86) (i:Int):S86:=xs.getD i.toNat z86
theorem at_T86 {w:World} {A:Option Addr} {n:Nat} {xs:List S86} (h:Kd.C k86 w A n xs) (i:Int) (h0:0≤i) (h1:i < n):∃ ad ,A=some ad∧w.cell? (ad.add (i.toNat * 3))=some (.int .i64 (rd_T86 xs i).f0)∧w.cell? ⟨(ad.add (i.toNat * 3)).block,(ad.add (i.toNat * 3)).off+1,none⟩=some (.int .i64 (rd_T86 xs i).f1)∧w.cell? ⟨(ad.add (i.toNat * 3)).block,(ad.add (i.toNat * 3)).off+2,none⟩=some (.string (rd_T86 xs i).f2):=by
  obtain ⟨ad,c,e,_,hK,hc0⟩:=Kd.C_get h z86 i h0 h1
  have hc:∀ j u,c[j]?=some u→w.cell? (ad.add (i.toNat * 3+j))=some u:=hc0
  obtain rfl:=k86_open hK
  exact ⟨ad,e,hc 0 _ rfl,tq_76,tq_106⟩

/-! #### struct type 90 -/
structure S90 where
  f0:Int
  f1:ByteArray
def z90:S90:=⟨(0:Int),(⟨#[]⟩:ByteArray)⟩
def k90:Kd S90:=Kd.iso (Kd.pair (Kd.int .i64) Kd.string) (fun x:S90=>(x.f0,x.f1))
theorem k90_open {w:World} {x:S90} {cs:List Value} (h:k90.K w x cs):cs=[.int .i64 x.f0,.string x.f1]:=by
  obtain ⟨_,_,rfl,rfl,rfl⟩:=h
  exact rfl
theorem k90_openM {w:World} {base:Nat} {ok:Nat→Prop} {x:S90} {cs:List Value} (h:k90.M w base ok x cs):cs=[.int .i64 x.f0,.string x.f1]:=by
  obtain ⟨_,_,rfl,rfl,rfl⟩:=h
  exact rfl
theorem k90_mkM (w:World) (base:Nat) (ok:Nat→Prop) (x:S90) :k90.M w base ok x [.int .i64 x.f0,.string x.f1]:=⟨[.int .i64 x.f0],[.string x.f1],rfl,rfl,rfl⟩
def rd_T90 (xs:List S90) (i:Int):S90:=xs.getD i.toNat z90
theorem at_T90 {w:World} {A:Option Addr} {n:Nat} {xs:List S90} (h:Kd.C k90 w A n xs) (i:Int) (h0:0≤i) (h1:i < n):∃ ad ,A=some ad∧w.cell? (ad.add (i.toNat * 2))=some (.int .i64 (rd_T90 xs i).f0)∧w.cell? ⟨(ad.add (i.toNat * 2)).block,(ad.add (i.toNat * 2)).off+1,none⟩=some (.string (rd_T90 xs i).f1):=by
  obtain ⟨ad,c,e,_,hK,hc0⟩:=Kd.C_get h z90 i h0 h1
  have hc:∀ j u,c[j]?=some u→w.cell? (ad.add (i.toNat * 2+j))=some u:=hc0
  obtain rfl:=k90_open hK
  exact ⟨ad,e,hc 0 _ rfl,tq_76⟩

/-! #### struct type 62 -/
structure S62 where
  f0:Int
  f1:Int
  f2:Int
  f3:ByteArray
  f4:(List S86)
  f5:(List S90)
def z62:S62:=⟨(0:Int),(0:Int),(0:Int),(⟨#[]⟩:ByteArray),([]:List S86),([]:List S90)⟩
def k62:Kd S62:=Kd.iso (Kd.pair (Kd.int .i64) (Kd.pair (Kd.int .i64) (Kd.pair (Kd.int .i64) (Kd.pair Kd.string (Kd.pair (Kd.slice 86 k86) (Kd.slice 90 k90)))))) (fun x:S62=>(x.f0,x.f1,x.f2,x.f3,x.f4,x.f5))
theorem k62_open {w:World} {x:S62} {cs:List Value} (h:k62.K w x cs):∃ A4 c4 A5 c5,cs=[.int .i64 x.f0,.int .i64 x.f1,.int .i64 x.f2,.string x.f3,.slice A4 x.f4.length c4,.slice A5 x.f5.length c5]∧x.f4.length≤c4∧k86.C w A4 x.f4.length x.f4∧x.f5.length≤c5∧k90.C w A5 x.f5.length x.f5:=by
  obtain ⟨_,_,rfl,rfl,⟨_,_,rfl,rfl,⟨_,_,rfl,rfl,⟨_,_,rfl,rfl,⟨_,_,rfl,⟨A4,c4,rfl,l4,g4⟩,⟨A5,c5,rfl,l5,g5⟩⟩⟩⟩⟩⟩:=h
  exact ⟨A4,c4,A5,c5,rfl,l4,g4,l5,g5⟩
theorem k62_openM {w:World} {base:Nat} {ok:Nat→Prop} {x:S62} {cs:List Value} (h:k62.M w base ok x cs):∃ v4 v5,cs=[.int .i64 x.f0,.int .i64 x.f1,.int .i64 x.f2,.string x.f3,v4,v5]∧k86.R 86 w base ok v4 x.f4∧k90.R 90 w base ok v5 x.f5:=by
  obtain ⟨_,_,rfl,rfl,⟨_,_,rfl,rfl,⟨_,_,rfl,rfl,⟨_,_,rfl,rfl,⟨_,_,rfl,⟨v4,rfl,g4⟩,⟨v5,rfl,g5⟩⟩⟩⟩⟩⟩:=h
  exact ⟨v4,v5,rfl,g4,g5⟩
theorem k62_mkM (w:World) (base:Nat) (ok:Nat→Prop) (x:S62) {v4:Value} (g4:k86.R 86 w base ok v4 x.f4) {v5:Value} (g5:k90.R 90 w base ok v5 x.f5):k62.M w base ok x [.int .i64 x.f0,.int .i64 x.f1,.int .i64 x.f2,.string x.f3,v4,v5]:=⟨[.int .i64 x.f0],[.int .i64 x.f1,.int .i64 x.f2,.string x.f3,v4,v5],rfl,rfl,⟨[.int .i64 x.f1],[.int .i64 x.f2,.string x.f3,v4,v5],rfl,rfl,⟨[.int .i64 x.f2],[.string x.f3,v4,v5],rfl,rfl,⟨[.string x.f3],[v4,v5],rfl,rfl,⟨[v4],[v5],rfl,⟨v4,rfl,g4⟩,⟨v5,rfl,g5⟩⟩⟩⟩⟩⟩
def rd_T62 (xs:List S62) (i:Int):S62:=xs.getD i.toNat z62
theorem at_T62 {w:World} {A:Option Addr} {n:Nat} {xs:List S62} (h:Kd.C k62 w A n xs) (i:Int) (h0:0≤i) (h1:i < n):∃ ad A4 c4 A5 c5,A=some ad∧w.cell? (ad.add (i.toNat * 6))=some (.int .i64 (rd_T62 xs i).f0)∧w.cell? ⟨(ad.add (i.toNat * 6)).block,(ad.add (i.toNat * 6)).off+1,none⟩=some (.int .i64 (rd_T62 xs i).f1)∧w.cell? ⟨(ad.add (i.toNat * 6)).block,(ad.add (i.toNat * 6)).off+2,none⟩=some (.int .i64 (rd_T62 xs i).f2)∧w.cell? ⟨(ad.add (i.toNat * 6)).block,(ad.add (i.toNat * 6)).off+3,none⟩=some (.string (rd_T62 xs i).f3)∧w.cell? ⟨(ad.add (i.toNat * 6)).block,(ad.add (i.toNat * 6)).off+4,none⟩=some (.slice A4 (rd_T62 xs i).f4.length c4)∧w.cell? ⟨(ad.add (i.toNat * 6)).block,(ad.add (i.toNat * 6)).off+5,none⟩=some (.slice A5 (rd_T62 xs i).f5.length c5)∧(rd_T62 xs i).f4.length≤c4∧k86.C w A4 (rd_T62 xs i).f4.length (rd_T62 xs i).f4∧(rd_T62 xs i).f5.length≤c5∧k90.C w A5 (rd_T62 xs i).f5.length (rd_T62 xs i).f5:=by
  obtain ⟨ad,c,e,_,hK,hc0⟩:=Kd.C_get h z62 i h0 h1
  have hc:∀ j u,c[j]?=some u→w.cell? (ad.add (i.toNat * 6+j))=some u:=hc0
  obtain ⟨A4,c4,A5,c5,rfl,l4,g4,l5,g5⟩:=k62_open hK
  exact ⟨ad,A4,c4,A5,c5,e,hc 0 _ rfl,tq_76,tq_106,(by rw [← add_field _ _ 3 (by omega)];exact hc 3 _ rfl),(by rw [← add_field _ _ 4 (by omega)];exact hc 4 _ rfl),(by rw [← add_field _ _ 5 (by omega)];exact hc 5 _ rfl),l4,g4,l5,g5⟩

attribute [local go_sem] max2_int min2_int max_two min_two max_three min_three max_four min_four setCell_drewN   -- for this text's walks alone
def laws_szCell.f (a6:Int) (a5:ByteArray) (a7:Bool) (a1:Int):Option (Int):=if (wrap64 (a1 - (a5.size:Int))) < 0 then (some (-1)) else (some (wrap64 (a1 - (a5.size:Int))))
theorem laws_szCell.calls (a7:Int) (a6:ByteArray) (a8:Bool) (a1:Int) (r:Int) (w:World) (h:laws_szCell.f a7 a6 a8 a1=some r) :
  Calls Tryz.prog 40 #[.agg #[.int .i64 a7,.string a6,.bool a8],.int .i64 a1] w fun e w'=>e=.returned (.int .i64 r)∧Below w.heap.size w w':=by
 have hu76:=Tryz.underlying76
 have HB:=m_ (Below.refl w.heap.size w)
 unfold laws_szCell.f at h
 have H:=h
 clear h
 have aa:=m_ H
 clear H
 go_enter Tryz.func40,Tryz.ntmps40
 go_upto_if 11 with (first|((with_reducible refine gate_dst (N:=2) rfl ?_);refine be_ 2 (cs:=#[.int .i64 a7,.string a6,.bool a8]) 76 ?_;intro ab hg w4 hbox hb;have z_:=bx0_ th_ hb hbox hg;clear HB;obtain ⟨HB,a9,ac,ae⟩:=z_;clear hb hbox hg;have af:=bb3_ a9.out))
 (try simp only [Act.put,List.setIfInBounds_toArray,List.set_cons_zero,List.set_cons_succ])
 (try clear af)
 have H:=aa.out
 clear aa
 by_cases c6:(wrap64 (a1 - (a6.size:Int))) < 0
 ·rw [if_pos c6] at H
  have a5:=de_ c6
  clear c6
  (first|rw [a5]|(simp only [i64_w,i32_w];rw [a5])|skip)
  obtain rfl:=oi_ H
  go_wp2
  go_ret
  exact ⟨tq_1,th_⟩
 rw [if_neg c6] at H
 have a5:=df_ c6
 clear c6
 (first|rw [a5]|(simp only [i64_w,i32_w];rw [a5])|skip)
 obtain rfl:=oi_ H
 go_wp2
 go_ret
 exact ⟨tq_1,th_⟩

def laws_szCellS.l0:Nat→List (S76)→Int→Int→Option (Int)
 | 0,_,_,_=>none
 | k+1,x0,x1,x5=>if x5 < (x0.length:Int) then (if 0≤x5 then ((laws_szCell.f ((rd_T76 x0 x5).f0) ((rd_T76 x0 x5).f1) ((rd_T76 x0 x5).f2) x1).bind fun a5=>(if a5 < 0 then (some (-1)) else (laws_szCellS.l0 k x0 a5 (wrap64 (x5+1))))) else (none)) else (some x1)
def laws_szCellS.f (k:Nat) (l0:List (S76)) (a1:Int):Option (Int):=if (wrap64 (a1 - (l0.length:Int))) < 0 then (some (-1)) else (laws_szCellS.l0 k l0 (wrap64 (a1 - (l0.length:Int))) 0)
theorem laws_szCellS.calls (k:Nat) (A0:Option Addr) (c0:Nat) (l0:List (S76)) (a1:Int) (r:Int) (w:World) (hr0:Kd.C k76 w A0 l0.length l0) (hc0:l0.length≤c0) (h:laws_szCellS.f k l0 a1=some r) :
  Calls Tryz.prog 14 #[.slice A0 l0.length c0,.int .i64 a1] w fun e w'=>e=.returned (.int .i64 r)∧Below w.heap.size w w':=by
 have hu76:=Tryz.underlying76
 have HR0:=m_ hr0
 have al:=m_ hc0
 clear hr0 hc0
 have HB:=m_ (Below.refl w.heap.size w)
 unfold laws_szCellS.f at h
 have H:=h
 clear h
 by_cases c3:(wrap64 (a1 - (l0.length:Int))) < 0
 ·rw [if_pos c3] at H
  have af:=de_ c3
  clear c3
  obtain rfl:=oi_ H
  go_enter Tryz.func14,Tryz.ntmps14
  go_wp2
  go_ret
  exact ⟨tq_1,th_⟩
 rw [if_neg c3] at H
 have af:=df_ c3
 clear c3
 have H':=m_ H
 clear H
 go_enter Tryz.func14,Tryz.ntmps14
 go_wp2
 go_loopg [1,5] k (fun kq v1 v5 w'=>∃ (a9:Int) (a5:Int),v1=.int .i64 a9∧v5=.int .i64 a5∧Aside0 (laws_szCellS.l0 kq l0 a9 a5=some r)∧Aside0 (kq≤k)∧Aside0 (Below w.heap.size w w'))
 case atStart=>exact ⟨(wrap64 (a1 - (l0.length:Int))),(0),tq_3,tq_3,H',⟨Nat.le_refl _⟩,⟨th_⟩⟩
 case round =>
 clear H'
 try clear c1;try clear p2;try clear c3;try clear af
 obtain ⟨a9,a5,rfl,rfl,HA,HK1,HB⟩:=hrel
 cases gk with
 | zero=>exact absurd HA.out (by simp [laws_szCellS.l0])
 | succ k1 =>
 have H:=HA.out
 clear HA
 simp only [laws_szCellS.l0] at H
 by_cases c4:a5 < (l0.length:Int)
 rotate_left
 ·rw [if_neg c4] at H
  have ag:=df_ c4
  clear c4
  obtain rfl:=oi_ H
  go_wp2
  go_ret
  exact ⟨tq_1,th_⟩
 rw [if_pos c4] at H
 have ag:=de_ c4
 clear c4
 obtain ⟨c5,H⟩:=fc_ H
 have ak:=de_ c5
 clear c5
 obtain ⟨ab,A6,H⟩:=bd_ H
 have ai:=m_ H
 clear H
 have ac:0≤(a5:Int):=od_ tq_2
 have ae:a5 < (l0.length:Int):=od_ tq_2
 obtain ⟨aj,ah,a6,a7,a8⟩:=at_T76 HR0.out a5 ac ae
 cases ah
 replace a6:=hx_ HB.out a6
 replace a7:=hx_ HB.out a7
 replace a8:=hx_ HB.out a8
 replace ac:=eq_true ac
 replace ae:=eq_true ae
 go_upto_if 25 with (first|((with_reducible refine gate_callee (f:=40) rfl ?_);refine goesL_ (some 23) rfl rfl Tryz.func40 kr_ rfl #[.agg #[.int .i64 ((rd_T76 l0 a5).f0),.string ((rd_T76 l0 a5).f1),.bool ((rd_T76 l0 a5).f2)],.int .i64 a9] rfl tq_0 ?_;(with_reducible refine (laws_szCell.calls ((rd_T76 l0 a5).f0) ((rd_T76 l0 a5).f1) ((rd_T76 l0 a5).f2) a9 ab _ A6.out).mono ?_);rintro e w8 ⟨rfl,hb⟩;refine ⟨_,rfl,?_⟩;have n0_:=m_ (below_step th_ hb);clear HB;have HB:=n0_;clear n0_;(try clear hb)))
 (try simp only [Act.put,List.setIfInBounds_toArray,List.set_cons_zero,List.set_cons_succ])
 (try clear a6 a7 a8)
 have H:=ai.out
 clear ai
 by_cases c9:ab < 0
 ·rw [if_pos c9] at H
  have aa:=de_ c9
  clear c9
  (first|rw [aa]|(simp only [i64_w,i32_w];rw [aa])|skip)
  obtain rfl:=oi_ H
  go_wp2
  go_ret
  exact ⟨tq_1,th_⟩
 rw [if_neg c9] at H
 have aa:=df_ c9
 clear c9
 (first|rw [aa]|(simp only [i64_w,i32_w];rw [aa])|skip)
 have H':=m_ H
 clear H
 go_wp2
 go_roundg k1
 case measure=>have:=HK1.out;omega
 case rel=>exact ⟨(ab),(wrap64 (a5+1)),tq_3,tq_3,H',⟨tq_14⟩,⟨th_⟩⟩

def laws_szMemory.f (k:Nat) (a5:ByteArray) (a7:List (S76)) (a1:Int):Option (Int):=if (wrap64 (a1 - (a5.size:Int))) < 0 then (some (-1)) else ((laws_szCellS.f k a7 (wrap64 (a1 - (a5.size:Int)))).bind fun a6=>(if a6 < 0 then (some (-1)) else (some a6)))
theorem laws_szMemory.calls (k:Nat) (a8:ByteArray) (aa:Option Addr) (ab:Nat) (a5:List (S76)) (a1:Int) (r:Int) (w:World) (ac:Kd.C k76 w aa a5.length a5) (ae:a5.length≤ab) (h:laws_szMemory.f k a8 a5 a1=some r) :
  Calls Tryz.prog 4 #[.agg #[.string a8,.slice aa a5.length ab],.int .i64 a1] w fun e w'=>e=.returned (.int .i64 r)∧Below w.heap.size w w':=by
 have hu24:=Tryz.underlying24
 have HR0_1:=m_ ac
 have ag:=m_ ae
 clear ac ae
 have HB:=m_ (Below.refl w.heap.size w)
 unfold laws_szMemory.f at h
 have H:=h
 clear h
 have ai:=m_ H
 clear H
 go_enter Tryz.func4,Tryz.ntmps4
 go_upto_if 11 with (first|((with_reducible refine gate_dst (N:=2) rfl ?_);refine be_ 2 (cs:=#[.string a8,.slice aa a5.length ab]) 24 ?_;intro aj hg w4 hbox hb;have z_:=bx0_ th_ hb hbox hg;clear HB;obtain ⟨HB,a6,ak,al⟩:=z_;clear hb hbox hg;have an:=bb2_ a6.out))
 (try simp only [Act.put,List.setIfInBounds_toArray,List.set_cons_zero,List.set_cons_succ])
 (try clear an)
 have H:=ai.out
 clear ai
 by_cases c6:(wrap64 (a1 - (a8.size:Int))) < 0
 ·rw [if_pos c6] at H
  have a9:=de_ c6
  clear c6
  (first|rw [a9]|(simp only [i64_w,i32_w];rw [a9])|skip)
  obtain rfl:=oi_ H
  go_wp2
  go_ret
  exact ⟨tq_1,th_⟩
 rw [if_neg c6] at H
 have a9:=df_ c6
 clear c6
 (first|rw [a9]|(simp only [i64_w,i32_w];rw [a9])|skip)
 obtain ⟨ah,A7,H⟩:=bd_ H
 have am:=m_ H
 clear H
 have ao:=bb2_ a6.out
 go_upto_if 17 with (first|((with_reducible refine gate_callee (f:=14) rfl ?_);refine goesL_ (some 15) rfl rfl Tryz.func14 kr_ rfl #[.slice aa a5.length ab,.int .i64 (wrap64 (a1 - (a8.size:Int)))] rfl tq_0 ?_;(with_reducible refine (laws_szCellS.calls k _ _ a5 (wrap64 (a1 - (a8.size:Int))) ah _ ?side1 ?side2 A7.out).mono ?_);(case side1=>exact tq_4);(case side2=>exact ag.out);rintro e ap ⟨rfl,hb⟩;refine ⟨_,rfl,?_⟩;have z_:=bw1_ (kb_ a6) th_ hb;clear a6 HB;obtain ⟨a6,HB⟩:=z_;(try clear hb)))
 (try simp only [Act.put,List.setIfInBounds_toArray,List.set_cons_zero,List.set_cons_succ])
 (try clear ao)
 have H:=am.out
 clear am
 by_cases af:ah < 0
 ·rw [if_pos af] at H
  have a7:=de_ af
  clear af
  (first|rw [a7]|(simp only [i64_w,i32_w];rw [a7])|skip)
  obtain rfl:=oi_ H
  go_wp2
  go_ret
  exact ⟨tq_1,th_⟩
 rw [if_neg af] at H
 have a7:=df_ af
 clear af
 (first|rw [a7]|(simp only [i64_w,i32_w];rw [a7])|skip)
 obtain rfl:=oi_ H
 go_wp2
 go_ret
 exact ⟨tq_1,th_⟩

def spec_l01In.f (a0:Int) (a1:Int) (a2:Int):Option (Bool):=if a0 ≥ a1 then (some (decide (a0≤a2))) else (some false)
theorem spec_l01In.calls (a0:Int) (a1:Int) (a2:Int) (r:Bool) (w:World) (h:spec_l01In.f a0 a1 a2=some r) :
  Calls Tryz.prog 42 #[.int .i64 a0,.int .i64 a1,.int .i64 a2] w fun e w'=>e=.returned (.bool r)∧Drawn0 w w':=by
 unfold spec_l01In.f at h
 have H:=h
 clear h
 by_cases c4:a0 ≥ a1
 ·rw [if_pos c4] at H
  have a5:=de_ c4
  clear c4
  obtain rfl:=oi_ H
  go_enter Tryz.func42,Tryz.ntmps42
  go_wp2
  go_ret
  exact ⟨tq_3,tq_8⟩
 rw [if_neg c4] at H
 have a5:=df_ c4
 clear c4
 obtain rfl:=oi_ H
 go_enter Tryz.func42,Tryz.ntmps42
 go_wp2
 go_ret
 exact ⟨tq_3,tq_8⟩

def spec_GeoOk.f (a6:Int) (a5:Int) (a7:Int) (a8:Int):Option (Bool):=(spec_l01In.f a6 1 3).bind fun a9=>(if a9=true then ((spec_l01In.f a5 5 12).bind fun aa=>(if aa=true then ((spec_l01In.f a7 2 6).bind fun ab=>(if ab=true then ((spec_l01In.f a8 1 (wrap64 (a5 - 4))).bind fun ac=>(some ac)) else (some false))) else (some false))) else (some false))
theorem spec_GeoOk.calls (a5:Int) (a7:Int) (a8:Int) (a9:Int) (r:Bool) (w:World) (h:spec_GeoOk.f a5 a7 a8 a9=some r) :
  Calls Tryz.prog 43 #[.agg #[.int .i64 a5,.int .i64 a7,.int .i64 a8,.int .i64 a9]] w fun e w'=>e=.returned (.bool r)∧Below w.heap.size w w':=by
 have hu38:=Tryz.underlying38
 have HB:=m_ (Below.refl w.heap.size w)
 unfold spec_GeoOk.f at h
 have H:=h
 clear h
 obtain ⟨ae,A2,H⟩:=bd_ H
 by_cases c3:ae=true
 rotate_left
 ·replace c3:=Bool.eq_false_iff.mpr c3
  subst c3
  rw [if_neg nf_] at H
  obtain rfl:=oi_ H
  go_enter Tryz.func43,Tryz.ntmps43
  go_wp2_with (first|((with_reducible refine gate_dst (N:=1) rfl ?_);refine be_ 1 (cs:=#[.int .i64 a5,.int .i64 a7,.int .i64 a8,.int .i64 a9]) 38 ?_;intro aa hg am hbox hb;have z_:=bx0_ th_ hb hbox hg;clear HB;obtain ⟨HB,a6,ab,ac⟩:=z_;clear hb hbox hg;have ai:=bb4_ a6.out)|((with_reducible refine gate_callee (f:=42) rfl ?_);refine goesL_ (some 5) rfl rfl Tryz.func42 kr_ rfl #[.int .i64 a5,.int .i64 1,.int .i64 3] rfl tq_0 ?_;(with_reducible refine (spec_l01In.calls a5 1 3 false _ A2.out).mono ?_);rintro e w' ⟨rfl,⟨nd,rfl⟩⟩;refine ⟨_,rfl,?_⟩))
  go_ret
  exact ⟨tq_1,th_⟩
 subst c3
 rw [if_pos rfl] at H
 obtain ⟨af,A4,H⟩:=bd_ H
 by_cases c5:af=true
 rotate_left
 ·replace c5:=Bool.eq_false_iff.mpr c5
  subst c5
  rw [if_neg nf_] at H
  obtain rfl:=oi_ H
  go_enter Tryz.func43,Tryz.ntmps43
  go_wp2_with (first|((with_reducible refine gate_dst (N:=1) rfl ?_);refine be_ 1 (cs:=#[.int .i64 a5,.int .i64 a7,.int .i64 a8,.int .i64 a9]) 38 ?_;intro aa hg an hbox hb;have z_:=bx0_ th_ hb hbox hg;clear HB;obtain ⟨HB,a6,ab,ac⟩:=z_;clear hb hbox hg;have aj:=bb4_ a6.out)|((with_reducible refine gate_callee (f:=42) rfl ?_);refine goesL_ (some 5) rfl rfl Tryz.func42 kr_ rfl #[.int .i64 a5,.int .i64 1,.int .i64 3] rfl tq_0 ?_;(with_reducible refine (spec_l01In.calls a5 1 3 true _ A2.out).mono ?_);rintro e w' ⟨rfl,⟨nd,rfl⟩⟩;refine ⟨_,rfl,?_⟩)|(go_at_call 42;(with_reducible refine (spec_l01In.calls a7 5 12 false _ A4.out).mono ?_);rintro e w' ⟨rfl,⟨nd,rfl⟩⟩))
  go_ret
  exact ⟨tq_1,th_⟩
 subst c5
 rw [if_pos rfl] at H
 obtain ⟨ag,A6,H⟩:=bd_ H
 by_cases c7:ag=true
 rotate_left
 ·replace c7:=Bool.eq_false_iff.mpr c7
  subst c7
  rw [if_neg nf_] at H
  obtain rfl:=oi_ H
  go_enter Tryz.func43,Tryz.ntmps43
  go_wp2_with (first|((with_reducible refine gate_dst (N:=1) rfl ?_);refine be_ 1 (cs:=#[.int .i64 a5,.int .i64 a7,.int .i64 a8,.int .i64 a9]) 38 ?_;intro aa hg ao hbox hb;have z_:=bx0_ th_ hb hbox hg;clear HB;obtain ⟨HB,a6,ab,ac⟩:=z_;clear hb hbox hg;have ak:=bb4_ a6.out)|((with_reducible refine gate_callee (f:=42) rfl ?_);refine goesL_ (some 5) rfl rfl Tryz.func42 kr_ rfl #[.int .i64 a5,.int .i64 1,.int .i64 3] rfl tq_0 ?_;(with_reducible refine (spec_l01In.calls a5 1 3 true _ A2.out).mono ?_);rintro e w' ⟨rfl,⟨nd,rfl⟩⟩;refine ⟨_,rfl,?_⟩)|(go_at_call 42;(with_reducible refine (spec_l01In.calls a7 5 12 true _ A4.out).mono ?_);rintro e w' ⟨rfl,⟨nd,rfl⟩⟩)|(go_at_call 42;(with_reducible refine (spec_l01In.calls a8 2 6 false _ A6.out).mono ?_);rintro e w' ⟨rfl,⟨nd,rfl⟩⟩))
  go_ret
  exact ⟨tq_1,th_⟩
 subst c7
 rw [if_pos rfl] at H
 obtain ⟨ah,A8,H⟩:=bd_ H
 obtain rfl:=oi_ H
 go_enter Tryz.func43,Tryz.ntmps43
 go_wp2_with (first|((with_reducible refine gate_dst (N:=1) rfl ?_);refine be_ 1 (cs:=#[.int .i64 a5,.int .i64 a7,.int .i64 a8,.int .i64 a9]) 38 ?_;intro aa hg w9 hbox hb;have z_:=bx0_ th_ hb hbox hg;clear HB;obtain ⟨HB,a6,ab,ac⟩:=z_;clear hb hbox hg;have al:=bb4_ a6.out)|((with_reducible refine gate_callee (f:=42) rfl ?_);refine goesL_ (some 5) rfl rfl Tryz.func42 kr_ rfl #[.int .i64 a5,.int .i64 1,.int .i64 3] rfl tq_0 ?_;(with_reducible refine (spec_l01In.calls a5 1 3 true _ A2.out).mono ?_);rintro e w' ⟨rfl,⟨nd,rfl⟩⟩;refine ⟨_,rfl,?_⟩)|(go_at_call 42;(with_reducible refine (spec_l01In.calls a7 5 12 true _ A4.out).mono ?_);rintro e w' ⟨rfl,⟨nd,rfl⟩⟩)|(go_at_call 42;(with_reducible refine (spec_l01In.calls a8 2 6 true _ A6.out).mono ?_);rintro e w' ⟨rfl,⟨nd,rfl⟩⟩)|(go_at_call 42;(with_reducible refine (spec_l01In.calls a9 1 (wrap64 (a7 - 4)) ah _ A8.out).mono ?_);rintro e w' ⟨rfl,⟨nd,rfl⟩⟩))
 go_ret
 exact ⟨tq_1,th_⟩

def spec_PartWords.f (a7:Int) (a5:Int) (a6:Int) (a8:Int):Option (Int):=(spec_GeoOk.f a7 a5 a6 a8).bind fun a9=>(if a9=true then (some (wrap64 ((wrap64 (38+(wrap64 (8 * a6))))+(wrap64 (4 * a5))))) else (some 0))
theorem spec_PartWords.calls (a6:Int) (a7:Int) (a8:Int) (a9:Int) (r:Int) (w:World) (h:spec_PartWords.f a6 a7 a8 a9=some r) :
  Calls Tryz.prog 18 #[.agg #[.int .i64 a6,.int .i64 a7,.int .i64 a8,.int .i64 a9]] w fun e w'=>e=.returned (.int .i64 r)∧Below w.heap.size w w':=by
 have hu38:=Tryz.underlying38
 have HB:=m_ (Below.refl w.heap.size w)
 unfold spec_PartWords.f at h
 have H:=h
 clear h
 obtain ⟨aa,A2,H⟩:=bd_ H
 have ab:=m_ H
 clear H
 go_enter Tryz.func18,Tryz.ntmps18
 go_upto_if 5 with (first|((with_reducible refine gate_dst (N:=1) rfl ?_);refine be_ 1 (cs:=#[.int .i64 a6,.int .i64 a7,.int .i64 a8,.int .i64 a9]) 38 ?_;intro ac hg w4 hbox hb;have z_:=bx0_ th_ hb hbox hg;clear HB;obtain ⟨HB,a5,ae,af⟩:=z_;clear hb hbox hg;have ag:=bb4_ a5.out)|((with_reducible refine gate_callee (f:=43) rfl ?_);refine goesL_ (some 4) rfl rfl Tryz.func43 kr_ rfl #[.agg #[.int .i64 a6,.int .i64 a7,.int .i64 a8,.int .i64 a9]] rfl tq_0 ?_;(with_reducible refine (spec_GeoOk.calls a6 a7 a8 a9 aa _ A2.out).mono ?_);rintro e w6 ⟨rfl,hb⟩;refine ⟨_,rfl,?_⟩;have z_:=bw1_ (kb_ a5) th_ hb;clear a5 HB;obtain ⟨a5,HB⟩:=z_;(try clear hb)))
 (try simp only [Act.put,List.setIfInBounds_toArray,List.set_cons_zero,List.set_cons_succ])
 (try clear ag)
 have H:=ab.out
 clear ab
 by_cases c7:aa=true
 rotate_left
 ·replace c7:=Bool.eq_false_iff.mpr c7
  subst c7
  rw [if_neg nf_] at H
  obtain rfl:=oi_ H
  go_wp2
  go_ret
  exact ⟨tq_1,th_⟩
 subst c7
 rw [if_pos rfl] at H
 obtain rfl:=oi_ H
 have ah:=bb4_ a5.out
 go_wp2
 go_ret
 exact ⟨tq_1,th_⟩

def spec_l11At.f (a5:Int) (a6:Int) (a7:Int) (a8:Int) (a1:Int) (a2:Int):Option (Int):=(spec_GeoOk.f a5 a6 a7 a8).bind fun a9=>(if a9=true then ((spec_l01In.f a1 0 (wrap64 (a5 - 1))).bind fun aa=>(if aa=true then ((spec_PartWords.f a5 a6 a7 a8).bind fun ab=>(some (wrap64 ((wrap64 (a1 * ab))+a2)))) else (some (-1)))) else (some (-1)))
theorem spec_l11At.calls (a6:Int) (a7:Int) (a8:Int) (a9:Int) (a1:Int) (a2:Int) (r:Int) (w:World) (h:spec_l11At.f a6 a7 a8 a9 a1 a2=some r) :
  Calls Tryz.prog 24 #[.agg #[.int .i64 a6,.int .i64 a7,.int .i64 a8,.int .i64 a9],.int .i64 a1,.int .i64 a2] w fun e w'=>e=.returned (.int .i64 r)∧Below w.heap.size w w':=by
 have hu38:=Tryz.underlying38
 have HB:=m_ (Below.refl w.heap.size w)
 unfold spec_l11At.f at h
 have H:=h
 clear h
 obtain ⟨ah,A4,H⟩:=bd_ H
 by_cases c5:ah=true
 rotate_left
 ·replace c5:=Bool.eq_false_iff.mpr c5
  subst c5
  rw [if_neg nf_] at H
  obtain rfl:=oi_ H
  go_enter Tryz.func24,Tryz.ntmps24
  go_wp2_with (first|((with_reducible refine gate_dst (N:=3) rfl ?_);refine be_ 3 (cs:=#[.int .i64 a6,.int .i64 a7,.int .i64 a8,.int .i64 a9]) 38 ?_;intro aa hg ao hbox hb;have z_:=bx0_ th_ hb hbox hg;clear HB;obtain ⟨HB,a5,ab,ac⟩:=z_;clear hb hbox hg;have al:=bb4_ a5.out)|((with_reducible refine gate_callee (f:=43) rfl ?_);refine goesL_ (some 8) rfl rfl Tryz.func43 kr_ rfl #[.agg #[.int .i64 a6,.int .i64 a7,.int .i64 a8,.int .i64 a9]] rfl tq_0 ?_;(with_reducible refine (spec_GeoOk.calls a6 a7 a8 a9 false _ A4.out).mono ?_);rintro e ap ⟨rfl,hb⟩;refine ⟨_,rfl,?_⟩;have z_:=bw1_ (kb_ a5) th_ hb;clear a5 HB;obtain ⟨a5,HB⟩:=z_;(try clear hb)))
  go_ret
  exact ⟨tq_1,th_⟩
 subst c5
 rw [if_pos rfl] at H
 obtain ⟨ae,A6,H⟩:=bd_ H
 have aj:=m_ H
 clear H
 go_enter Tryz.func24,Tryz.ntmps24
 go_upto_if 17 with (first|((with_reducible refine gate_dst (N:=3) rfl ?_);refine be_ 3 (cs:=#[.int .i64 a6,.int .i64 a7,.int .i64 a8,.int .i64 a9]) 38 ?_;intro aa hg w8 hbox hb;have z_:=bx0_ th_ hb hbox hg;clear HB;obtain ⟨HB,a5,ab,ac⟩:=z_;clear hb hbox hg;have ak:=bb4_ a5.out)|((with_reducible refine gate_callee (f:=43) rfl ?_);refine goesL_ (some 8) rfl rfl Tryz.func43 kr_ rfl #[.agg #[.int .i64 a6,.int .i64 a7,.int .i64 a8,.int .i64 a9]] rfl tq_0 ?_;(with_reducible refine (spec_GeoOk.calls a6 a7 a8 a9 true _ A4.out).mono ?_);rintro e aq ⟨rfl,hb⟩;refine ⟨_,rfl,?_⟩;have z_:=bw1_ (kb_ a5) th_ hb;clear a5 HB;obtain ⟨a5,HB⟩:=z_;(try clear hb);have af:=bb4_ a5.out)|(go_at_call 42;(with_reducible refine (spec_l01In.calls a1 0 (wrap64 (a6 - 1)) ae _ A6.out).mono ?_);rintro e w' ⟨rfl,⟨nd,rfl⟩⟩))
 (try simp only [Act.put,List.setIfInBounds_toArray,List.set_cons_zero,List.set_cons_succ])
 (try clear af)
 (try clear ak)
 (try clear af)
 (try clear ak)
 have H:=aj.out
 clear aj
 by_cases ag:ae=true
 rotate_left
 ·replace ag:=Bool.eq_false_iff.mpr ag
  subst ag
  rw [if_neg nf_] at H
  obtain rfl:=oi_ H
  go_wp2
  go_ret
  exact ⟨tq_1,th_⟩
 subst ag
 rw [if_pos rfl] at H
 obtain ⟨ai,am,H⟩:=bd_ H
 obtain rfl:=oi_ H
 have an:=bb4_ a5.out
 go_wp2_with (first|((with_reducible refine gate_callee (f:=18) rfl ?_);refine goesL_ (some 20) rfl rfl Tryz.func18 kr_ rfl #[.agg #[.int .i64 a6,.int .i64 a7,.int .i64 a8,.int .i64 a9]] rfl tq_0 ?_;(with_reducible refine (spec_PartWords.calls a6 a7 a8 a9 ai _ am.out).mono ?_);rintro e ar ⟨rfl,hb⟩;refine ⟨_,rfl,?_⟩;have z_:=bw1_ (kb_ a5) th_ hb;clear a5 HB;obtain ⟨a5,HB⟩:=z_;(try clear hb)))
 go_ret
 exact ⟨tq_1,th_⟩

def spec_CommitAt.f (a5:Int) (a6:Int) (a7:Int) (a8:Int) (a1:Int):Option (Int):=(spec_l11At.f a5 a6 a7 a8 a1 0).bind fun a9=>(some a9)
theorem spec_CommitAt.calls (a6:Int) (a7:Int) (a8:Int) (a9:Int) (a1:Int) (r:Int) (w:World) (h:spec_CommitAt.f a6 a7 a8 a9 a1=some r) :
  Calls Tryz.prog 15 #[.agg #[.int .i64 a6,.int .i64 a7,.int .i64 a8,.int .i64 a9],.int .i64 a1] w fun e w'=>e=.returned (.int .i64 r)∧Below w.heap.size w w':=by
 have hu38:=Tryz.underlying38
 have HB:=m_ (Below.refl w.heap.size w)
 unfold spec_CommitAt.f at h
 have H:=h
 clear h
 obtain ⟨aa,A3,H⟩:=bd_ H
 obtain rfl:=oi_ H
 go_enter Tryz.func15,Tryz.ntmps15
 go_wp2_with (first|((with_reducible refine gate_dst (N:=2) rfl ?_);refine be_ 2 (cs:=#[.int .i64 a6,.int .i64 a7,.int .i64 a8,.int .i64 a9]) 38 ?_;intro ab hg w4 hbox hb;have z_:=bx0_ th_ hb hbox hg;clear HB;obtain ⟨HB,a5,ac,ae⟩:=z_;clear hb hbox hg;have af:=bb4_ a5.out)|((with_reducible refine gate_callee (f:=24) rfl ?_);refine goesL_ (some 7) rfl rfl Tryz.func24 kr_ rfl #[.agg #[.int .i64 a6,.int .i64 a7,.int .i64 a8,.int .i64 a9],.int .i64 a1,.int .i64 0] rfl tq_0 ?_;(with_reducible refine (spec_l11At.calls a6 a7 a8 a9 a1 0 aa _ A3.out).mono ?_);rintro e w6 ⟨rfl,hb⟩;refine ⟨_,rfl,?_⟩;have z_:=bw1_ (kb_ a5) th_ hb;clear a5 HB;obtain ⟨a5,HB⟩:=z_;(try clear hb)))
 go_ret
 exact ⟨tq_1,th_⟩

def spec_l10Size.f :Option (Int):=some 16
theorem spec_l10Size.calls  (r:Int) (w:World) (h:spec_l10Size.f =some r) :
  Calls Tryz.prog 41 #[] w fun e w'=>e=.returned (.int .i64 r)∧Drawn0 w w':=by
 unfold spec_l10Size.f at h
 have H:=h
 clear h
 obtain rfl:=oi_ H
 go_enter Tryz.func41,Tryz.ntmps41
 go_wp2
 go_ret
 exact ⟨tq_3,tq_8⟩

attribute [local go_sem] max2_int min2_int max_two min_two max_three min_three max_four min_four setCell_drewN   -- for this text's walks alone
mutual
def spec_MemoryOk.j0:Nat→Bool→ByteArray→List (S78)→Option (Bool)
 | 0,_,_,_=>none
 | k+1,a7,a5,a6=>if a7=true then (some false) else (spec_MemoryOk.l0 k 0 a5 a6)
def spec_MemoryOk.l0:Nat→Int→ByteArray→List (S78)→Option (Bool)
 | 0,_,_,_=>none
 | k+1,x3,a6,a5=>if x3 < (a5.length:Int) then (if 0≤x3 then ((spec_l10Size.f).bind fun a7=>(if a7=0 then (none) else ((spec_l01In.f ((rd_T78 a5 x3).f0) 0 (wrap64 ((wrap64 ((a6.size:Int) / a7)) - 1))).bind fun a8=>(if a8=true then ((spec_l10Size.f).bind fun a9=>(if (((rd_T78 a5 x3).f1).size:Int)=a9 then (if x3 > 0 then (if 0≤(wrap64 (x3 - 1)) then (if (wrap64 (x3 - 1)) < (a5.length:Int) then (if ((rd_T78 a5 (wrap64 (x3 - 1))).f0) ≥ ((rd_T78 a5 x3).f0) then (some false) else (spec_MemoryOk.l0 k (wrap64 (x3+1)) a6 a5)) else (none)) else (none)) else (spec_MemoryOk.l0 k (wrap64 (x3+1)) a6 a5)) else (some false))) else (some false))))) else (none)) else (some true)
end
def spec_MemoryOk.f (k:Nat) (a5:ByteArray) (a6:List (S78)):Option (Bool):=(spec_l10Size.f).bind fun a7=>(if a7=0 then (none) else (if ((a5.size:Int) % a7)=0 then ((spec_l10Size.f).bind fun a8=>(spec_MemoryOk.j0 k (decide ((a5.size:Int) > (wrap64 (1000 * a8)))) a5 a6)) else (spec_MemoryOk.j0 k true a5 a6)))
def spec_MemoryOk.T1:Bool × List (List Nat × List Nat):=(true,[([],[]),([0],[0]),([1],[1]),([],[]),([2,3],[2,3]),([4],[4]),([5,3],[5]),([6],[6]),([7,6],[6,7]),([8,6],[6,8]),([6,6],[6]),([10,6],[6,10]),([9,11,6],[6,9,11]),([6,12],[6,12])])
def spec_MemoryOk.B1:List Nat:=[0,1,3,0,15,31,63,127,255,511,127,1151,4095,8191]
theorem spec_MemoryOk.tab1:rtab .any (opsOf Tryz.f16 1)=spec_MemoryOk.T1:=by kernel_rfl
theorem spec_MemoryOk.bits1:waitsOk spec_MemoryOk.T1.2 spec_MemoryOk.B1=true:=by kernel_rfl
def spec_MemoryOk.T7:Bool × List (List Nat × List Nat):=(true,[([],[]),([0],[0]),([],[]),([2],[2]),([3],[3]),([],[]),([4,5],[4,5]),([6],[6]),([1,7,5],[1,7]),([8],[8]),([9,8],[9]),([10],[10]),([11,10],[10,11]),([12,10],[10,12]),([10,10],[10]),([13,14,10],[10,13,14]),([10,15],[10,15]),([16,14],[16]),([17],[17]),([18,17],[17,18]),([19,17,17],[17,19]),([20],[20]),([21,20],[20,21]),([20],[20]),([23,20],[20,23]),([22,24,20],[20,22,24]),([25,20],[20,25]),([26,20],[20,26]),([20],[20]),([28,20],[20,28]),([27,29,20],[20,27,29]),([20,30,17],[17,20,30]),([17,31],[17,31])])
def spec_MemoryOk.B7:List Nat:=[0,1,0,4,12,0,60,124,255,511,1023,2047,4095,8191,2047,32767,65535,131071,262143,524287,1048575,2097151,4194303,2097151,10485759,33554431,67108863,134217727,2097151,270532607,1073741823,2147483647,4294967295]
theorem spec_MemoryOk.tab7:rtab .any (opsOf Tryz.f16 7)=spec_MemoryOk.T7:=by kernel_rfl
theorem spec_MemoryOk.bits7:waitsOk spec_MemoryOk.T7.2 spec_MemoryOk.B7=true:=by kernel_rfl
theorem spec_MemoryOk.calls (k:Nat) (aa:ByteArray) (az:Option Addr) (am:Nat) (a5:List (S78)) (r:Bool) (w:World) (b9:Kd.C k78 w az a5.length a5) (ba:a5.length≤am) (h:spec_MemoryOk.f k aa a5=some r) :
  Calls Tryz.prog 16 #[.agg #[.string aa,.slice az a5.length am]] w fun e w'=>e=.returned (.bool r)∧Below w.heap.size w w':=by
 have hu36:=Tryz.underlying36
 have hu78:=Tryz.underlying78
 have HR0_1:=m_ b9
 have ci:=m_ ba
 clear b9 ba
 have HB:=m_ (Below.refl w.heap.size w)
 unfold spec_MemoryOk.f at h
 have H:=h
 clear h
 have ce:=m_ H
 clear H
 go_enter Tryz.func16,Tryz.ntmps16
 go_upto_region 1 with (first|((with_reducible refine gate_dst (N:=1) rfl ?_);(try (refine gate_guard (by rfl) ?_;dsimp only));refine be_ 1 (cs:=#[.string aa,.slice az a5.length am]) 36 ?_;intro af hg w3 hbox hb;have z_:=bx0_ th_ hb hbox hg;clear HB;obtain ⟨HB,a6,cj,ck⟩:=z_;clear hb hbox hg))
 (try simp only [Act.put,List.setIfInBounds_toArray,List.set_cons_zero,List.set_cons_succ])
 go_cut [18] (fun v18 wc=>∃ (kq:Nat) (b2:Bool),v18=.bool b2∧Aside0 (spec_MemoryOk.j0 kq b2 aa a5=some r)∧Aside0 (kq≤k)∧Aside0 (wc.heap[af]?=some (.cells #[.string aa,(.slice az a5.length am)] 36 (0,0)))∧Aside0 (Below w.heap.size w wc))
 case first =>
  have H:=ce.out
  clear ce
  obtain ⟨b0,A4,H⟩:=bd_ H
  obtain ⟨c5,H⟩:=fd_ H
  have b7:=qc_ c5
  have bh:=qd_ c5
  (first|rw [b7]|(simp only [i64_w,i32_w];rw [b7])|skip)
  by_cases c6:((aa.size:Int) % b0)=0
  rotate_left
  ·rw [if_neg c6] at H
   have b3:=qc_ c6
   have c6b0t:((Int.tmod (aa.size:Int) b0) == 0)=false:=by rw [Int.tmod_eq_emod_of_nonneg (by omega)];exact b3
   have b4:=qd_ c6
   have c6b1t:((Int.tmod (aa.size:Int) b0) != 0)=true:=by rw [Int.tmod_eq_emod_of_nonneg (by omega)];exact b4
   have H':=m_ H
   clear H
   try go_wp2
   have z_:=dw1_ a6 HB
   clear a6 HB
   obtain ⟨a6,HB⟩:=z_
   refine start_ (n:=14) (S:=fun w'=>w'.cell? ⟨af,0,none⟩=some (.string aa)∧w'.cell? ⟨af,1,none⟩=some (.slice az a5.length am)) (ds:=[]) bq_205 kr_ rfl rfl (bk2_ a6.out) (fun hHeld=>?_);refine with_tabW spec_MemoryOk.tab1 spec_MemoryOk.bits1 (fun HT_ HW_=>?_)
   generalize w3.drew=w9 at a6 HB hHeld ⊢
   refine yr_ 0 5 bq_206 HT_ ?_
   refine tr_ 1 6 bq_207 HT_ HW_ hHeld ?_
   refine yr_ 2 7 bq_208 HT_ ?_
   refine one_ (i:=3) (N:=some 8) bq_209 rfl rfl (one_of HT_.out kr_) (by decide) (fun K hK=>?_)
   refine goes_ Tryz.func41 kr_ rfl #[] (by rfl) rfl rfl tq_0 ?_
   with_reducible refine (spec_l10Size.calls  b0 _ A4.out).mono ?_
   rintro e w' ⟨rfl,⟨nd,rfl⟩⟩
   refine ⟨_,rfl,?_⟩
   refine hK.out _ _ (bk2_ a6.out) (fun hHeld=>?_)
   clear hK K
   refine nm_ (some 8) ?_
   refine yr_ 4 9 bq_210 HT_ ?_
   refine yr_ 5 10 bq_211 HT_ ?_
   refine yr_ 6 11 bq_212 HT_ ?_
   refine ur_ 7 12 bq_213 HT_ ?_
   refine ur_ 8 13 bq_214 HT_ ?_
   refine ur_ 9 14 bq_215 HT_ ?_
   refine ur_ 10 15 bq_216 HT_ ?_
   refine ur_ 11 16 bq_217 HT_ ?_
   refine ur_ 12 17 bq_218 HT_ ?_
   refine yr_ 13 18 bq_219 HT_ ?_
   refine done_ (done_of HT_.out kr_) ?_
   try go_wp2
   go_meet
   case rel=>exact ⟨_,(true),tq_3,H',⟨tq_12⟩,⟨(kb_ a6)⟩,⟨th_⟩⟩
  rw [if_pos c6] at H
  have b3:=qa_ c6
  have c6b0t:((Int.tmod (aa.size:Int) b0) == 0)=true:=by rw [Int.tmod_eq_emod_of_nonneg (by omega)];exact b3
  have b4:=qb_ c6
  have c6b1t:((Int.tmod (aa.size:Int) b0) != 0)=false:=by rw [Int.tmod_eq_emod_of_nonneg (by omega)];exact b4
  clear c6
  obtain ⟨bi,A7,H⟩:=bd_ H
  have H':=m_ H
  clear H
  try go_wp2
  have z_:=dw1_ a6 HB
  clear a6 HB
  obtain ⟨a6,HB⟩:=z_
  refine start_ (n:=14) (S:=fun w'=>w'.cell? ⟨af,0,none⟩=some (.string aa)∧w'.cell? ⟨af,1,none⟩=some (.slice az a5.length am)) (ds:=[]) bq_205 kr_ rfl rfl (bk2_ a6.out) (fun hHeld=>?_);refine with_tabW spec_MemoryOk.tab1 spec_MemoryOk.bits1 (fun HT_ HW_=>?_)
  generalize w3.drew=w8 at a6 HB hHeld ⊢
  refine yr_ 0 5 bq_206 HT_ ?_
  refine tr_ 1 6 bq_207 HT_ HW_ hHeld ?_
  refine yr_ 2 7 bq_208 HT_ ?_
  refine one_ (i:=3) (N:=some 8) bq_209 rfl rfl (one_of HT_.out kr_) (by decide) (fun K hK=>?_)
  refine goes_ Tryz.func41 kr_ rfl #[] (by rfl) rfl rfl tq_0 ?_
  with_reducible refine (spec_l10Size.calls  b0 _ A4.out).mono ?_
  rintro e w' ⟨rfl,⟨nd,rfl⟩⟩
  refine ⟨_,rfl,?_⟩
  refine hK.out _ _ (bk2_ a6.out) (fun hHeld=>?_)
  clear hK K
  refine nm_ (some 8) ?_
  refine yr_ 4 9 bq_210 HT_ ?_
  refine yr_ 5 10 bq_211 HT_ ?_
  refine yr_ 6 11 bq_212 HT_ ?_
  refine yr_ 7 12 bq_213 HT_ ?_
  refine tr_ 8 13 bq_214 HT_ HW_ hHeld ?_
  refine yr_ 9 14 bq_215 HT_ ?_
  refine one_ (i:=10) (N:=some 15) bq_216 rfl rfl (one_of HT_.out kr_) (by decide) (fun K hK=>?_)
  refine goes_ Tryz.func41 kr_ rfl #[] (by rfl) rfl rfl tq_0 ?_
  with_reducible refine (spec_l10Size.calls  bi _ A7.out).mono ?_
  rintro e w' ⟨rfl,⟨nd,rfl⟩⟩
  refine ⟨_,rfl,?_⟩
  refine hK.out _ _ (bk2_ a6.out) (fun hHeld=>?_)
  clear hK K
  refine nm_ (some 15) ?_
  refine yr_ 11 16 bq_217 HT_ ?_
  refine yr_ 12 17 bq_218 HT_ ?_
  refine yr_ 13 18 bq_219 HT_ ?_
  refine done_ (done_of HT_.out kr_) ?_
  try go_wp2
  go_meet
  case rel=>exact ⟨_,(decide ((aa.size:Int) > (wrap64 (1000 * bi)))),tq_3,H',⟨tq_12⟩,⟨(kb_ a6)⟩,⟨th_⟩⟩
 case rest =>
 clear ce
 try clear c1;try clear p2;try clear c4;try clear c5;try clear b7;try clear bh;try clear c6;try clear b3;try clear b4;try clear p6
 obtain ⟨kq,b2,rfl,HA,HJ1,a6,HB⟩:=hcut
 cases kq with
 | zero=>exact absurd HA.out (by simp [spec_MemoryOk.j0])
 | succ kj1 =>
 have H:=HA.out
 clear HA
 simp only [spec_MemoryOk.j0] at H
 by_cases bj:b2=true
 ·subst bj
  rw [if_pos rfl] at H
  obtain rfl:=oi_ H
  go_wp2
  go_ret
  exact ⟨tq_1,th_⟩
 replace bj:=Bool.eq_false_iff.mpr bj
 subst bj
 rw [if_neg nf_] at H
 have H':=m_ H
 clear H
 go_wp2
 go_loopg [3] kj1 (fun kq v3 w'=>∃ (a7:Int),v3=.int .i64 a7∧Aside0 (spec_MemoryOk.l0 kq a7 aa a5=some r)∧Aside0 (kq≤kj1)∧Aside0 (w'.heap[af]?=some (.cells #[.string aa,(.slice az a5.length am)] 36 (0,0)))∧Aside0 (Below w.heap.size w w'))
 case atStart=>exact ⟨(0),tq_3,H',⟨Nat.le_refl _⟩,⟨(kb_ a6)⟩,⟨th_⟩⟩
 case round =>
 clear H'
 try clear c1;try clear p2;try clear c4;try clear c5;try clear b7;try clear bh;try clear c6;try clear b3;try clear b4;try clear p6;try clear bj;try clear p2;try clear p6
 obtain ⟨a7,rfl,HA,bw,a6,HB⟩:=hrel
 cases gk with
 | zero=>exact absurd HA.out (by simp [spec_MemoryOk.l0])
 | succ k2 =>
 have H:=HA.out
 clear HA
 simp only [spec_MemoryOk.l0] at H
 have bl:=m_ H
 clear H
 have cf:=bb2_ a6.out
 go_upto_if 23 with (fail)
 (try clear cf)
 have H:=bl.out
 clear bl
 by_cases be:a7 < (a5.length:Int)
 rotate_left
 ·rw [if_neg be] at H
  have ax:=df_ be
  clear be
  (first|rw [ax]|(simp only [i64_w,i32_w];rw [ax])|skip)
  obtain rfl:=oi_ H
  go_wp2
  go_ret
  exact ⟨tq_1,th_⟩
 rw [if_pos be] at H
 have ax:=de_ be
 clear be
 (first|rw [ax]|(simp only [i64_w,i32_w];rw [ax])|skip)
 obtain ⟨cl,H⟩:=fc_ H
 have cm:=de_ cl
 clear cl
 obtain ⟨aw,bm,H⟩:=bd_ H
 obtain ⟨cn,H⟩:=fd_ H
 have co:=qc_ cn
 have cp:=qd_ cn
 obtain ⟨cg,bn,H⟩:=bd_ H
 by_cases bx:cg=true
 rotate_left
 ·replace bx:=Bool.eq_false_iff.mpr bx
  subst bx
  rw [if_neg nf_] at H
  obtain rfl:=oi_ H
  have cv:=bb2_ a6.out
  have an:0≤(a7:Int):=od_ tq_2
  have ao:a7 < (a5.length:Int):=od_ tq_2
  obtain ⟨ai,b1,ab,ac,ae⟩:=at_T78 HR0_1.out a7 an ao
  cases b1
  replace ab:=hx_ HB.out ab
  replace ac:=hx_ HB.out ac
  replace ae:=hx_ HB.out ae
  replace an:=eq_true an
  replace ao:=eq_true ao
  try go_wp2_with (first|((with_reducible refine gate_dst (N:=4) rfl ?_);(try (refine gate_guard (by rfl) ?_;dsimp only));refine be_ 4 (cs:=#[.int .i64 0,.string (⟨#[]⟩:ByteArray),.bool false]) 78 ?_;intro a8 hg bz hbox hb;have z_:=bx1_ (kb_ a6) th_ hb hbox hg;clear a6 HB;obtain ⟨a6,HB,a9,b5,b6,ag,ah⟩:=z_;clear hb hbox hg;obtain ⟨ap,aq⟩:=an2_ ah ag;have cw:=bb3_ a9.out))
  have n0_:Aside0 ((((bz.setCell ⟨a8,0,none⟩ (.int .i64 ((rd_T78 a5 a7).f0))).setCell ⟨a8,1,none⟩ (.string ((rd_T78 a5 a7).f1))).setCell ⟨a8,2,none⟩ (.bool ((rd_T78 a5 a7).f2))).heap[af]?=some (.cells #[.string aa,.slice (some ai) a5.length am] 36 (0,0))):=⟨tb_⟩
  have n1_:Aside0 ((((bz.setCell ⟨a8,0,none⟩ (.int .i64 ((rd_T78 a5 a7).f0))).setCell ⟨a8,1,none⟩ (.string ((rd_T78 a5 a7).f1))).setCell ⟨a8,2,none⟩ (.bool ((rd_T78 a5 a7).f2))).heap[a8]?=some (.cells #[.int .i64 ((rd_T78 a5 a7).f0),.string ((rd_T78 a5 a7).f1),.bool ((rd_T78 a5 a7).f2)] 78 (0,0))):=⟨tb_⟩
  have n2_:Aside0 (Below w.heap.size w (((bz.setCell ⟨a8,0,none⟩ (.int .i64 ((rd_T78 a5 a7).f0))).setCell ⟨a8,1,none⟩ (.string ((rd_T78 a5 a7).f1))).setCell ⟨a8,2,none⟩ (.bool ((rd_T78 a5 a7).f2)))):=⟨th_⟩
  (try clear a6)
  (try clear a9)
  (try clear HB)
  generalize (((bz.setCell ⟨a8,0,none⟩ (.int .i64 ((rd_T78 a5 a7).f0))).setCell ⟨a8,1,none⟩ (.string ((rd_T78 a5 a7).f1))).setCell ⟨a8,2,none⟩ (.bool ((rd_T78 a5 a7).f2)))=cx at n0_ n1_ n2_ ⊢
  have a6:=n0_
  have a9:=n1_
  have HB:=n2_
  clear n0_ n1_ n2_
  have z_:=dw2_ a6 a9 HB
  clear a6 a9 HB
  obtain ⟨a6,a9,HB⟩:=z_
  refine start_ (n:=33) (S:=fun w'=>w'.cell? ⟨a8,0,none⟩=some (.int .i64 ((rd_T78 a5 a7).f0))∧w'.cell? ⟨a8,1,none⟩=some (.string ((rd_T78 a5 a7).f1))∧w'.cell? ⟨a8,2,none⟩=some (.bool ((rd_T78 a5 a7).f2))∧w'.cell? ⟨af,0,none⟩=some (.string aa)∧w'.cell? ⟨af,1,none⟩=some (.slice (some ai) a5.length am)) (ds:=[]) bq_39 kr_ rfl rfl (bc3_ a9.out (bk2_ a6.out)) (fun hHeld=>?_);refine with_tabW spec_MemoryOk.tab7 spec_MemoryOk.bits7 (fun HT_ HW_=>?_)
  generalize cx.drew=d5 at a6 a9 HB hHeld ⊢
  refine yr_ 0 31 bq_40 HT_ ?_
  refine yr_ 2 33 bq_41 HT_ ?_
  refine tr_ 1 32 bq_42 HT_ HW_ hHeld ?_
  refine tr_ 3 34 bq_43 HT_ HW_ hHeld ?_
  refine yr_ 4 35 bq_44 HT_ ?_
  refine one_ (i:=5) (N:=some 36) bq_45 rfl rfl (one_of HT_.out kr_) (by decide) (fun K hK=>?_)
  refine goes_ Tryz.func41 kr_ rfl #[] (by rfl) rfl rfl tq_0 ?_
  with_reducible refine (spec_l10Size.calls  aw _ bm.out).mono ?_
  rintro e w' ⟨rfl,⟨nd,rfl⟩⟩
  refine ⟨_,rfl,?_⟩
  refine hK.out _ _ (bc3_ a9.out (bk2_ a6.out)) (fun hHeld=>?_)
  clear hK K
  refine nm_ (some 36) ?_
  refine yr_ 6 37 bq_46 HT_ ?_
  refine yr_ 7 38 bq_47 HT_ ?_
  refine one_ (i:=8) (N:=some 39) bq_48 rfl rfl (one_of HT_.out kr_) (by decide) (fun K hK=>?_)
  refine goes_ Tryz.func42 kr_ rfl #[.int .i64 ((rd_T78 a5 a7).f0),.int .i64 0,.int .i64 (wrap64 ((wrap64 ((aa.size:Int) / aw)) - 1))] (by rfl) rfl rfl tq_0 ?_
  with_reducible refine (spec_l01In.calls ((rd_T78 a5 a7).f0) 0 (wrap64 ((wrap64 ((aa.size:Int) / aw)) - 1)) false _ bn.out).mono ?_
  rintro e w' ⟨rfl,⟨nd,rfl⟩⟩
  refine ⟨_,rfl,?_⟩
  refine hK.out _ _ (bc3_ a9.out (bk2_ a6.out)) (fun hHeld=>?_)
  clear hK K
  refine nm_ (some 39) ?_
  refine yr_ 9 40 bq_49 HT_ ?_
  refine yr_ 10 41 bq_50 HT_ ?_
  refine ur_ 11 42 bq_51 HT_ ?_
  refine ur_ 12 43 bq_52 HT_ ?_
  refine ur_ 13 44 bq_53 HT_ ?_
  refine ur_ 14 45 bq_54 HT_ ?_
  refine ur_ 15 46 bq_55 HT_ ?_
  refine yr_ 16 47 bq_56 HT_ ?_
  refine yr_ 17 48 bq_57 HT_ ?_
  refine ur_ 18 49 bq_58 HT_ ?_
  refine ur_ 19 50 bq_59 HT_ ?_
  refine ur_ 20 51 bq_60 HT_ ?_
  refine ur_ 21 52 bq_61 HT_ ?_
  refine ur_ 22 53 bq_143 HT_ ?_
  refine ur_ 23 54 bq_144 HT_ ?_
  refine ur_ 24 55 bq_145 HT_ ?_
  refine ur_ 25 56 bq_146 HT_ ?_
  refine ur_ 26 57 bq_147 HT_ ?_
  refine ur_ 27 58 bq_148 HT_ ?_
  refine ur_ 28 59 bq_62 HT_ ?_
  refine ur_ 29 60 bq_63 HT_ ?_
  refine ur_ 30 61 bq_64 HT_ ?_
  refine ur_ 31 62 bq_65 HT_ ?_
  refine yr_ 32 63 bq_66 HT_ ?_
  refine done_ (done_of HT_.out kr_) ?_
  try go_wp2
  go_ret
  exact ⟨tq_1,th_⟩
 subst bx
 rw [if_pos rfl] at H
 obtain ⟨b8,ca,H⟩:=bd_ H
 by_cases bb:(((rd_T78 a5 a7).f1).size:Int)=b8
 rotate_left
 ·rw [if_neg bb] at H
  have bo:=qc_ bb
  have bp:=qd_ bb
  obtain rfl:=oi_ H
  have cy:=bb2_ a6.out
  have an:0≤(a7:Int):=od_ tq_2
  have ao:a7 < (a5.length:Int):=od_ tq_2
  obtain ⟨ai,b1,ab,ac,ae⟩:=at_T78 HR0_1.out a7 an ao
  cases b1
  replace ab:=hx_ HB.out ab
  replace ac:=hx_ HB.out ac
  replace ae:=hx_ HB.out ae
  replace an:=eq_true an
  replace ao:=eq_true ao
  try go_wp2_with (first|((with_reducible refine gate_dst (N:=4) rfl ?_);(try (refine gate_guard (by rfl) ?_;dsimp only));refine be_ 4 (cs:=#[.int .i64 0,.string (⟨#[]⟩:ByteArray),.bool false]) 78 ?_;intro a8 hg cb hbox hb;have z_:=bx1_ (kb_ a6) th_ hb hbox hg;clear a6 HB;obtain ⟨a6,HB,a9,b5,b6,ag,ah⟩:=z_;clear hb hbox hg;obtain ⟨ap,aq⟩:=an2_ ah ag;have cz:=bb3_ a9.out))
  have n0_:Aside0 ((((cb.setCell ⟨a8,0,none⟩ (.int .i64 ((rd_T78 a5 a7).f0))).setCell ⟨a8,1,none⟩ (.string ((rd_T78 a5 a7).f1))).setCell ⟨a8,2,none⟩ (.bool ((rd_T78 a5 a7).f2))).heap[af]?=some (.cells #[.string aa,.slice (some ai) a5.length am] 36 (0,0))):=⟨tb_⟩
  have n1_:Aside0 ((((cb.setCell ⟨a8,0,none⟩ (.int .i64 ((rd_T78 a5 a7).f0))).setCell ⟨a8,1,none⟩ (.string ((rd_T78 a5 a7).f1))).setCell ⟨a8,2,none⟩ (.bool ((rd_T78 a5 a7).f2))).heap[a8]?=some (.cells #[.int .i64 ((rd_T78 a5 a7).f0),.string ((rd_T78 a5 a7).f1),.bool ((rd_T78 a5 a7).f2)] 78 (0,0))):=⟨tb_⟩
  have n2_:Aside0 (Below w.heap.size w (((cb.setCell ⟨a8,0,none⟩ (.int .i64 ((rd_T78 a5 a7).f0))).setCell ⟨a8,1,none⟩ (.string ((rd_T78 a5 a7).f1))).setCell ⟨a8,2,none⟩ (.bool ((rd_T78 a5 a7).f2)))):=⟨th_⟩
  (try clear a6)
  (try clear a9)
  (try clear HB)
  generalize (((cb.setCell ⟨a8,0,none⟩ (.int .i64 ((rd_T78 a5 a7).f0))).setCell ⟨a8,1,none⟩ (.string ((rd_T78 a5 a7).f1))).setCell ⟨a8,2,none⟩ (.bool ((rd_T78 a5 a7).f2)))=d0 at n0_ n1_ n2_ ⊢
  have a6:=n0_
  have a9:=n1_
  have HB:=n2_
  clear n0_ n1_ n2_
  have z_:=dw2_ a6 a9 HB
  clear a6 a9 HB
  obtain ⟨a6,a9,HB⟩:=z_
  refine start_ (n:=33) (S:=fun w'=>w'.cell? ⟨a8,0,none⟩=some (.int .i64 ((rd_T78 a5 a7).f0))∧w'.cell? ⟨a8,1,none⟩=some (.string ((rd_T78 a5 a7).f1))∧w'.cell? ⟨a8,2,none⟩=some (.bool ((rd_T78 a5 a7).f2))∧w'.cell? ⟨af,0,none⟩=some (.string aa)∧w'.cell? ⟨af,1,none⟩=some (.slice (some ai) a5.length am)) (ds:=[]) bq_39 kr_ rfl rfl (bc3_ a9.out (bk2_ a6.out)) (fun hHeld=>?_);refine with_tabW spec_MemoryOk.tab7 spec_MemoryOk.bits7 (fun HT_ HW_=>?_)
  generalize d0.drew=d6 at a6 a9 HB hHeld ⊢
  refine yr_ 0 31 bq_40 HT_ ?_
  refine yr_ 2 33 bq_41 HT_ ?_
  refine tr_ 1 32 bq_42 HT_ HW_ hHeld ?_
  refine tr_ 3 34 bq_43 HT_ HW_ hHeld ?_
  refine yr_ 4 35 bq_44 HT_ ?_
  refine one_ (i:=5) (N:=some 36) bq_45 rfl rfl (one_of HT_.out kr_) (by decide) (fun K hK=>?_)
  refine goes_ Tryz.func41 kr_ rfl #[] (by rfl) rfl rfl tq_0 ?_
  with_reducible refine (spec_l10Size.calls  aw _ bm.out).mono ?_
  rintro e w' ⟨rfl,⟨nd,rfl⟩⟩
  refine ⟨_,rfl,?_⟩
  refine hK.out _ _ (bc3_ a9.out (bk2_ a6.out)) (fun hHeld=>?_)
  clear hK K
  refine nm_ (some 36) ?_
  refine yr_ 6 37 bq_46 HT_ ?_
  refine yr_ 7 38 bq_47 HT_ ?_
  refine one_ (i:=8) (N:=some 39) bq_48 rfl rfl (one_of HT_.out kr_) (by decide) (fun K hK=>?_)
  refine goes_ Tryz.func42 kr_ rfl #[.int .i64 ((rd_T78 a5 a7).f0),.int .i64 0,.int .i64 (wrap64 ((wrap64 ((aa.size:Int) / aw)) - 1))] (by rfl) rfl rfl tq_0 ?_
  with_reducible refine (spec_l01In.calls ((rd_T78 a5 a7).f0) 0 (wrap64 ((wrap64 ((aa.size:Int) / aw)) - 1)) true _ bn.out).mono ?_
  rintro e w' ⟨rfl,⟨nd,rfl⟩⟩
  refine ⟨_,rfl,?_⟩
  refine hK.out _ _ (bc3_ a9.out (bk2_ a6.out)) (fun hHeld=>?_)
  clear hK K
  refine nm_ (some 39) ?_
  refine yr_ 9 40 bq_49 HT_ ?_
  refine yr_ 10 41 bq_50 HT_ ?_
  refine yr_ 11 42 bq_51 HT_ ?_
  refine tr_ 12 43 bq_52 HT_ HW_ hHeld ?_
  refine yr_ 13 44 bq_53 HT_ ?_
  refine one_ (i:=14) (N:=some 45) bq_54 rfl rfl (one_of HT_.out kr_) (by decide) (fun K hK=>?_)
  refine goes_ Tryz.func41 kr_ rfl #[] (by rfl) rfl rfl tq_0 ?_
  with_reducible refine (spec_l10Size.calls  b8 _ ca.out).mono ?_
  rintro e w' ⟨rfl,⟨nd,rfl⟩⟩
  refine ⟨_,rfl,?_⟩
  refine hK.out _ _ (bc3_ a9.out (bk2_ a6.out)) (fun hHeld=>?_)
  clear hK K
  refine nm_ (some 45) ?_
  refine yr_ 15 46 bq_55 HT_ ?_
  refine yr_ 16 47 bq_56 HT_ ?_
  refine yr_ 17 48 bq_57 HT_ ?_
  refine ur_ 18 49 bq_58 HT_ ?_
  refine ur_ 19 50 bq_59 HT_ ?_
  refine ur_ 20 51 bq_60 HT_ ?_
  refine ur_ 21 52 bq_61 HT_ ?_
  refine ur_ 22 53 bq_143 HT_ ?_
  refine ur_ 23 54 bq_144 HT_ ?_
  refine ur_ 24 55 bq_145 HT_ ?_
  refine ur_ 25 56 bq_146 HT_ ?_
  refine ur_ 26 57 bq_147 HT_ ?_
  refine ur_ 27 58 bq_148 HT_ ?_
  refine ur_ 28 59 bq_62 HT_ ?_
  refine ur_ 29 60 bq_63 HT_ ?_
  refine ur_ 30 61 bq_64 HT_ ?_
  refine ur_ 31 62 bq_65 HT_ ?_
  refine yr_ 32 63 bq_66 HT_ ?_
  refine done_ (done_of HT_.out kr_) ?_
  try go_wp2
  go_ret
  exact ⟨tq_1,th_⟩
 rw [if_pos bb] at H
 have bo:=qa_ bb
 have bp:=qb_ bb
 clear bb
 by_cases bf:a7 > 0
 rotate_left
 ·rw [if_neg bf] at H
  have bq:=df_ bf
  clear bf
  have H':=m_ H
  clear H
  have d1:=bb2_ a6.out
  have an:0≤(a7:Int):=od_ tq_2
  have ao:a7 < (a5.length:Int):=od_ tq_2
  obtain ⟨ai,b1,ab,ac,ae⟩:=at_T78 HR0_1.out a7 an ao
  cases b1
  replace ab:=hx_ HB.out ab
  replace ac:=hx_ HB.out ac
  replace ae:=hx_ HB.out ae
  replace an:=eq_true an
  replace ao:=eq_true ao
  try go_wp2_with (first|((with_reducible refine gate_dst (N:=4) rfl ?_);(try (refine gate_guard (by rfl) ?_;dsimp only));refine be_ 4 (cs:=#[.int .i64 0,.string (⟨#[]⟩:ByteArray),.bool false]) 78 ?_;intro a8 hg cc hbox hb;have z_:=bx1_ (kb_ a6) th_ hb hbox hg;clear a6 HB;obtain ⟨a6,HB,a9,b5,b6,ag,ah⟩:=z_;clear hb hbox hg;obtain ⟨ap,aq⟩:=an2_ ah ag;have d2:=bb3_ a9.out))
  have n0_:Aside0 ((((cc.setCell ⟨a8,0,none⟩ (.int .i64 ((rd_T78 a5 a7).f0))).setCell ⟨a8,1,none⟩ (.string ((rd_T78 a5 a7).f1))).setCell ⟨a8,2,none⟩ (.bool ((rd_T78 a5 a7).f2))).heap[af]?=some (.cells #[.string aa,.slice (some ai) a5.length am] 36 (0,0))):=⟨tb_⟩
  have n1_:Aside0 ((((cc.setCell ⟨a8,0,none⟩ (.int .i64 ((rd_T78 a5 a7).f0))).setCell ⟨a8,1,none⟩ (.string ((rd_T78 a5 a7).f1))).setCell ⟨a8,2,none⟩ (.bool ((rd_T78 a5 a7).f2))).heap[a8]?=some (.cells #[.int .i64 ((rd_T78 a5 a7).f0),.string ((rd_T78 a5 a7).f1),.bool ((rd_T78 a5 a7).f2)] 78 (0,0))):=⟨tb_⟩
  have n2_:Aside0 (Below w.heap.size w (((cc.setCell ⟨a8,0,none⟩ (.int .i64 ((rd_T78 a5 a7).f0))).setCell ⟨a8,1,none⟩ (.string ((rd_T78 a5 a7).f1))).setCell ⟨a8,2,none⟩ (.bool ((rd_T78 a5 a7).f2)))):=⟨th_⟩
  (try clear a6)
  (try clear a9)
  (try clear HB)
  generalize (((cc.setCell ⟨a8,0,none⟩ (.int .i64 ((rd_T78 a5 a7).f0))).setCell ⟨a8,1,none⟩ (.string ((rd_T78 a5 a7).f1))).setCell ⟨a8,2,none⟩ (.bool ((rd_T78 a5 a7).f2)))=d3 at n0_ n1_ n2_ ⊢
  have a6:=n0_
  have a9:=n1_
  have HB:=n2_
  clear n0_ n1_ n2_
  have z_:=dw2_ a6 a9 HB
  clear a6 a9 HB
  obtain ⟨a6,a9,HB⟩:=z_
  refine start_ (n:=33) (S:=fun w'=>w'.cell? ⟨a8,0,none⟩=some (.int .i64 ((rd_T78 a5 a7).f0))∧w'.cell? ⟨a8,1,none⟩=some (.string ((rd_T78 a5 a7).f1))∧w'.cell? ⟨a8,2,none⟩=some (.bool ((rd_T78 a5 a7).f2))∧w'.cell? ⟨af,0,none⟩=some (.string aa)∧w'.cell? ⟨af,1,none⟩=some (.slice (some ai) a5.length am)) (ds:=[]) bq_39 kr_ rfl rfl (bc3_ a9.out (bk2_ a6.out)) (fun hHeld=>?_);refine with_tabW spec_MemoryOk.tab7 spec_MemoryOk.bits7 (fun HT_ HW_=>?_)
  generalize d3.drew=d7 at a6 a9 HB hHeld ⊢
  refine yr_ 0 31 bq_40 HT_ ?_
  refine yr_ 2 33 bq_41 HT_ ?_
  refine tr_ 1 32 bq_42 HT_ HW_ hHeld ?_
  refine tr_ 3 34 bq_43 HT_ HW_ hHeld ?_
  refine yr_ 4 35 bq_44 HT_ ?_
  refine one_ (i:=5) (N:=some 36) bq_45 rfl rfl (one_of HT_.out kr_) (by decide) (fun K hK=>?_)
  refine goes_ Tryz.func41 kr_ rfl #[] (by rfl) rfl rfl tq_0 ?_
  with_reducible refine (spec_l10Size.calls  aw _ bm.out).mono ?_
  rintro e w' ⟨rfl,⟨nd,rfl⟩⟩
  refine ⟨_,rfl,?_⟩
  refine hK.out _ _ (bc3_ a9.out (bk2_ a6.out)) (fun hHeld=>?_)
  clear hK K
  refine nm_ (some 36) ?_
  refine yr_ 6 37 bq_46 HT_ ?_
  refine yr_ 7 38 bq_47 HT_ ?_
  refine one_ (i:=8) (N:=some 39) bq_48 rfl rfl (one_of HT_.out kr_) (by decide) (fun K hK=>?_)
  refine goes_ Tryz.func42 kr_ rfl #[.int .i64 ((rd_T78 a5 a7).f0),.int .i64 0,.int .i64 (wrap64 ((wrap64 ((aa.size:Int) / aw)) - 1))] (by rfl) rfl rfl tq_0 ?_
  with_reducible refine (spec_l01In.calls ((rd_T78 a5 a7).f0) 0 (wrap64 ((wrap64 ((aa.size:Int) / aw)) - 1)) true _ bn.out).mono ?_
  rintro e w' ⟨rfl,⟨nd,rfl⟩⟩
  refine ⟨_,rfl,?_⟩
  refine hK.out _ _ (bc3_ a9.out (bk2_ a6.out)) (fun hHeld=>?_)
  clear hK K
  refine nm_ (some 39) ?_
  refine yr_ 9 40 bq_49 HT_ ?_
  refine yr_ 10 41 bq_50 HT_ ?_
  refine yr_ 11 42 bq_51 HT_ ?_
  refine tr_ 12 43 bq_52 HT_ HW_ hHeld ?_
  refine yr_ 13 44 bq_53 HT_ ?_
  refine one_ (i:=14) (N:=some 45) bq_54 rfl rfl (one_of HT_.out kr_) (by decide) (fun K hK=>?_)
  refine goes_ Tryz.func41 kr_ rfl #[] (by rfl) rfl rfl tq_0 ?_
  with_reducible refine (spec_l10Size.calls  b8 _ ca.out).mono ?_
  rintro e w' ⟨rfl,⟨nd,rfl⟩⟩
  refine ⟨_,rfl,?_⟩
  refine hK.out _ _ (bc3_ a9.out (bk2_ a6.out)) (fun hHeld=>?_)
  clear hK K
  refine nm_ (some 45) ?_
  refine yr_ 15 46 bq_55 HT_ ?_
  refine yr_ 16 47 bq_56 HT_ ?_
  refine yr_ 17 48 bq_57 HT_ ?_
  refine yr_ 18 49 bq_58 HT_ ?_
  refine yr_ 19 50 bq_59 HT_ ?_
  refine yr_ 20 51 bq_60 HT_ ?_
  refine ur_ 21 52 bq_61 HT_ ?_
  refine ur_ 22 53 bq_143 HT_ ?_
  refine ur_ 23 54 bq_144 HT_ ?_
  refine ur_ 24 55 bq_145 HT_ ?_
  refine ur_ 25 56 bq_146 HT_ ?_
  refine ur_ 26 57 bq_147 HT_ ?_
  refine ur_ 27 58 bq_148 HT_ ?_
  refine ur_ 28 59 bq_62 HT_ ?_
  refine ur_ 29 60 bq_63 HT_ ?_
  refine ur_ 30 61 bq_64 HT_ ?_
  refine yr_ 31 62 bq_65 HT_ ?_
  refine yr_ 32 63 bq_66 HT_ ?_
  refine done_ (done_of HT_.out kr_) ?_
  try go_wp2
  go_roundg k2
  case measure=>have:=HJ1.out;have:=bw.out;omega
  case rel=>exact ⟨(wrap64 (a7+1)),tq_3,H',⟨(by have:=HJ1.out;have:=bw.out;omega)⟩,⟨(kb_ a6)⟩,⟨th_⟩⟩
 rw [if_pos bf] at H
 have bq:=de_ bf
 clear bf
 obtain ⟨ji22,hji22⟩:∃ j_:Int,(wrap64 (a7 - 1))=j_:=⟨_,rfl⟩
 replace H:(if 0≤(ji22) then (if (ji22) < (a5.length:Int) then (if ((rd_T78 a5 (ji22)).f0) ≥ ((rd_T78 a5 a7).f0) then (some false) else (spec_MemoryOk.l0 k2 (wrap64 (a7+1)) aa a5)) else (none)) else (none))=some r:=by first|(rw [hji22] at H;exact H)|(simp only [hji22] at H ⊢;exact H)
 (try rw [hji22] at bm)
 (try rw [hji22] at bn)
 (try rw [hji22] at ca)
 have hji22w:(IntKind.i64.wrap (a7 - 1))=ji22:=(i64_w _).trans hji22
 obtain ⟨cq,H⟩:=fc_ H
 have cr:=de_ cq
 clear cq
 obtain ⟨ct,H⟩:=fc_ H
 have cu:=de_ ct
 clear ct
 have br:=m_ H
 clear H
 have bs:=bb2_ a6.out
 have an:0≤(a7:Int):=od_ tq_2
 have ao:a7 < (a5.length:Int):=od_ tq_2
 obtain ⟨ai,b1,ab,ac,ae⟩:=at_T78 HR0_1.out a7 an ao
 cases b1
 replace ab:=hx_ HB.out ab
 replace ac:=hx_ HB.out ac
 replace ae:=hx_ HB.out ae
 replace an:=eq_true an
 replace ao:=eq_true ao
 try go_wp2_with (first|((with_reducible refine gate_dst (N:=4) rfl ?_);(try (refine gate_guard (by rfl) ?_;dsimp only));refine be_ 4 (cs:=#[.int .i64 0,.string (⟨#[]⟩:ByteArray),.bool false]) 78 ?_;intro a8 hg cd hbox hb;have z_:=bx1_ (kb_ a6) th_ hb hbox hg;clear a6 HB;obtain ⟨a6,HB,a9,b5,b6,ag,ah⟩:=z_;clear hb hbox hg;obtain ⟨ap,aq⟩:=an2_ ah ag;have bu:=bb3_ a9.out))
 have n0_:Aside0 ((((cd.setCell ⟨a8,0,none⟩ (.int .i64 ((rd_T78 a5 a7).f0))).setCell ⟨a8,1,none⟩ (.string ((rd_T78 a5 a7).f1))).setCell ⟨a8,2,none⟩ (.bool ((rd_T78 a5 a7).f2))).heap[af]?=some (.cells #[.string aa,.slice (some ai) a5.length am] 36 (0,0))):=⟨tb_⟩
 have n1_:Aside0 ((((cd.setCell ⟨a8,0,none⟩ (.int .i64 ((rd_T78 a5 a7).f0))).setCell ⟨a8,1,none⟩ (.string ((rd_T78 a5 a7).f1))).setCell ⟨a8,2,none⟩ (.bool ((rd_T78 a5 a7).f2))).heap[a8]?=some (.cells #[.int .i64 ((rd_T78 a5 a7).f0),.string ((rd_T78 a5 a7).f1),.bool ((rd_T78 a5 a7).f2)] 78 (0,0))):=⟨tb_⟩
 have n2_:Aside0 (Below w.heap.size w (((cd.setCell ⟨a8,0,none⟩ (.int .i64 ((rd_T78 a5 a7).f0))).setCell ⟨a8,1,none⟩ (.string ((rd_T78 a5 a7).f1))).setCell ⟨a8,2,none⟩ (.bool ((rd_T78 a5 a7).f2)))):=⟨th_⟩
 (try clear a6)
 (try clear a9)
 (try clear HB)
 generalize (((cd.setCell ⟨a8,0,none⟩ (.int .i64 ((rd_T78 a5 a7).f0))).setCell ⟨a8,1,none⟩ (.string ((rd_T78 a5 a7).f1))).setCell ⟨a8,2,none⟩ (.bool ((rd_T78 a5 a7).f2)))=d4 at n0_ n1_ n2_ ⊢
 have a6:=n0_
 have a9:=n1_
 have HB:=n2_
 clear n0_ n1_ n2_
 have z_:=dw2_ a6 a9 HB
 clear a6 a9 HB
 obtain ⟨a6,a9,HB⟩:=z_
 have bc:0≤((ji22):Int):=od_ tq_2
 have bd:(ji22) < (a5.length:Int):=od_ tq_2
 obtain ⟨bv,ch,ar,au,av⟩:=at_T78 HR0_1.out (ji22) bc bd
 have aj:=av
 have ak:=au
 have al:=ar
 obtain rfl:ai=bv:=(by injection ch)
 replace ar:=hx_ HB.out ar
 replace au:=hx_ HB.out au
 replace av:=hx_ HB.out av
 replace bc:=eq_true bc
 replace bd:=eq_true bd
 refine start_ (n:=33) (S:=fun w'=>w'.cell? ⟨a8,0,none⟩=some (.int .i64 ((rd_T78 a5 a7).f0))∧w'.cell? ⟨a8,1,none⟩=some (.string ((rd_T78 a5 a7).f1))∧w'.cell? ⟨a8,2,none⟩=some (.bool ((rd_T78 a5 a7).f2))∧w'.cell? ⟨af,0,none⟩=some (.string aa)∧w'.cell? ⟨af,1,none⟩=some (.slice (some ai) a5.length am)∧w'.cell? (ai.add (((ji22)).toNat * 3))=some (.int .i64 ((rd_T78 a5 (ji22)).f0))∧w'.cell? ⟨(ai.add (((ji22)).toNat * 3)).block,(ai.add (((ji22)).toNat * 3)).off+1,none⟩=some (.string ((rd_T78 a5 (ji22)).f1))∧w'.cell? ⟨(ai.add (((ji22)).toNat * 3)).block,(ai.add (((ji22)).toNat * 3)).off+2,none⟩=some (.bool ((rd_T78 a5 (ji22)).f2))) (ds:=[]) bq_39 kr_ rfl rfl (bc3_ a9.out (bc2_ a6.out ⟨((HB.out.cell (World.block_lt_of_cell? w _ al)).trans al),((HB.out.cell (World.block_lt_of_cell? w _ ak)).trans ak),((HB.out.cell (World.block_lt_of_cell? w _ aj)).trans aj)⟩)) (fun hHeld=>?_);refine with_tabW spec_MemoryOk.tab7 spec_MemoryOk.bits7 (fun HT_ HW_=>?_)
 generalize d4.drew=d8 at a6 a9 HB ar au av hHeld ⊢
 refine yr_ 0 31 bq_40 HT_ ?_
 refine yr_ 2 33 bq_41 HT_ ?_
 refine tr_ 1 32 bq_42 HT_ HW_ hHeld ?_
 refine tr_ 3 34 bq_43 HT_ HW_ hHeld ?_
 refine yr_ 4 35 bq_44 HT_ ?_
 refine one_ (i:=5) (N:=some 36) bq_45 rfl rfl (one_of HT_.out kr_) (by decide) (fun K hK=>?_)
 refine goes_ Tryz.func41 kr_ rfl #[] (by rfl) rfl rfl tq_0 ?_
 with_reducible refine (spec_l10Size.calls  aw _ bm.out).mono ?_
 rintro e w' ⟨rfl,⟨nd,rfl⟩⟩
 refine ⟨_,rfl,?_⟩
 refine hK.out _ _ (bc3_ a9.out (bc2_ a6.out ⟨((HB.out.cell (World.block_lt_of_cell? w _ al)).trans al),((HB.out.cell (World.block_lt_of_cell? w _ ak)).trans ak),((HB.out.cell (World.block_lt_of_cell? w _ aj)).trans aj)⟩)) (fun hHeld=>?_)
 clear hK K
 refine nm_ (some 36) ?_
 refine yr_ 6 37 bq_46 HT_ ?_
 refine yr_ 7 38 bq_47 HT_ ?_
 refine one_ (i:=8) (N:=some 39) bq_48 rfl rfl (one_of HT_.out kr_) (by decide) (fun K hK=>?_)
 refine goes_ Tryz.func42 kr_ rfl #[.int .i64 ((rd_T78 a5 a7).f0),.int .i64 0,.int .i64 (wrap64 ((wrap64 ((aa.size:Int) / aw)) - 1))] (by rfl) rfl rfl tq_0 ?_
 with_reducible refine (spec_l01In.calls ((rd_T78 a5 a7).f0) 0 (wrap64 ((wrap64 ((aa.size:Int) / aw)) - 1)) true _ bn.out).mono ?_
 rintro e w' ⟨rfl,⟨nd,rfl⟩⟩
 refine ⟨_,rfl,?_⟩
 refine hK.out _ _ (bc3_ a9.out (bc2_ a6.out ⟨((HB.out.cell (World.block_lt_of_cell? w _ al)).trans al),((HB.out.cell (World.block_lt_of_cell? w _ ak)).trans ak),((HB.out.cell (World.block_lt_of_cell? w _ aj)).trans aj)⟩)) (fun hHeld=>?_)
 clear hK K
 refine nm_ (some 39) ?_
 refine yr_ 9 40 bq_49 HT_ ?_
 refine yr_ 10 41 bq_50 HT_ ?_
 refine yr_ 11 42 bq_51 HT_ ?_
 refine tr_ 12 43 bq_52 HT_ HW_ hHeld ?_
 refine yr_ 13 44 bq_53 HT_ ?_
 refine one_ (i:=14) (N:=some 45) bq_54 rfl rfl (one_of HT_.out kr_) (by decide) (fun K hK=>?_)
 refine goes_ Tryz.func41 kr_ rfl #[] (by rfl) rfl rfl tq_0 ?_
 with_reducible refine (spec_l10Size.calls  b8 _ ca.out).mono ?_
 rintro e w' ⟨rfl,⟨nd,rfl⟩⟩
 refine ⟨_,rfl,?_⟩
 refine hK.out _ _ (bc3_ a9.out (bc2_ a6.out ⟨((HB.out.cell (World.block_lt_of_cell? w _ al)).trans al),((HB.out.cell (World.block_lt_of_cell? w _ ak)).trans ak),((HB.out.cell (World.block_lt_of_cell? w _ aj)).trans aj)⟩)) (fun hHeld=>?_)
 clear hK K
 refine nm_ (some 45) ?_
 refine yr_ 15 46 bq_55 HT_ ?_
 refine yr_ 16 47 bq_56 HT_ ?_
 refine yr_ 17 48 bq_57 HT_ ?_
 refine yr_ 18 49 bq_58 HT_ ?_
 refine yr_ 19 50 bq_59 HT_ ?_
 refine yr_ 20 51 bq_60 HT_ ?_
 refine yr_ 21 52 bq_61 HT_ ?_
 refine yr_ 23 54 #[T_,T_,T_,T_,T_,T_,T_,T_,T_,T_,T_,T_,T_,T_,T_,T_,T_,T_,T_,T_,T_,T_,F_,T_,F_,F_,F_,F_,F_,F_,F_,F_,F_] HT_ ?_
 refine yr_ 24 55 #[T_,T_,T_,T_,T_,T_,T_,T_,T_,T_,T_,T_,T_,T_,T_,T_,T_,T_,T_,T_,T_,T_,F_,T_,T_,F_,F_,F_,F_,F_,F_,F_,F_] HT_ ?_
 refine yr_ 28 59 #[T_,T_,T_,T_,T_,T_,T_,T_,T_,T_,T_,T_,T_,T_,T_,T_,T_,T_,T_,T_,T_,T_,F_,T_,T_,F_,F_,F_,T_,F_,F_,F_,F_] HT_ ?_
 refine tr_ 22 53 #[T_,T_,T_,T_,T_,T_,T_,T_,T_,T_,T_,T_,T_,T_,T_,T_,T_,T_,T_,T_,T_,T_,T_,T_,T_,F_,F_,F_,T_,F_,F_,F_,F_] HT_ HW_ hHeld ?_
 refine yr_ 25 56 #[T_,T_,T_,T_,T_,T_,T_,T_,T_,T_,T_,T_,T_,T_,T_,T_,T_,T_,T_,T_,T_,T_,T_,T_,T_,T_,F_,F_,T_,F_,F_,F_,F_] HT_ ?_
 refine yr_ 26 57 #[T_,T_,T_,T_,T_,T_,T_,T_,T_,T_,T_,T_,T_,T_,T_,T_,T_,T_,T_,T_,T_,T_,T_,T_,T_,T_,T_,F_,T_,F_,F_,F_,F_] HT_ ?_
 refine tr_ 27 58 bq_62 HT_ HW_ hHeld ?_
 refine tr_ 29 60 bq_63 HT_ HW_ hHeld ?_
 refine yr_ 30 61 bq_64 HT_ ?_
 refine yr_ 31 62 bq_65 HT_ ?_
 refine yr_ 32 63 bq_66 HT_ ?_
 refine done_ (done_of HT_.out kr_) ?_
 go_upto_if 63 with (fail)
 (try clear aq ap)
 (try clear bs)
 (try clear bu)
 (try clear bs)
 (try clear bu)
 (try clear ab ac ae)
 (try clear ar au av)
 have H:=br.out
 clear br
 by_cases bg:((rd_T78 a5 (ji22)).f0) ≥ ((rd_T78 a5 a7).f0)
 ·rw [if_pos bg] at H
  have ay:=de_ bg
  clear bg
  (first|rw [ay]|(simp only [i64_w,i32_w];rw [ay])|skip)
  obtain rfl:=oi_ H
  go_wp2
  go_ret
  exact ⟨(by first|rfl|(simp [errW_none,errW_some] <;> rfl)|(simp only [← hji22];first|rfl|(simp [errW_none,errW_some] <;> rfl))|(simp [*,errW_none,errW_some] <;> rfl)),th_⟩
 rw [if_neg bg] at H
 have ay:=df_ bg
 clear bg
 (first|rw [ay]|(simp only [i64_w,i32_w];rw [ay])|skip)
 have H':=m_ H
 clear H
 go_wp2
 go_roundg k2
 case measure=>have:=HJ1.out;have:=bw.out;omega
 case rel=>exact ⟨(wrap64 (a7+1)),tq_3,H',⟨(by have:=HJ1.out;have:=bw.out;omega)⟩,⟨(kb_ a6)⟩,⟨th_⟩⟩

attribute [local go_sem] max2_int min2_int max_two min_two max_three min_three max_four min_four setCell_drewN   -- for this text's walks alone
def spec_l10Words.f (a5:ByteArray) (a6:List (S78)):Option (Int):=some (wrap64 ((a5.size:Int) / 8))
theorem spec_l10Words.calls (a8:ByteArray) (a9:Option Addr) (aa:Nat) (a5:List (S78)) (r:Int) (w:World) (a6:Kd.C k78 w a9 a5.length a5) (a7:a5.length≤aa) (h:spec_l10Words.f a8 a5=some r) :
  Calls Tryz.prog 17 #[.agg #[.string a8,.slice a9 a5.length aa]] w fun e w'=>e=.returned (.int .i64 r)∧Below w.heap.size w w':=by
 have hu36:=Tryz.underlying36
 have HR0_1:=m_ a6
 have ac:=m_ a7
 clear a6 a7
 have HB:=m_ (Below.refl w.heap.size w)
 unfold spec_l10Words.f at h
 have H:=h
 clear h
 obtain rfl:=oi_ H
 go_enter Tryz.func17,Tryz.ntmps17
 go_wp2_with (first|((with_reducible refine gate_dst (N:=1) rfl ?_);refine be_ 1 (cs:=#[.string a8,.slice a9 a5.length aa]) 36 ?_;intro ae hg w2 hbox hb;have z_:=bx0_ th_ hb hbox hg;clear HB;obtain ⟨HB,ab,af,ag⟩:=z_;clear hb hbox hg;have ah:=bb2_ ab.out))
 go_ret
 exact ⟨tq_1,th_⟩

def spec_l10Cell.l0:Nat→Int→Int→ByteArray→List (S78)→Option (Int)
 | 0,_,_,_,_=>none
 | k+1,x1,x5,a6,a5=>if x5 < (a5.length:Int) then (if 0≤x5 then (if ((rd_T78 a5 x5).f0)=x1 then (some x5) else (spec_l10Cell.l0 k x1 (wrap64 (x5+1)) a6 a5)) else (none)) else (some (-1))
def spec_l10Cell.f (k:Nat) (a5:ByteArray) (a6:List (S78)) (a1:Int):Option (Int):=spec_l10Cell.l0 k a1 0 a5 a6
theorem spec_l10Cell.calls (k:Nat) (ac:ByteArray) (af:Option Addr) (ag:Nat) (a5:List (S78)) (a1:Int) (r:Int) (w:World) (ah:Kd.C k78 w af a5.length a5) (ai:a5.length≤ag) (h:spec_l10Cell.f k ac a5 a1=some r) :
  Calls Tryz.prog 95 #[.agg #[.string ac,.slice af a5.length ag],.int .i64 a1] w fun e w'=>e=.returned (.int .i64 r)∧Below w.heap.size w w':=by
 have hu36:=Tryz.underlying36
 have HR0_1:=m_ ah
 have ap:=m_ ai
 clear ah ai
 have HB:=m_ (Below.refl w.heap.size w)
 unfold spec_l10Cell.f at h
 have H:=h
 clear h
 have H':=m_ H
 clear H
 go_enter Tryz.func95,Tryz.ntmps95
 go_wp2_with (first|((with_reducible refine gate_dst (N:=2) rfl ?_);refine be_ 2 (cs:=#[.string ac,.slice af a5.length ag]) 36 ?_;intro am hg w3 hbox hb;have z_:=bx0_ th_ hb hbox hg;clear HB;obtain ⟨HB,aa,aq,ar⟩:=z_;clear hb hbox hg))
 go_loopg [5] k (fun kq v5 w'=>∃ (a6:Int),v5=.int .i64 a6∧Aside0 (spec_l10Cell.l0 kq a1 a6 ac a5=some r)∧Aside0 (kq≤k)∧Aside0 (w'.heap[am]?=some (.cells #[.string ac,(.slice af a5.length ag)] 36 (0,0)))∧Aside0 (Below w.heap.size w w'))
 case atStart=>exact ⟨(0),tq_3,H',⟨Nat.le_refl _⟩,⟨(kb_ aa)⟩,⟨th_⟩⟩
 case round =>
 clear H'
 try clear p2
 obtain ⟨a6,rfl,HA,HK1,aa,HB⟩:=hrel
 cases gk with
 | zero=>exact absurd HA.out (by simp [spec_l10Cell.l0])
 | succ k1 =>
 have H:=HA.out
 clear HA
 simp only [spec_l10Cell.l0] at H
 have au:=m_ H
 clear H
 have ax:=bb2_ aa.out
 go_upto_if 10 with (fail)
 (try clear ax)
 have H:=au.out
 clear au
 by_cases c6:a6 < (a5.length:Int)
 rotate_left
 ·rw [if_neg c6] at H
  have ae:=df_ c6
  clear c6
  (first|rw [ae]|(simp only [i64_w,i32_w];rw [ae])|skip)
  obtain rfl:=oi_ H
  go_wp2
  go_ret
  exact ⟨tq_1,th_⟩
 rw [if_pos c6] at H
 have ae:=de_ c6
 clear c6
 (first|rw [ae]|(simp only [i64_w,i32_w];rw [ae])|skip)
 obtain ⟨c7,H⟩:=fc_ H
 have ay:=de_ c7
 clear c7
 have av:=m_ H
 clear H
 have az:=bb2_ aa.out
 have aj:0≤(a6:Int):=od_ tq_2
 have ak:a6 < (a5.length:Int):=od_ tq_2
 obtain ⟨aw,ao,a7,a8,a9⟩:=at_T78 HR0_1.out a6 aj ak
 cases ao
 replace a7:=hx_ HB.out a7
 replace a8:=hx_ HB.out a8
 replace a9:=hx_ HB.out a9
 replace aj:=eq_true aj
 replace ak:=eq_true ak
 go_upto_if 20 with (fail)
 (try clear az)
 (try clear a7 a8 a9)
 have H:=av.out
 clear av
 by_cases al:((rd_T78 a5 a6).f0)=a1
 ·rw [if_pos al] at H
  have ab:=qa_ al
  have an:=qb_ al
  clear al
  (first|rw [ab]|(simp only [i64_w,i32_w];rw [ab])|skip)
  obtain rfl:=oi_ H
  go_wp2
  go_ret
  exact ⟨tq_1,th_⟩
 rw [if_neg al] at H
 have ab:=qc_ al
 have an:=qd_ al
 (first|rw [ab]|(simp only [i64_w,i32_w];rw [ab])|skip)
 have H':=m_ H
 clear H
 go_wp2
 go_roundg k1
 case measure=>have:=HK1.out;omega
 case rel=>exact ⟨(wrap64 (a6+1)),tq_3,H',⟨tq_14⟩,⟨(kb_ aa)⟩,⟨th_⟩⟩

def spec_l10Line.f (k:Nat) (a6:ByteArray) (a7:List (S78)) (a1:Int):Option (ByteArray):=(spec_l10Cell.f k a6 a7 a1).bind fun a5=>(if a5 ≥ 0 then (if 0≤a5 then (if a5 < (a7.length:Int) then (some ((rd_T78 a7 a5).f1)) else (none)) else (none)) else ((spec_l10Size.f).bind fun a8=>((spec_l10Size.f).bind fun a9=>(if 0≤(wrap64 (a1 * a8)) then (if (wrap64 (a1 * a8))≤(wrap64 ((wrap64 (a1+1)) * a9)) then (if (wrap64 ((wrap64 (a1+1)) * a9))≤(a6.size:Int) then ((some (a6.extract ((wrap64 (a1 * a8)):Int).toNat ((wrap64 ((wrap64 (a1+1)) * a9)):Int).toNat:ByteArray)).bind fun aa=>(some aa)) else (none)) else (none)) else (none)))))
theorem spec_l10Line.calls (k:Nat) (a8:ByteArray) (ae:Option Addr) (af:Nat) (a7:List (S78)) (a1:Int) (r:ByteArray) (w:World) (ai:Kd.C k78 w ae a7.length a7) (aj:a7.length≤af) (h:spec_l10Line.f k a8 a7 a1=some r) :
  Calls Tryz.prog 73 #[.agg #[.string a8,.slice ae a7.length af],.int .i64 a1] w fun e w'=>e=.returned (.string r)∧Below w.heap.size w w':=by
 have hu36:=Tryz.underlying36
 have HR0_1:=m_ ai
 have ag:=m_ aj
 clear ai aj
 have HB:=m_ (Below.refl w.heap.size w)
 unfold spec_l10Line.f at h
 have H:=h
 clear h
 obtain ⟨a9,A3,H⟩:=bd_ H
 have b1:=m_ H
 clear H
 go_enter Tryz.func73,Tryz.ntmps73
 go_upto_if 10 with (first|((with_reducible refine gate_dst (N:=2) rfl ?_);refine be_ 2 (cs:=#[.string a8,.slice ae a7.length af]) 36 ?_;intro ak hg w5 hbox hb;have z_:=bx0_ th_ hb hbox hg;clear HB;obtain ⟨HB,a5,al,am⟩:=z_;clear hb hbox hg;have av:=bb2_ a5.out)|(go_at_call 95;(with_reducible refine (spec_l10Cell.calls k a8 _ _ a7 a1 a9 _ ?side1 ?side2 A3.out).mono ?_);(case side1=>exact tq_4);(case side2=>exact ag.out);rintro e w7 ⟨rfl,hb⟩;have z_:=bw1_ (kb_ a5) th_ hb;clear a5 HB;obtain ⟨a5,HB⟩:=z_;(try clear hb)))
 repeat (go_quiet (first|((with_reducible refine gate_dst (N:=2) rfl ?_);refine be_ 2 (cs:=#[.string a8,.slice ae a7.length af]) 36 ?_;intro ak hg w5 hbox hb;have z_:=bx0_ th_ hb hbox hg;clear HB;obtain ⟨HB,a5,al,am⟩:=z_;clear hb hbox hg;have av:=bb2_ a5.out)|(go_at_call 95;(with_reducible refine (spec_l10Cell.calls k a8 _ _ a7 a1 a9 _ ?side1 ?side2 A3.out).mono ?_);(case side1=>exact tq_4);(case side2=>exact ag.out);rintro e w7 ⟨rfl,hb⟩;have z_:=bw1_ (kb_ a5) th_ hb;clear a5 HB;obtain ⟨a5,HB⟩:=z_;(try clear hb)));go_upto_if 10 with (first|((with_reducible refine gate_dst (N:=2) rfl ?_);refine be_ 2 (cs:=#[.string a8,.slice ae a7.length af]) 36 ?_;intro ak hg w5 hbox hb;have z_:=bx0_ th_ hb hbox hg;clear HB;obtain ⟨HB,a5,al,am⟩:=z_;clear hb hbox hg;have av:=bb2_ a5.out)|(go_at_call 95;(with_reducible refine (spec_l10Cell.calls k a8 _ _ a7 a1 a9 _ ?side1 ?side2 A3.out).mono ?_);(case side1=>exact tq_4);(case side2=>exact ag.out);rintro e w7 ⟨rfl,hb⟩;have z_:=bw1_ (kb_ a5) th_ hb;clear a5 HB;obtain ⟨a5,HB⟩:=z_;(try clear hb))))
 (try simp only [Act.put,List.setIfInBounds_toArray,List.set_cons_zero,List.set_cons_succ])
 (try clear av)
 have H:=b1.out
 clear b1
 by_cases c8:a9 ≥ 0
 ·rw [if_pos c8] at H
  have ah:=de_ c8
  clear c8
  (first|rw [ah]|(simp only [i64_w,i32_w];rw [ah])|skip)
  obtain ⟨c9,H⟩:=fc_ H
  have bb:=de_ c9
  clear c9
  obtain ⟨b2,H⟩:=fc_ H
  have b3:=de_ b2
  clear b2
  obtain rfl:=oi_ H
  have bc:=bb2_ a5.out
  have ao:0≤(a9:Int):=od_ tq_2
  have ap:a9 < (a7.length:Int):=od_ tq_2
  obtain ⟨b4,aw,aa,ab,ac⟩:=at_T78 HR0_1.out a9 ao ap
  cases aw
  replace aa:=hx_ HB.out aa
  replace ab:=hx_ HB.out ab
  replace ac:=hx_ HB.out ac
  replace ao:=eq_true ao
  replace ap:=eq_true ap
  go_wp2
  repeat (go_quiet (fail);try go_wp2)
  go_ret
  exact ⟨tq_1,th_⟩
 rw [if_neg c8] at H
 have ah:=df_ c8
 clear c8
 (first|rw [ah]|(simp only [i64_w,i32_w];rw [ah])|skip)
 obtain ⟨a6,ar,H⟩:=bd_ H
 obtain ⟨ax,au,H⟩:=bd_ H
 have e_:a6=ax:=oi_ (ar.out.symm.trans au.out)
 subst e_
 obtain ⟨ji14,hji14⟩:∃ j_:Int,(wrap64 (a1 * a6))=j_:=⟨_,rfl⟩
 replace H:(if 0≤(ji14) then (if (ji14)≤(wrap64 ((wrap64 (a1+1)) * a6)) then (if (wrap64 ((wrap64 (a1+1)) * a6))≤(a8.size:Int) then ((some (a8.extract ((ji14):Int).toNat ((wrap64 ((wrap64 (a1+1)) * a6)):Int).toNat:ByteArray)).bind fun aq=>(some aq)) else (none)) else (none)) else (none))=some r:=by first|(rw [hji14] at H;exact H)|(simp only [hji14] at H ⊢;exact H)
 (try rw [hji14] at ar)
 (try rw [hji14] at au)
 have hji14w:(IntKind.i64.wrap (a1 * a6))=ji14:=(i64_w _).trans hji14
 obtain ⟨ay,H⟩:=fc_ H
 have b5:=eq_true ay
 have b6:=de_ ay
 clear ay
 obtain ⟨az,H⟩:=fc_ H
 have b7:=eq_true az
 have b8:=de_ az
 clear az
 obtain ⟨b0,H⟩:=fc_ H
 have b9:=eq_true b0
 have ba:=de_ b0
 clear b0
 obtain ⟨aq,an⟩:∃ y_:ByteArray,(a8.extract ((ji14):Int).toNat ((wrap64 ((wrap64 (a1+1)) * a6)):Int).toNat)=y_:=⟨_,rfl⟩
 replace H:(some aq)=some r:=by rw [← an];exact (Option.bind_some _ _).symm.trans H
 (try simp only [Int.toNat_natCast] at an)
 obtain rfl:=oi_ H
 have bd:=bb2_ a5.out
 go_wp2_with (first|(go_at_call 41;(with_reducible refine (spec_l10Size.calls  a6 _ ar.out).mono ?_);rintro e w' ⟨rfl,⟨nd,rfl⟩⟩;(try first|exact ⟨rfl,_,World.drewN_drewN _ _ _⟩|exact ⟨rfl,_,Eq.trans (World.drewN_drewN _ _ _) (congrArg (World.drewN _) (Nat.add_assoc _ _ _))⟩))|(go_at_call 41;(with_reducible refine (spec_l10Size.calls  a6 _ au.out).mono ?_);rintro e w' ⟨rfl,⟨nd,rfl⟩⟩;(try first|exact ⟨rfl,_,World.drewN_drewN _ _ _⟩|exact ⟨rfl,_,Eq.trans (World.drewN_drewN _ _ _) (congrArg (World.drewN _) (Nat.add_assoc _ _ _))⟩)))
 repeat (go_quiet (first|(go_at_call 41;(with_reducible refine (spec_l10Size.calls  a6 _ ar.out).mono ?_);rintro e w' ⟨rfl,⟨nd,rfl⟩⟩;(try first|exact ⟨rfl,_,World.drewN_drewN _ _ _⟩|exact ⟨rfl,_,Eq.trans (World.drewN_drewN _ _ _) (congrArg (World.drewN _) (Nat.add_assoc _ _ _))⟩))|(go_at_call 41;(with_reducible refine (spec_l10Size.calls  a6 _ au.out).mono ?_);rintro e w' ⟨rfl,⟨nd,rfl⟩⟩;(try first|exact ⟨rfl,_,World.drewN_drewN _ _ _⟩|exact ⟨rfl,_,Eq.trans (World.drewN_drewN _ _ _) (congrArg (World.drewN _) (Nat.add_assoc _ _ _))⟩)));try go_wp2_with (first|(go_at_call 41;(with_reducible refine (spec_l10Size.calls  a6 _ ar.out).mono ?_);rintro e w' ⟨rfl,⟨nd,rfl⟩⟩;(try first|exact ⟨rfl,_,World.drewN_drewN _ _ _⟩|exact ⟨rfl,_,Eq.trans (World.drewN_drewN _ _ _) (congrArg (World.drewN _) (Nat.add_assoc _ _ _))⟩))|(go_at_call 41;(with_reducible refine (spec_l10Size.calls  a6 _ au.out).mono ?_);rintro e w' ⟨rfl,⟨nd,rfl⟩⟩;(try first|exact ⟨rfl,_,World.drewN_drewN _ _ _⟩|exact ⟨rfl,_,Eq.trans (World.drewN_drewN _ _ _) (congrArg (World.drewN _) (Nat.add_assoc _ _ _))⟩))))
 go_ret
 exact ⟨(by first|rfl|(simp [errW_none,errW_some] <;> rfl)|(simp only [← hji14];first|rfl|(simp [errW_none,errW_some] <;> rfl))|(simp [*,errW_none,errW_some] <;> rfl)),th_⟩

def spec_l10Word.f (k:Nat) (a6:ByteArray) (a7:List (S78)) (a1:Int):Option (ByteArray):=(spec_l10Line.f k a6 a7 (wrap64 (Int.tdiv a1 2))).bind fun a5=>(if 0≤(wrap64 ((Int.tmod a1 2) * 8)) then (if (wrap64 ((Int.tmod a1 2) * 8))≤(wrap64 ((wrap64 ((Int.tmod a1 2) * 8))+8)) then (if (wrap64 ((wrap64 ((Int.tmod a1 2) * 8))+8))≤(a5.size:Int) then ((some (a5.extract ((wrap64 ((Int.tmod a1 2) * 8)):Int).toNat ((wrap64 ((wrap64 ((Int.tmod a1 2) * 8))+8)):Int).toNat:ByteArray)).bind fun a8=>(some a8)) else (none)) else (none)) else (none))
theorem spec_l10Word.calls (k:Nat) (a7:ByteArray) (a8:Option Addr) (a9:Nat) (a5:List (S78)) (a1:Int) (r:ByteArray) (w:World) (ab:Kd.C k78 w a8 a5.length a5) (ac:a5.length≤a9) (h:spec_l10Word.f k a7 a5 a1=some r) :
  Calls Tryz.prog 44 #[.agg #[.string a7,.slice a8 a5.length a9],.int .i64 a1] w fun e w'=>e=.returned (.string r)∧Below w.heap.size w w':=by
 have hu36:=Tryz.underlying36
 have HR0_1:=m_ ab
 have ag:=m_ ac
 clear ab ac
 have HB:=m_ (Below.refl w.heap.size w)
 unfold spec_l10Word.f at h
 have H:=h
 clear h
 obtain ⟨aa,A3,H⟩:=bd_ H
 obtain ⟨ji4,hji4⟩:∃ j_:Int,(wrap64 ((Int.tmod a1 2) * 8))=j_:=⟨_,rfl⟩
 replace H:(if 0≤(ji4) then (if (ji4)≤(wrap64 ((ji4)+8)) then (if (wrap64 ((ji4)+8))≤(aa.size:Int) then ((some (aa.extract ((ji4):Int).toNat ((wrap64 ((ji4)+8)):Int).toNat:ByteArray)).bind fun af=>(some af)) else (none)) else (none)) else (none))=some r:=by first|(rw [hji4] at H;exact H)|(simp only [hji4] at H ⊢;exact H)
 (try rw [hji4] at A3)
 have hji4w:(IntKind.i64.wrap ((Int.tmod a1 2) * 8))=ji4:=(i64_w _).trans hji4
 obtain ⟨c5,H⟩:=fc_ H
 have ak:=eq_true c5
 have al:=de_ c5
 clear c5
 obtain ⟨c6,H⟩:=fc_ H
 have am:=eq_true c6
 have an:=de_ c6
 clear c6
 obtain ⟨c7,H⟩:=fc_ H
 have ao:=eq_true c7
 have ap:=de_ c7
 clear c7
 obtain ⟨af,ae⟩:∃ y_:ByteArray,(aa.extract ((ji4):Int).toNat ((wrap64 ((ji4)+8)):Int).toNat)=y_:=⟨_,rfl⟩
 replace H:(some af)=some r:=by rw [← ae];exact (Option.bind_some _ _).symm.trans H
 (try simp only [Int.toNat_natCast] at ae)
 obtain rfl:=oi_ H
 go_enter Tryz.func44,Tryz.ntmps44
 go_wp2_with (first|((with_reducible refine gate_dst (N:=2) rfl ?_);refine be_ 2 (cs:=#[.string a7,.slice a8 a5.length a9]) 36 ?_;intro ah hg w8 hbox hb;have z_:=bx0_ th_ hb hbox hg;clear HB;obtain ⟨HB,a6,ai,aj⟩:=z_;clear hb hbox hg;have aq:=bb2_ a6.out)|((with_reducible refine gate_callee (f:=73) rfl ?_);refine goesL_ (some 10) rfl rfl Tryz.func73 kr_ rfl #[.agg #[.string a7,.slice a8 a5.length a9],.int .i64 (wrap64 (Int.tdiv a1 2))] rfl tq_0 ?_;(with_reducible refine (spec_l10Line.calls k a7 _ _ a5 (wrap64 (Int.tdiv a1 2)) aa _ ?side1 ?side2 A3.out).mono ?_);(case side1=>exact tq_4);(case side2=>exact ag.out);rintro e ar ⟨rfl,hb⟩;refine ⟨_,rfl,?_⟩;have z_:=bw1_ (kb_ a6) th_ hb;clear a6 HB;obtain ⟨a6,HB⟩:=z_;(try clear hb)))
 go_ret
 exact ⟨tq_91,th_⟩

def spec_WordAt.f (k:Nat) (a5:ByteArray) (a6:List (S78)) (a1:Int):Option (ByteArray):=(spec_MemoryOk.f k a5 a6).bind fun a7=>(if a7=true then ((spec_l10Words.f a5 a6).bind fun a8=>((spec_l01In.f a1 0 (wrap64 (a8 - 1))).bind fun a9=>(if a9=true then ((spec_l10Word.f k a5 a6 a1).bind fun aa=>(some aa)) else (some (⟨#[]⟩:ByteArray))))) else (some (⟨#[]⟩:ByteArray)))
theorem spec_WordAt.calls (k:Nat) (a7:ByteArray) (a8:Option Addr) (a9:Nat) (a6:List (S78)) (a1:Int) (r:ByteArray) (w:World) (ab:Kd.C k78 w a8 a6.length a6) (ac:a6.length≤a9) (h:spec_WordAt.f k a7 a6 a1=some r) :
  Calls Tryz.prog 19 #[.agg #[.string a7,.slice a8 a6.length a9],.int .i64 a1] w fun e w'=>e=.returned (.string r)∧Below w.heap.size w w':=by
 have hu36:=Tryz.underlying36
 have HR0_1:=m_ ab
 have aa:=m_ ac
 clear ab ac
 have HB:=m_ (Below.refl w.heap.size w)
 unfold spec_WordAt.f at h
 have H:=h
 clear h
 obtain ⟨al,A3,H⟩:=bd_ H
 by_cases c4:al=true
 rotate_left
 ·replace c4:=Bool.eq_false_iff.mpr c4
  subst c4
  rw [if_neg nf_] at H
  obtain rfl:=oi_ H
  go_enter Tryz.func19,Tryz.ntmps19
  go_wp2_with (first|((with_reducible refine gate_dst (N:=2) rfl ?_);refine be_ 2 (cs:=#[.string a7,.slice a8 a6.length a9]) 36 ?_;intro ae hg au hbox hb;have z_:=bx0_ th_ hb hbox hg;clear HB;obtain ⟨HB,a5,af,ag⟩:=z_;clear hb hbox hg;have ap:=bb2_ a5.out)|((with_reducible refine gate_callee (f:=16) rfl ?_);refine goesL_ (some 6) rfl rfl Tryz.func16 kr_ rfl #[.agg #[.string a7,.slice a8 a6.length a9]] rfl tq_0 ?_;(with_reducible refine (spec_MemoryOk.calls k a7 _ _ a6 false _ ?side1 ?side2 A3.out).mono ?_);(case side1=>exact tq_4);(case side2=>exact aa.out);rintro e av ⟨rfl,hb⟩;refine ⟨_,rfl,?_⟩;have z_:=bw1_ (kb_ a5) th_ hb;clear a5 HB;obtain ⟨a5,HB⟩:=z_;(try clear hb)))
  go_ret
  exact ⟨tq_1,th_⟩
 subst c4
 rw [if_pos rfl] at H
 obtain ⟨ah,A5,H⟩:=bd_ H
 obtain ⟨ai,A6,H⟩:=bd_ H
 have an:=m_ H
 clear H
 go_enter Tryz.func19,Tryz.ntmps19
 go_upto_if 15 with (first|((with_reducible refine gate_dst (N:=2) rfl ?_);refine be_ 2 (cs:=#[.string a7,.slice a8 a6.length a9]) 36 ?_;intro ae hg w8 hbox hb;have z_:=bx0_ th_ hb hbox hg;clear HB;obtain ⟨HB,a5,af,ag⟩:=z_;clear hb hbox hg;have ao:=bb2_ a5.out)|((with_reducible refine gate_callee (f:=16) rfl ?_);refine goesL_ (some 6) rfl rfl Tryz.func16 kr_ rfl #[.agg #[.string a7,.slice a8 a6.length a9]] rfl tq_0 ?_;(with_reducible refine (spec_MemoryOk.calls k a7 _ _ a6 true _ ?side1 ?side2 A3.out).mono ?_);(case side1=>exact tq_4);(case side2=>exact aa.out);rintro e aw ⟨rfl,hb⟩;refine ⟨_,rfl,?_⟩;have z_:=bw1_ (kb_ a5) th_ hb;clear a5 HB;obtain ⟨a5,HB⟩:=z_;(try clear hb);have aj:=bb2_ a5.out)|(go_at_call 17;(with_reducible refine (spec_l10Words.calls a7 _ _ a6 ah _ ?side1 ?side2 A5.out).mono ?_);(case side1=>exact tq_4);(case side2=>exact aa.out);rintro e ax ⟨rfl,hb⟩;have z_:=bw1_ (kb_ a5) th_ hb;clear a5 HB;obtain ⟨a5,HB⟩:=z_;(try clear hb))|(go_at_call 42;(with_reducible refine (spec_l01In.calls a1 0 (wrap64 (ah - 1)) ai _ A6.out).mono ?_);rintro e w' ⟨rfl,⟨nd,rfl⟩⟩))
 (try simp only [Act.put,List.setIfInBounds_toArray,List.set_cons_zero,List.set_cons_succ])
 (try clear aj)
 (try clear ao)
 (try clear aj)
 (try clear ao)
 have H:=an.out
 clear an
 by_cases ak:ai=true
 rotate_left
 ·replace ak:=Bool.eq_false_iff.mpr ak
  subst ak
  rw [if_neg nf_] at H
  obtain rfl:=oi_ H
  go_wp2
  go_ret
  exact ⟨tq_1,th_⟩
 subst ak
 rw [if_pos rfl] at H
 obtain ⟨am,aq,H⟩:=bd_ H
 obtain rfl:=oi_ H
 have ar:=bb2_ a5.out
 go_wp2_with (first|((with_reducible refine gate_callee (f:=44) rfl ?_);refine goesL_ (some 18) rfl rfl Tryz.func44 kr_ rfl #[.agg #[.string a7,.slice a8 a6.length a9],.int .i64 a1] rfl tq_0 ?_;(with_reducible refine (spec_l10Word.calls k a7 _ _ a6 a1 am _ ?side1 ?side2 aq.out).mono ?_);(case side1=>repeat (first|exact (Kd.C_below HR0_1.out th_)|(with_reducible refine Kd.C_alloc ?_ _)|(with_reducible refine Kd.C_drewN ?_ _)|(with_reducible refine Kd.C_drew ?_)));(case side2=>exact aa.out);rintro e ay ⟨rfl,hb⟩;refine ⟨_,rfl,?_⟩;have z_:=bw1_ (kb_ a5) th_ hb;clear a5 HB;obtain ⟨a5,HB⟩:=z_;(try clear hb)))
 go_ret
 exact ⟨tq_1,th_⟩

def spec_SerialAt.f (a5:Int) (a6:Int) (a7:Int) (a8:Int) (a1:Int):Option (Int):=(spec_l11At.f a5 a6 a7 a8 a1 2).bind fun a9=>(some a9)
theorem spec_SerialAt.calls (a6:Int) (a7:Int) (a8:Int) (a9:Int) (a1:Int) (r:Int) (w:World) (h:spec_SerialAt.f a6 a7 a8 a9 a1=some r) :
  Calls Tryz.prog 20 #[.agg #[.int .i64 a6,.int .i64 a7,.int .i64 a8,.int .i64 a9],.int .i64 a1] w fun e w'=>e=.returned (.int .i64 r)∧Below w.heap.size w w':=by
 have hu38:=Tryz.underlying38
 have HB:=m_ (Below.refl w.heap.size w)
 unfold spec_SerialAt.f at h
 have H:=h
 clear h
 obtain ⟨aa,A3,H⟩:=bd_ H
 obtain rfl:=oi_ H
 go_enter Tryz.func20,Tryz.ntmps20
 go_wp2_with (first|((with_reducible refine gate_dst (N:=2) rfl ?_);refine be_ 2 (cs:=#[.int .i64 a6,.int .i64 a7,.int .i64 a8,.int .i64 a9]) 38 ?_;intro ab hg w4 hbox hb;have z_:=bx0_ th_ hb hbox hg;clear HB;obtain ⟨HB,a5,ac,ae⟩:=z_;clear hb hbox hg;have af:=bb4_ a5.out)|((with_reducible refine gate_callee (f:=24) rfl ?_);refine goesL_ (some 7) rfl rfl Tryz.func24 kr_ rfl #[.agg #[.int .i64 a6,.int .i64 a7,.int .i64 a8,.int .i64 a9],.int .i64 a1,.int .i64 2] rfl tq_0 ?_;(with_reducible refine (spec_l11At.calls a6 a7 a8 a9 a1 2 aa _ A3.out).mono ?_);rintro e w6 ⟨rfl,hb⟩;refine ⟨_,rfl,?_⟩;have z_:=bw1_ (kb_ a5) th_ hb;clear a5 HB;obtain ⟨a5,HB⟩:=z_;(try clear hb)))
 go_ret
 exact ⟨tq_1,th_⟩

mutual
def spec_NumAt.j0:Nat→ByteArray→Int→Int→Bool→Option (Int × Bool)
 | 0,_,_,_,_=>none
 | k+1,x0,x1,x2,a5=>if a5=true then (some (0,false)) else (spec_NumAt.l0 k x0 x1 x2 0 x1)
def spec_NumAt.l0:Nat→ByteArray→Int→Int→Int→Int→Option (Int × Bool)
 | 0,_,_,_,_,_=>none
 | k+1,x0,x1,x2,x8,x9=>if x9 < (wrap64 (x1+x2)) then (if 0≤x9 then (if x9 < (x0.size:Int) then (spec_NumAt.l0 k x0 x1 x2 (wrap64 ((wrap64 (256 * x8))+(wrap64 (bt x0 x9)))) (wrap64 (x9+1))) else (none)) else (none)) else (some (x8,true))
end
def spec_NumAt.f (k:Nat) (a0:ByteArray) (a1:Int) (a2:Int):Option (Int × Bool):=(spec_l01In.f a2 1 7).bind fun a5=>(if a5=true then ((spec_l01In.f a1 0 (wrap64 ((a0.size:Int) - a2))).bind fun a6=>(spec_NumAt.j0 k a0 a1 a2 (!a6))) else (spec_NumAt.j0 k a0 a1 a2 true))
theorem spec_NumAt.calls (k:Nat) (a0:ByteArray) (a1:Int) (a2:Int) (r1:Int) (r2:Bool) (w:World) (h:spec_NumAt.f k a0 a1 a2=some (r1,r2)) :
  Calls Tryz.prog 21 #[.string a0,.int .i64 a1,.int .i64 a2] w fun e w'=>e=.returned (.tuple #[.int .i64 r1,.bool r2])∧Drawn0 w w':=by
 unfold spec_NumAt.f at h
 have H:=h
 clear h
 have a9:=m_ H
 clear H
 go_enter Tryz.func21,Tryz.ntmps21
 go_upto_region 1 with (fail)
 go_cut [21] (fun v21 wc=>∃ (kq:Nat) (a6:Bool),v21=.bool a6∧Aside0 (spec_NumAt.j0 kq a0 a1 a2 a6=some (r1,r2))∧Aside0 (kq≤k)∧Drawn0 w wc)
 case first =>
  have H:=a9.out
  clear a9
  obtain ⟨aa,A5,H⟩:=bd_ H
  by_cases c6:aa=true
  rotate_left
  ·replace c6:=Bool.eq_false_iff.mpr c6
   subst c6
   rw [if_neg nf_] at H
   have H':=m_ H
   clear H
   go_wp2_with (first|((with_reducible refine gate_callee (f:=42) rfl ?_);refine goesL_ (some 11) rfl rfl Tryz.func42 kr_ rfl #[.int .i64 a2,.int .i64 1,.int .i64 7] rfl tq_0 ?_;(with_reducible refine (spec_l01In.calls a2 1 7 false _ A5.out).mono ?_);rintro e w' ⟨rfl,⟨nd,rfl⟩⟩;refine ⟨_,rfl,?_⟩))
   go_meet
   case rel=>exact ⟨_,(true),tq_3,H',⟨tq_12⟩,tq_8⟩
  subst c6
  rw [if_pos rfl] at H
  obtain ⟨a8,A7,H⟩:=bd_ H
  have H':=m_ H
  clear H
  go_wp2_with (first|((with_reducible refine gate_callee (f:=42) rfl ?_);refine goesL_ (some 11) rfl rfl Tryz.func42 kr_ rfl #[.int .i64 a2,.int .i64 1,.int .i64 7] rfl tq_0 ?_;(with_reducible refine (spec_l01In.calls a2 1 7 true _ A5.out).mono ?_);rintro e w' ⟨rfl,⟨nd,rfl⟩⟩;refine ⟨_,rfl,?_⟩)|(go_at_call 42;(with_reducible refine (spec_l01In.calls a1 0 (wrap64 ((a0.size:Int) - a2)) a8 _ A7.out).mono ?_);rintro e w' ⟨rfl,⟨nd,rfl⟩⟩))
  go_meet
  case rel=>exact ⟨_,(!a8),tq_3,H',⟨tq_12⟩,tq_8⟩
 case rest =>
 clear a9
 try clear c2;try clear p2;try clear c4;try clear c6;try clear p6
 obtain ⟨kq,a6,rfl,HA,HJ3,⟨mc3,rfl⟩⟩:=hcut
 cases kq with
 | zero=>exact absurd HA.out (by simp [spec_NumAt.j0])
 | succ kj3 =>
 have H:=HA.out
 clear HA
 simp only [spec_NumAt.j0] at H
 by_cases c8:a6=true
 ·subst c8
  rw [if_pos rfl] at H
  simp only [Option.some.injEq,Prod.mk.injEq] at H
  obtain ⟨rfl,rfl⟩:=H
  go_wp2
  go_ret2
  exact ⟨tq_3,tq_8⟩
 replace c8:=Bool.eq_false_iff.mpr c8
 subst c8
 rw [if_neg nf_] at H
 have H':=m_ H
 clear H
 go_wp2
 go_loopg [8,9] kj3 (fun kq v8 v9 w'=>∃ (a7:Int) (a5:Int),v8=.int .i64 a7∧v9=.int .i64 a5∧Aside0 (spec_NumAt.l0 kq a0 a1 a2 a7 a5=some (r1,r2))∧Aside0 (kq≤kj3)∧Drawn0 w w')
 case atStart=>exact ⟨(0),(a1),tq_3,tq_3,H',⟨Nat.le_refl _⟩,tq_8⟩
 case round =>
 clear H'
 try clear c2;try clear p2;try clear c3;try clear c4;try clear c6;try clear p6;try clear c8;try clear p2;try clear p6
 obtain ⟨a7,a5,rfl,rfl,HA,ac,⟨m2,rfl⟩⟩:=hrel
 cases gk with
 | zero=>exact absurd HA.out (by simp [spec_NumAt.l0])
 | succ k2 =>
 have H:=HA.out
 clear HA
 simp only [spec_NumAt.l0] at H
 by_cases c9:a5 < (wrap64 (a1+a2))
 rotate_left
 ·rw [if_neg c9] at H
  have ab:=df_ c9
  clear c9
  simp only [Option.some.injEq,Prod.mk.injEq] at H
  obtain ⟨rfl,rfl⟩:=H
  go_wp2
  go_ret2
  exact ⟨tq_3,tq_8⟩
 rw [if_pos c9] at H
 have ab:=de_ c9
 clear c9
 obtain ⟨ae,H⟩:=fc_ H
 have af:=de_ ae
 clear ae
 obtain ⟨ag,H⟩:=fc_ H
 have ah:=de_ ag
 clear ag
 have H':=m_ H
 clear H
 have ai:0≤(a5:Int):=od_ tq_2
 have aj:a5 < (a0.size:Int):=od_ tq_2
 have hx12:=bt_at a0 a5
 replace ai:=eq_true ai
 replace aj:=eq_true aj
 go_wp2
 go_roundg k2
 case measure=>have:=HJ3.out;have:=ac.out;omega
 case rel=>exact ⟨(wrap64 ((wrap64 (256 * a7))+(wrap64 (bt a0 a5)))),(wrap64 (a5+1)),tq_3,tq_3,H',⟨(by have:=HJ3.out;have:=ac.out;omega)⟩,tq_8⟩

def spec_l12Words.l0:Nat→List ByteArray→List ByteArray→Int→Option (Bool)
 | 0,_,_,_=>none
 | k+1,x0,x1,x5=>if x5 < (x0.length:Int) then (if 0≤x5 then (if x5 < (x1.length:Int) then (if (rdOf ByteArray.empty x0 x5).toList=(rdOf ByteArray.empty x1 x5).toList then (spec_l12Words.l0 k x0 x1 (wrap64 (x5+1))) else (some false)) else (none)) else (none)) else (some true)
def spec_l12Words.f (k:Nat) (l0:List ByteArray) (l1:List ByteArray):Option (Bool):=if (l0.length:Int)=(l1.length:Int) then (spec_l12Words.l0 k l0 l1 0) else (some false)
theorem spec_l12Words.calls (k:Nat) (A0:Option Addr) (c0:Nat) (l0:List ByteArray) (A1:Option Addr) (c1:Nat) (l1:List ByteArray) (r:Bool) (w:World) (hr0:Kd.C Kd.string w A0 l0.length l0) (hc0:l0.length≤c0) (hr1:Kd.C Kd.string w A1 l1.length l1) (hc1:l1.length≤c1) (h:spec_l12Words.f k l0 l1=some r) :
  Calls Tryz.prog 45 #[.slice A0 l0.length c0,.slice A1 l1.length c1] w fun e w'=>e=.returned (.bool r)∧Drawn0 w w':=by
 have HR0:=m_ hr0
 have ar:=m_ hc0
 clear hr0 hc0
 have ao:=m_ hr1
 have au:=m_ hc1
 clear hr1 hc1
 unfold spec_l12Words.f at h
 have H:=h
 clear h
 by_cases c3:(l0.length:Int)=(l1.length:Int)
 rotate_left
 ·rw [if_neg c3] at H
  have ae:=qc_ c3
  have af:=qd_ c3
  have ag:(l0.length == l1.length)=false:=by first|simpa using c3|(simp at c3 ⊢;omega)
  obtain rfl:=oi_ H
  go_enter Tryz.func45,Tryz.ntmps45
  go_wp2
  repeat (go_quiet (fail);try go_wp2)
  go_ret
  exact ⟨tq_3,tq_8⟩
 rw [if_pos c3] at H
 have ae:=qa_ c3
 have af:=qb_ c3
 have ag:(l0.length == l1.length)=true:=by first|simpa using c3|(simp at c3 ⊢;omega)
 clear c3
 have H':=m_ H
 clear H
 go_enter Tryz.func45,Tryz.ntmps45
 go_wp2
 repeat (go_quiet (fail);try go_wp2)
 go_loopg [5] k (fun kq v5 w'=>∃ (a5:Int),v5=.int .i64 a5∧Aside0 (spec_l12Words.l0 kq l0 l1 a5=some r)∧Aside0 (kq≤k)∧Drawn0 w w')
 case atStart=>exact ⟨(0),tq_3,H',⟨Nat.le_refl _⟩,tq_8⟩
 case round =>
 clear H'
 try clear c1;try clear p2;try clear c3;try clear ae;try clear af;try clear ag
 obtain ⟨a5,rfl,HA,HK1,⟨m1,rfl⟩⟩:=hrel
 cases gk with
 | zero=>exact absurd HA.out (by simp [spec_l12Words.l0])
 | succ k1 =>
 have H:=HA.out
 clear HA
 simp only [spec_l12Words.l0] at H
 by_cases c4:a5 < (l0.length:Int)
 rotate_left
 ·rw [if_neg c4] at H
  have ah:=df_ c4
  clear c4
  obtain rfl:=oi_ H
  go_wp2
  repeat (go_quiet (fail);try go_wp2)
  go_ret
  exact ⟨tq_3,tq_8⟩
 rw [if_pos c4] at H
 have ah:=de_ c4
 clear c4
 obtain ⟨c5,H⟩:=fc_ H
 have ap:=de_ c5
 clear c5
 obtain ⟨c6,H⟩:=fc_ H
 have aq:=de_ c6
 clear c6
 have al:=m_ H
 clear H
 have a9:0≤(a5:Int):=od_ tq_2
 have aa:a5 < (l0.length:Int):=od_ tq_2
 obtain ⟨am,ai,a7⟩:=Kd.at_string HR0.out a5 a9 aa
 cases ai
 replace a9:=eq_true a9
 replace aa:=eq_true aa
 have ab:0≤(a5:Int):=od_ tq_2
 have ac:a5 < (l1.length:Int):=od_ tq_2
 obtain ⟨an,aj,a8⟩:=Kd.at_string ao.out a5 ab ac
 cases aj
 replace ab:=eq_true ab
 replace ac:=eq_true ac
 go_upto_if 25 with (fail)
 repeat (go_quiet (fail);go_upto_if 25 with (fail))
 (try clear a7)
 (try clear a8)
 have H:=al.out
 clear al
 by_cases c8:(rdOf ByteArray.empty l0 a5).toList=(rdOf ByteArray.empty l1 a5).toList
 rotate_left
 ·rw [if_neg c8] at H
  have a6:=qc_ c8
  have ak:=qd_ c8
  (first|rw [a6]|(simp only [i64_w,i32_w];rw [a6])|skip)
  obtain rfl:=oi_ H
  go_wp2
  repeat (go_quiet (fail);try go_wp2)
  go_ret
  exact ⟨tq_3,tq_8⟩
 rw [if_pos c8] at H
 have a6:=qa_ c8
 have ak:=qb_ c8
 clear c8
 (first|rw [a6]|(simp only [i64_w,i32_w];rw [a6])|skip)
 have H':=m_ H
 clear H
 go_wp2
 repeat (go_quiet (fail);try go_wp2)
 go_roundg k1
 case measure=>have:=HK1.out;omega
 case rel=>exact ⟨(wrap64 (a5+1)),tq_3,H',⟨tq_14⟩,tq_8⟩

def spec_StatesOk.l0:Nat→List Int→Int→Int→Option (Bool)
 | 0,_,_,_=>none
 | k+1,x0,x1,x5=>if x5 < (x0.length:Int) then (if 0≤x5 then ((spec_l01In.f (rd x0 x5) 0 2).bind fun a5=>(if a5=true then (spec_StatesOk.l0 k x0 x1 (wrap64 (x5+1))) else (some false))) else (none)) else (if (x0.length:Int)=x1 then ((spec_l01In.f x1 1 12).bind fun a6=>(some a6)) else (some false))
def spec_StatesOk.f (k:Nat) (l0:List Int) (a1:Int):Option (Bool):=spec_StatesOk.l0 k l0 a1 0
theorem spec_StatesOk.calls (k:Nat) (A0:Option Addr) (c0:Nat) (l0:List Int) (a1:Int) (r:Bool) (w:World) (hr0:Kd.C (Kd.int .i64) w A0 l0.length l0) (hc0:l0.length≤c0) (h:spec_StatesOk.f k l0 a1=some r) :
  Calls Tryz.prog 74 #[.slice A0 l0.length c0,.int .i64 a1] w fun e w'=>e=.returned (.bool r)∧Drawn0 w w':=by
 have HR0:=m_ hr0
 have aj:=m_ hc0
 clear hr0 hc0
 unfold spec_StatesOk.f at h
 have H:=h
 clear h
 have H':=m_ H
 clear H
 go_enter Tryz.func74,Tryz.ntmps74
 go_wp2
 go_loopg [5] k (fun kq v5 w'=>∃ (a5:Int),v5=.int .i64 a5∧Aside0 (spec_StatesOk.l0 kq l0 a1 a5=some r)∧Aside0 (kq≤k)∧Drawn0 w w')
 case atStart=>exact ⟨(0),tq_3,H',⟨Nat.le_refl _⟩,tq_8⟩
 case round =>
 clear H'
 try clear p2
 obtain ⟨a5,rfl,HA,HK1,⟨m1,rfl⟩⟩:=hrel
 cases gk with
 | zero=>exact absurd HA.out (by simp [spec_StatesOk.l0])
 | succ k1 =>
 have H:=HA.out
 clear HA
 simp only [spec_StatesOk.l0] at H
 by_cases c3:a5 < (l0.length:Int)
 rotate_left
 ·rw [if_neg c3] at H
  have aa:=df_ c3
  clear c3
  by_cases c8:(l0.length:Int)=a1
  rotate_left
  ·rw [if_neg c8] at H
   have ab:=qc_ c8
   have ac:=qd_ c8
   obtain rfl:=oi_ H
   go_wp2
   go_ret
   exact ⟨tq_3,tq_8⟩
  rw [if_pos c8] at H
  have ab:=qa_ c8
  have ac:=qb_ c8
  clear c8
  obtain ⟨ae,A9,H⟩:=bd_ H
  obtain rfl:=oi_ H
  go_wp2_with (first|(go_at_call 42;(with_reducible refine (spec_l01In.calls a1 1 12 ae _ A9.out).mono ?_);rintro e w' ⟨rfl,⟨nd,rfl⟩⟩))
  go_ret
  exact ⟨tq_3,tq_8⟩
 rw [if_pos c3] at H
 have aa:=de_ c3
 clear c3
 obtain ⟨c4,H⟩:=fc_ H
 have ai:=de_ c4
 clear c4
 obtain ⟨a9,A5,H⟩:=bd_ H
 have ag:=m_ H
 clear H
 have a7:0≤(a5:Int):=od_ tq_2
 have a8:a5 < (l0.length:Int):=od_ tq_2
 obtain ⟨ah,af,a6⟩:=Kd.at_int HR0.out a5 a7 a8
 cases af
 replace a7:=eq_true a7
 replace a8:=eq_true a8
 go_upto_if 17 with (first|((with_reducible refine gate_callee (f:=42) rfl ?_);refine goesL_ (some 16) rfl rfl Tryz.func42 kr_ rfl #[.int .i64 (rd l0 a5),.int .i64 0,.int .i64 2] rfl tq_0 ?_;(with_reducible refine (spec_l01In.calls (rd l0 a5) 0 2 a9 _ A5.out).mono ?_);rintro e w' ⟨rfl,⟨nd,rfl⟩⟩;refine ⟨_,rfl,?_⟩))
 (try simp only [Act.put,List.setIfInBounds_toArray,List.set_cons_zero,List.set_cons_succ])
 (try clear a6)
 have H:=ag.out
 clear ag
 by_cases c7:a9=true
 rotate_left
 ·replace c7:=Bool.eq_false_iff.mpr c7
  subst c7
  rw [if_neg nf_] at H
  obtain rfl:=oi_ H
  go_wp2
  go_ret
  exact ⟨tq_3,tq_8⟩
 subst c7
 rw [if_pos rfl] at H
 have H':=m_ H
 clear H
 go_wp2
 go_roundg k1
 case measure=>have:=HK1.out;omega
 case rel=>exact ⟨(wrap64 (a5+1)),tq_3,H',⟨tq_14⟩,tq_8⟩

end Go.Proofs.YtleoknilacjakaaGreatDoor.PFnExactReadPart
