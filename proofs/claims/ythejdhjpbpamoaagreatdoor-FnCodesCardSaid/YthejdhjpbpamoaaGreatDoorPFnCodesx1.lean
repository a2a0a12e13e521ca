/- Contracts of Go functions: each call returns what the Lean function beside it computes. Conditions: as each theorem states them. -/
import Derived.Test.YthejdhjpbpamoaaGreatDoorPkFnCodes
namespace Go.Proofs.YthejdhjpbpamoaaGreatDoor.jD
open Go.RowKit Go.Proofs.YthejdhjpbpamoaaGreatDoorW.iw Go.Proofs.YthejdhjpbpamoaaGreatDoorW.lH Go.Proofs.YthejdhjpbpamoaaGreatDoorW.oO Go.Proofs.Tryz
attribute [local go_sem] qw qB qA qF qy qE qx qC   -- for this text's walks alone
set_option linter.unusedVariables false
set_option maxHeartbeats 8000000
set_option maxRecDepth 100000
set_option linter.unusedSimpArgs false
theorem kV {c:Prop} [Decidable c] {α:Type} {x:Option α} {r:α} (h:(if c then x else none)=some r):c∧x=some r:=by
  by_cases k:c
  · rw [if_pos k] at h;exact ⟨k,h⟩
  · rw [if_neg k] at h;exact absurd h (by simp)
theorem Xp {c:Prop} [Decidable c] {α:Type} {x:Option α} {r:α} (h:(if c then none else x)=some r):¬ c∧x=some r:=by
  by_cases k:c
  · rw [if_pos k] at h;exact absurd h (by simp)
  · rw [if_neg k] at h;exact ⟨k,h⟩
theorem bd_ {α β:Type} {o:Option α} {f:α→Option β} {r:β} (h:o.bind f=some r):∃ a,aA (o=some a)∧f a=some r:=by
  obtain ⟨a,h1,h2⟩:=Option.bind_eq_some_iff.mp h
  exact ⟨a,⟨h1⟩,h2⟩
theorem vH {α β:Type} {a:α} {f:α→Option β} {r:β} (h:(some a).bind f=some r):∃ y,aA (y=a)∧f y=some r:=⟨a,⟨rfl⟩,h⟩
theorem fH {c:Prop} [Decidable c] {α:Type} {x y:Option α} {r:α} {G:Prop} (p:c→x=some r→G) (n:¬ c→y=some r→G) (h:(if c then x else y)=some r):G:=by
  by_cases k:c
  · exact p k (by rwa [if_pos k] at h)
  · exact n k (by rwa [if_neg k] at h)
theorem gJ {c:Prop} [Decidable c] {α:Type} {x y:Option α} {r:α} {G:Prop} (p:decide c=true→x=some r→G) (n:decide c=false→y=some r→G) (h:(if c then x else y)=some r):G:=fH (fun k z=>p (decide_eq_true k) z) (fun k z=>n (decide_eq_false k) z) h
theorem gK {c:Prop} [Decidable c] {α:Type} {x:Option α} {r:α} (h:(if c then x else none)=some r):decide c=true∧x=some r:=⟨decide_eq_true (kV h).1,(kV h).2⟩
theorem jE {c:Prop} [Decidable c] {α:Type} {x:Option α} {r:α} (h:(if c then x else none)=some r):c=True∧decide c=true∧x=some r:=⟨eq_true (kV h).1,decide_eq_true (kV h).1,(kV h).2⟩
theorem iI:¬ (false=true):=by decide



def Xm:Option Int→Value
  | none=>.nilIface
  | some c=>.iface 0 (.int .i64 c)
theorem zH:∀ (x y:List UInt8),(Op.bytesLess x y || x == y)=!Op.bytesLess y x
 | [],[]=>by simp [Op.bytesLess]
 | [],_ :: _=>by simp [Op.bytesLess]
 | _ :: _,[]=>by simp [Op.bytesLess]
 | a :: x,b :: y=>by
  have ih:=zH x y
  simp only [Op.bytesLess]
  rcases Nat.lt_trichotomy a.toNat b.toNat with h|h|h
  ·have h1:a < b:=UInt8.lt_iff_toNat_lt.2 h
   have h2:¬ b < a:=fun c=>by have:=UInt8.lt_iff_toNat_lt.1 c;omega
   have h3:¬ b=a:=fun c=>by subst c;omega
   simp [h1,h2,h3]
  ·have h1:a=b:=UInt8.toNat_inj.1 h
   subst h1
   have h2:¬ a < a:=fun c=>by have:=UInt8.lt_iff_toNat_lt.1 c;omega
   simpa [h2] using ih
  ·have h1:b < a:=UInt8.lt_iff_toNat_lt.2 h
   have h2:¬ a < b:=fun c=>by have:=UInt8.lt_iff_toNat_lt.1 c;omega
   have h3:¬ a=b:=fun c=>by subst c;omega
   simp [h1,h2,h3]
theorem Bh (x y:List UInt8):(!Op.bytesLess y x && !(y == x))=Op.bytesLess x y:=by rw [← Bool.not_or,zH,Bool.not_not]
section
variable {P:Program} {ops:Array Oper} {Q:Exit→Act→World→Prop}
theorem LD {oi : Oper} {N : Option Tmp} {a : Act} {w : World} {K : Act → World → Prop} {f : FuncId} {fn : Func} {o : Operand} {zs : Array Operand} {ts : Array TypeId} (hf : P.funcs[f]? = some fn) (hname : (fn.name == "runtime.NumGoroutine") = false) (hb : fn.body.isSome = true) (args : Array Value)
    (hw:Region.wanted oi (yielded ops a.tmps)=true) (hN:oi.dst=N) (hop:oi.op=.call { callee:=.value o,args:=zs,argTypes:=ts }) (hv:a.eval o=.func (.func f) #[] #[]) (hargs:zs.map a.eval=args)
    (h:Calls P f args w fun e w'=>∃ v,e=.returned v∧K (a.put N v) w'):if Region.wanted oi (yielded ops a.tmps)=true then Oper.wp P oi a w K Q else K (a.put N undef) w:=by
  refine call_ f args hw hN ?_ h
  have he:=Dn hf hname hb args w
  unfold execOp
  simp [hop,resolve,Deferred.ofValue,invoke,hv,hargs,he]
end
theorem rD:Xm none=.nilIface:=rfl
theorem rE (c:Int):Xm (some c)=.iface 0 (.int .i64 c):=rfl

theorem info5:(Tryz.prog.info? 5).map (fun i=>(i.zero,i.size,i.bytes))=some (some (.int .u8 0),1,1):=by kernel_rfl
theorem info9:(Tryz.prog.info? 9).map (fun i=>(i.zero,i.size,i.bytes))=some (some (.string ⟨#[]⟩),1,16):=by kernel_rfl
theorem pV:(Tryz.prog.info? 43).map (fun i=>(i.zero,i.size,i.bytes))=some (some (.agg #[(.string ⟨#[]⟩),(.bool false),(.string ⟨#[]⟩)]),3,40):=by kernel_rfl
/-! #### struct type 43 -/
structure aF where
  f0:ByteArray
  f1:Bool
  f2:ByteArray
def z43:aF:=⟨(⟨#[]⟩:ByteArray),false,(⟨#[]⟩:ByteArray)⟩
def aU:Kd aF:=Kd.Tq (Kd.pair Kd.string (Kd.pair Kd.bool Kd.string)) (fun x:aF=>(x.f0,x.f1,x.f2))
theorem ajc:Kd.Heap aU:=Kd.afF _ (Kd.Yf Kd.Yg (Kd.Yf Kd.afE Kd.Yg))
theorem JJ {w:World} {x:aF} {cs:List Value} (h:aU.K w x cs):cs=[.string x.f0,.bool x.f1,.string x.f2]:=by
  obtain ⟨_,_,rfl,rfl,⟨_,_,rfl,rfl,rfl⟩⟩:=h
  exact rfl
theorem oW {w:World} {base:Nat} {ok:Nat→Prop} {x:aF} {cs:List Value} (h:aU.M w base ok x cs):cs=[.string x.f0,.bool x.f1,.string x.f2]:=by
  obtain ⟨_,_,rfl,rfl,⟨_,_,rfl,rfl,rfl⟩⟩:=h
  exact rfl
theorem qp (w:World) (base:Nat) (ok:Nat→Prop) (x:aF) :aU.M w base ok x [.string x.f0,.bool x.f1,.string x.f2]:=⟨[.string x.f0],[.bool x.f1,.string x.f2],rfl,rfl,⟨[.bool x.f1],[.string x.f2],rfl,rfl,rfl⟩⟩
def aC (xs:List aF) (i:Int):aF:=xs.getD i.toNat z43
theorem kY {w:World} {A:Option Addr} {n:Nat} {xs:List aF} (h:Kd.C aU w A n xs) (i:Int) (h0:0≤i) (h1:i < n):∃ ad ,A=some ad∧w.cell? (ad.add (i.toNat * 3))=some (.string (aC xs i).f0)∧w.cell? ⟨(ad.add (i.toNat * 3)).block,(ad.add (i.toNat * 3)).off+1,none⟩=some (.bool (aC xs i).f1)∧w.cell? ⟨(ad.add (i.toNat * 3)).block,(ad.add (i.toNat * 3)).off+2,none⟩=some (.string (aC xs i).f2):=by
  obtain ⟨ad,c,e,_,hK,hc0⟩:=Kd.UQ h z43 i h0 h1
  have hc:∀ j u,c[j]?=some u→w.cell? (ad.add (i.toNat * 3+j))=some u:=hc0
  obtain rfl:=JJ hK
  exact ⟨ad,e,hc 0 _ rfl,(by rw [← C9 _ _ 1 (by omega)];exact hc 1 _ rfl),(by rw [← C9 _ _ 2 (by omega)];exact hc 2 _ rfl)⟩

/-! #### struct type 45 -/
structure gI where
  f0:Int
  f1:ByteArray
  f2:ByteArray
  f3:Int
  f4:Int
  f5:ByteArray
def z45:gI:=⟨(0:Int),(⟨#[]⟩:ByteArray),(⟨#[]⟩:ByteArray),(0:Int),(0:Int),(⟨#[]⟩:ByteArray)⟩
def mG:Kd gI:=Kd.Tq (Kd.pair (Kd.int .i64) (Kd.pair Kd.string (Kd.pair Kd.string (Kd.pair (Kd.int .i64) (Kd.pair (Kd.int .i64) Kd.string))))) (fun x:gI=>(x.f0,x.f1,x.f2,x.f3,x.f4,x.f5))
theorem ajd {w:World} {x:gI} {cs:List Value} (h:mG.K w x cs):cs=[.int .i64 x.f0,.string x.f1,.string x.f2,.int .i64 x.f3,.int .i64 x.f4,.string x.f5]:=by
  obtain ⟨_,_,rfl,rfl,⟨_,_,rfl,rfl,⟨_,_,rfl,rfl,⟨_,_,rfl,rfl,⟨_,_,rfl,rfl,rfl⟩⟩⟩⟩⟩:=h
  exact rfl
theorem wG (w:World) (base:Nat) (ok:Nat→Prop) (x:gI) :mG.M w base ok x [.int .i64 x.f0,.string x.f1,.string x.f2,.int .i64 x.f3,.int .i64 x.f4,.string x.f5]:=⟨[.int .i64 x.f0],[.string x.f1,.string x.f2,.int .i64 x.f3,.int .i64 x.f4,.string x.f5],rfl,rfl,⟨[.string x.f1],[.string x.f2,.int .i64 x.f3,.int .i64 x.f4,.string x.f5],rfl,rfl,⟨[.string x.f2],[.int .i64 x.f3,.int .i64 x.f4,.string x.f5],rfl,rfl,⟨[.int .i64 x.f3],[.int .i64 x.f4,.string x.f5],rfl,rfl,⟨[.int .i64 x.f4],[.string x.f5],rfl,rfl,rfl⟩⟩⟩⟩⟩
def dL (xs:List gI) (i:Int):gI:=xs.getD i.toNat z45
theorem ace {w:World} {A:Option Addr} {n:Nat} {xs:List gI} (h:Kd.C mG w A n xs) (i:Int) (h0:0≤i) (h1:i < n):∃ ad ,A=some ad∧w.cell? (ad.add (i.toNat * 6))=some (.int .i64 (dL xs i).f0)∧w.cell? ⟨(ad.add (i.toNat * 6)).block,(ad.add (i.toNat * 6)).off+1,none⟩=some (.string (dL xs i).f1)∧w.cell? ⟨(ad.add (i.toNat * 6)).block,(ad.add (i.toNat * 6)).off+2,none⟩=some (.string (dL xs i).f2)∧w.cell? ⟨(ad.add (i.toNat * 6)).block,(ad.add (i.toNat * 6)).off+3,none⟩=some (.int .i64 (dL xs i).f3)∧w.cell? ⟨(ad.add (i.toNat * 6)).block,(ad.add (i.toNat * 6)).off+4,none⟩=some (.int .i64 (dL xs i).f4)∧w.cell? ⟨(ad.add (i.toNat * 6)).block,(ad.add (i.toNat * 6)).off+5,none⟩=some (.string (dL xs i).f5):=by
  obtain ⟨ad,c,e,_,hK,hc0⟩:=Kd.UQ h z45 i h0 h1
  have hc:∀ j u,c[j]?=some u→w.cell? (ad.add (i.toNat * 6+j))=some u:=hc0
  obtain rfl:=ajd hK
  exact ⟨ad,e,hc 0 _ rfl,(by rw [← C9 _ _ 1 (by omega)];exact hc 1 _ rfl),(by rw [← C9 _ _ 2 (by omega)];exact hc 2 _ rfl),(by rw [← C9 _ _ 3 (by omega)];exact hc 3 _ rfl),(by rw [← C9 _ _ 4 (by omega)];exact hc 4 _ rfl),(by rw [← C9 _ _ 5 (by omega)];exact hc 5 _ rfl)⟩

def Hq.f (l0:List Int):Option (Bool):=some (decide ((l0.length:Int) > 1048576))
theorem Hq.calls (A0:Option Addr) (c0:Nat) (l0:List Int) (r:Bool) (w:World) (hr0:Kd.C (Kd.int .u8) w A0 l0.length l0) (hc0:l0.length≤c0) (h:Hq.f l0=some r) :
  Calls Tryz.prog 6 #[.slice A0 l0.length c0] w fun e w'=>e=.returned (.bool r)∧nU w w':=by
 have HR0:=m_ hr0
 have a5:=m_ hc0
 clear hr0 hc0
 unfold Hq.f at h
 have H:=h
 clear h
 obtain rfl:=dF H
 go_enter func6,ntmps6
 go_wp2
 go_ret
 exact ⟨bg,kN⟩

def qG.l0:Nat→ByteArray→Int→List (aF)→Option (Int)
 | 0,_,_,_=>none
 | k+1,x1,x5,a5=>if x5 < (a5.length:Int) then (if 0≤x5 then (if ((aC a5 x5).f0).toList=x1.toList then (some x5) else (qG.l0 k x1 (wrap64 (x5+1)) a5)) else (none)) else (some (-1))
def qG.f (k:Nat) (a5:List (aF)) (a1:ByteArray):Option (Int):=qG.l0 k a1 0 a5
theorem qG.calls (k:Nat) (ac:Option Addr) (ae:Nat) (aI:List (aF)) (a1:ByteArray) (r:Int) (w:World) (af:Kd.C aU w ac aI.length aI) (ag:aI.length≤ae) (h:qG.f k aI a1=some r) :
  Calls Tryz.prog 13 #[.agg #[.slice ac aI.length ae],.string a1] w fun e w'=>e=.returned (ah r)∧Below w.heap.size w w':=by
 have mF:=underlying28
 have lq:=m_ af
 have an:=m_ ag
 clear af ag
 have HB:=m_ (Below.refl w.heap.size w)
 unfold qG.f at h
 have H:=h
 clear h
 have H':=m_ H
 clear H
 go_enter func13,ntmps13
 go_wp2_with (first|((with_reducible refine dJ 2 ?_);refine dO 2 (cs:=#[.slice ac aI.length ae]) 28 ?_;intro aQ hg w3 hbox hb;obtain ⟨HB,a5,ao,ap⟩:=kL au hb hbox hg;clear hb hbox hg))
 go_loopg [5] k (fun kq v5 w'=>∃ (a6:Int),v5=ah a6∧aA (qG.l0 kq a1 a6 aI=some r)∧aA (kq≤k)∧aA (w'.heap[aQ]?=some (.cells #[(.slice ac aI.length ae)] 28))∧aA (Below w.heap.size w w'))
 case atStart=>exact ⟨(0),bg,H',⟨Nat.le_refl _⟩,⟨(ak a5)⟩,⟨au⟩⟩
 case round =>
 clear H'
 obtain ⟨a6,rfl,HA,gZ,a5,HB⟩:=hrel
 cases gk with
 | zero=>exact absurd HA.out (by simp [qG.l0])
 | succ k1 =>
 obtain ⟨H⟩:=HA
 simp only [qG.l0] at H
 have aq:=m_ H
 clear H
 have ald:=dh a5.out
 go_upto_if 10 with (fail)
 (try clear ald)
 obtain ⟨H⟩:=aq
 revert H;refine gJ (fun ab H=>?_) fun ab H=>?_
 rotate_left
 ·try simp only [aY,bf,ab]
  obtain rfl:=dF H
  go_wp2
  go_ret
  exact ⟨bM,au⟩
 try simp only [aY,bf,ab]
 obtain ⟨av,H⟩:=gK H
 have ar:=m_ H
 clear H
 have Ey:=dh a5.out
 have aK:0≤(a6:Int):=bF bG
 have ai:a6 < (aI.length:Int):=bF bG
 obtain ⟨aW,am,a7,a8,a9⟩:=kY lq.out a6 aK ai
 cases am
 replace a7:=iQ HB.out a7
 replace a8:=iQ HB.out a8
 replace a9:=iQ HB.out a9
 replace aK:=eq_true aK
 replace ai:=eq_true ai
 go_upto_if 20 with (fail)
 (try clear Ey)
 (try clear a7 a8 a9)
 obtain ⟨H⟩:=ar
 revert H;refine fH (fun aN H=>?_) fun aN H=>?_
 ·have aa:=fZ aN
  have al:=f_ aN
  clear aN
  try simp only [aY,bf,aa]
  obtain rfl:=dF H
  go_wp2
  go_ret
  exact ⟨bM,au⟩
 have aa:=fP aN
 have al:=fQ aN
 try simp only [aY,bf,aa]
 have H':=m_ H
 clear H
 go_wp2
 go_roundg k1
 case measure=>have:=gZ.out;omega
 case rel=>exact ⟨(wrap64 (a6+1)),bg,H',⟨ou⟩,⟨(ak a5)⟩,⟨au⟩⟩

def uh.f (a0:Int) (a1:Int) (a2:Int):Option (Bool):=if a0 ≥ a1 then (some (decide (a0≤a2))) else (some false)
theorem uh.calls (a0:Int) (a1:Int) (a2:Int) (r:Bool) (w:World) (h:uh.f a0 a1 a2=some r) :
  Calls Tryz.prog 98 #[ah a0,ah a1,ah a2] w fun e w'=>e=.returned (.bool r)∧nU w w':=by
 unfold uh.f at h
 have H:=h
 clear h
 revert H;refine gJ (fun a5 H=>?_) fun a5 H=>?_
 ·obtain rfl:=dF H
  go_enter func98,ntmps98
  go_wp2
  go_ret
  exact ⟨bg,kN⟩
 obtain rfl:=dF H
 go_enter func98,ntmps98
 go_wp2
 go_ret
 exact ⟨bg,kN⟩

mutual
def jk.j0:Nat→ByteArray→List ByteArray→Bool→Option (List ByteArray × Int)
 | 0,_,_,_=>none
 | k+1,x0,x4,a5=>if a5=true then (some (x4,1)) else (if x0.toList=([47]:List UInt8) then (some (x4,0)) else (jk.l0 k x0 x4 (([]:List ByteArray)) false 1 1))
def jk.l0:Nat→ByteArray→List ByteArray→List ByteArray→Bool→Int→Int→Option (List ByteArray × Int)
 | 0,_,_,_,_,_,_=>none
 | k+1,x0,x4,x5,x6,x7,gX=>if gX≤(x0.size:Int) then (if gX < (x0.size:Int) then (if 0≤gX then (jk.j2 k x0 x4 x5 x6 x7 gX ((bt x0 gX) != 47)) else (none)) else (jk.j2 k x0 x4 x5 x6 x7 gX false)) else (if x6=true then (some (x4,2)) else (some (x5,0)))
def jk.j2:Nat→ByteArray→List ByteArray→List ByteArray→Bool→Int→Int→Bool→Option (List ByteArray × Int)
 | 0,_,_,_,_,_,_,_=>none
 | k+1,x0,x4,x5,x6,x7,gX,a7=>if a7=true then (if 0≤gX then (if gX < (x0.size:Int) then ((uh.f (wrap64 (bt x0 gX)) 97 122).bind fun a5=>(if a5=true then (jk.j3 k x0 x4 x5 x6 x7 gX false) else ((uh.f (wrap64 (bt x0 gX)) 48 57).bind fun a6=>(jk.j3 k x0 x4 x5 x6 x7 gX (!a6))))) else (none)) else (none)) else (if x7=gX then (some (x4,1)) else (if x6=true then (if 0≤x7 then (if x7≤gX then (if gX≤(x0.size:Int) then (if x5.length < 8796093022208 then (jk.l0 k x0 x4 (x5++[x0.extract (x7:Int).toNat (gX:Int).toNat]) true (wrap64 (gX+1)) (wrap64 (gX+1))) else (none)) else (none)) else (none)) else (none)) else (if 0≤x7 then (if x7≤gX then (if gX≤(x0.size:Int) then (if x5.length < 8796093022208 then (jk.l0 k x0 x4 (x5++[x0.extract (x7:Int).toNat (gX:Int).toNat]) (decide ((wrap64 (gX - x7)) > 7)) (wrap64 (gX+1)) (wrap64 (gX+1))) else (none)) else (none)) else (none)) else (none))))
def jk.j3:Nat→ByteArray→List ByteArray→List ByteArray→Bool→Int→Int→Bool→Option (List ByteArray × Int)
 | 0,_,_,_,_,_,_,_=>none
 | k+1,x0,x4,x5,x6,x7,gX,a5=>if a5=true then (some (x4,1)) else (jk.l0 k x0 x4 x5 x6 x7 (wrap64 (gX+1)))
end
def jk.f (k:Nat) (a0:ByteArray):Option (List ByteArray × Int):=(some (([]:List ByteArray):List ByteArray)).bind fun a5=>(if (a0.size:Int) > 60 then (jk.j0 k a0 a5 true) else (if (a0.size:Int)=0 then (jk.j0 k a0 a5 true) else (if 0 < (a0.size:Int) then (jk.j0 k a0 a5 ((bt a0 0) != 47)) else (none))))
theorem jk.calls (k:Nat) (a0:ByteArray) (r1:List ByteArray) (r2:Int) (w:World) (h:jk.f k a0=some (r1,r2)) :
  Calls Tryz.prog 53 #[.string a0] w fun e w'=>∃ eP:Value,e=.returned (.tuple #[eP,ah r2])∧Kd.R Kd.string 9 w' w.heap.size (fun _=>True) eP r1∧Below w.heap.size w w':=by
 have HB:=m_ (Below.refl w.heap.size w)
 unfold jk.f at h
 have H:=h
 clear h
 obtain ⟨a8,aw,H⟩:=vH H
 have bx:=m_ H
 clear H
 go_enter func53,ntmps53
 go_upto_region 2 with (first|((with_reducible refine dJ 9 ?_);(try (refine qL (by rfl) ?_;dsimp only));refine Kd.sU Kd.string _ 9 ?hg (N:=9) ?hd (xs:=([]:List ByteArray)) (inner:=[]) (ok:=fun _=>True) (iJ:=fun _=>True) ?hr ?hp (fun _ hk=>hk) trivial (Below.refl _ _) (Nat.le_refl _) (by simp) ?_;(case hd=>rfl);(case hg=>rfl);(case hr=>first|(go_simp;done)|(go_simp;rfl));(case hp=>exact (bD.none _ _));intro AX w3 y5 hb iV iW;clear iV iW;(first|rw [← aw.out] at y5|(simp only [Int.reduceToNat] at y5;rw [← aw.out] at y5));obtain ⟨ai,HB⟩:=p_ (Kd.dI y5 (cZ au)) <| a_ (dP au hb);clear hb y5))
 (try simp only [Act.put,List.setIfInBounds_toArray,List.set_cons_zero,List.set_cons_succ])
 go_cut [22] (fun v22 wc=>∃ (kq:Nat) (af:Bool),v22=.bool af∧aA (jk.j0 kq a0 a8 af=some (r1,r2))∧aA (kq≤k)∧aA (Kd.R Kd.string 9 wc w.heap.size (fun _=>True) AX a8)∧aA (Below w.heap.size w wc))
 case first =>
  obtain ⟨H⟩:=bx
  revert H;refine fH (fun c5 H=>?_) fun c5 H=>?_
  ·have aa:=mM c5
   have aN:decide (60 < a0.size)=true:=mM (by omega)
   clear c5
   try simp only [aY,bf,aa]
   have H':=m_ H
   clear H
   go_wp2
   go_meet
   case rel=>exact ⟨_,(true),bg,H',⟨kC⟩,⟨(aJ ai)⟩,⟨au⟩⟩
  have aa:=vX c5
  have aN:decide (60 < a0.size)=false:=vX (by omega)
  clear c5
  try simp only [aY,bf,aa]
  revert H;refine fH (fun c6 H=>?_) fun c6 H=>?_
  ·have aQ:=fZ c6
   have al:=f_ c6
   clear c6
   have H':=m_ H
   clear H
   go_wp2
   go_meet
   case rel=>exact ⟨_,(true),bg,H',⟨kC⟩,⟨(aJ ai)⟩,⟨au⟩⟩
  have aQ:=fP c6
  have al:=fQ c6
  obtain ⟨c7,H⟩:=kV H
  have aW:=mM c7
  have av:decide (0 < a0.size)=true:=mM (by omega)
  clear c7
  have H':=m_ H
  clear H
  have p8:0≤(0:Int):=(by omega)
  have q8:0 < a0.size:=(by have:(0:Int) < (a0.size:Int):=bF bG;omega)
  have ayE:∀ h:0 < a0.size,((a0[0]'h).toNat:Int)=bt a0 0:=ET a0 0
  clear p8
  have bp:(0 < (a0.size:Int))=True:=eq_true (bF bG)
  replace q8:=eq_true q8
  go_wp2
  go_meet
  case rel=>exact ⟨_,(((bt a0 0) != 47)),bg,H',⟨kC⟩,⟨(aJ ai)⟩,⟨au⟩⟩
 case rest =>
 clear bx
 obtain ⟨kq,af,rfl,HA,sQ,tK,HB⟩:=hcut
 cases kq with
 | zero=>exact absurd HA.out (by simp [jk.j0])
 | succ zN =>
 obtain ⟨H⟩:=HA
 simp only [jk.j0] at H
 by_cases c9:af=true
 ·subst c9
  rw [if_pos rfl] at H
  simp only [Option.some.injEq,Prod.mk.injEq] at H
  obtain ⟨rfl,rfl⟩:=H
  go_wp2
  go_ret2
  exact ⟨_,bM,(aJ tK),au⟩
 replace c9:=Bool.eq_false_iff.mpr c9
 subst c9
 rw [if_neg iI] at H
 revert H;refine fH (fun ar H=>?_) fun ar H=>?_
 ·have ag:=fZ ar
  have aK:=f_ ar
  clear ar
  simp only [Option.some.injEq,Prod.mk.injEq] at H
  obtain ⟨rfl,rfl⟩:=H
  go_wp2
  go_ret2
  exact ⟨_,bM,(aJ tK),au⟩
 have ag:=fP ar
 have aK:=fQ ar
 obtain ⟨b8,am⟩:∃ y_:List ByteArray,y_=(([]:List ByteArray)):=⟨_,rfl⟩
 rw [← am] at H
 have ax:=m_ am
 clear am
 have H':=m_ H
 clear H
 go_wp2_with (first|((with_reducible refine dJ 27 ?_);(try (refine qL (by rfl) ?_;dsimp only));refine Kd.sU Kd.string _ 9 ?hg (N:=27) ?hd (xs:=([]:List ByteArray)) (inner:=[]) (ok:=fun _=>True) (iJ:=fun _=>True) ?hr ?hp (fun _ hk=>hk) trivial (Below.refl _ _) (Nat.le_refl _) (by simp) ?_;(case hd=>rfl);(case hg=>rfl);(case hr=>first|(go_simp;done)|(go_simp;rfl));(case hp=>exact (bD.none _ _));intro v107 d0 GX hb iV iW;clear iV iW;(first|rw [← ax.out] at GX|(simp only [Int.reduceToNat] at GX;rw [← ax.out] at GX));obtain ⟨tK,b9,HB⟩:=p_ (Kd.jX (aJ tK) (Kd.jo GX) hb) <| p_ (Kd.dI (Kd.jY GX (Kd.jJ (aJ tK))) (cZ au)) <| a_ (dP au hb);clear hb GX))
 go_loopg [5,6,7,8] zN (fun kq v5 v6 v7 v8 w'=>∃ (a7:List ByteArray) (ae:Bool) (a6:Int) (a5:Int),v6=.bool ae∧v7=ah a6∧v8=ah a5∧aA (jk.l0 kq a0 a8 a7 ae a6 a5=some (r1,r2))∧aA (kq≤zN)∧aA (Kd.R Kd.string 9 w' w.heap.size (fun ay=>some ay≠(v5:Value).ownBlock) AX a8)∧aA (Kd.R Kd.string 9 w' w.heap.size (fun ay=>some ay≠(AX:Value).ownBlock) v5 a7)∧aA (Below w.heap.size w w'))
 case atStart=>exact ⟨(b8),(false),(1),(1),bg,bg,bg,H',⟨Nat.le_refl _⟩,⟨Um⟩,⟨(by (with_reducible repeat (first|apply Kd.dB|apply Kd.dD|apply Kd.aZ));exact Kd.bn b9.out (fun _ hk=>hk.2))⟩,⟨au⟩⟩
 case round =>
 clear H'
 try clear c9;try clear ar;try clear ag;try clear aK
 obtain ⟨a7,ae,a6,a5,rfl,rfl,rfl,HA,jM,tK,dn,HB⟩:=hrel
 cases gk with
 | zero=>exact absurd HA.out (by simp [jk.l0])
 | succ k2 =>
 obtain ⟨H⟩:=HA
 simp only [jk.l0] at H
 revert H;refine gJ (fun an H=>?_) fun an H=>?_
 rotate_left
 ·by_cases bq:ae=true
  ·subst bq
   rw [if_pos rfl] at H
   simp only [Option.some.injEq,Prod.mk.injEq] at H
   obtain ⟨rfl,rfl⟩:=H
   go_wp2
   go_ret2
   exact ⟨_,bM,Uj,au⟩
  replace bq:=Bool.eq_false_iff.mpr bq
  subst bq
  rw [if_neg iI] at H
  simp only [Option.some.injEq,Prod.mk.injEq] at H
  obtain ⟨rfl,rfl⟩:=H
  go_wp2
  go_ret2
  exact ⟨_,bM,(by (with_reducible repeat (first|apply Kd.dB|apply Kd.dD|apply Kd.aZ));exact Kd.bn dn.out (fun _ hk=>trivial)),au⟩
 have b1:=m_ H
 clear H
 go_upto_region 12 with (fail)
 go_cut [43] (fun v43 wc=>∃ (kq:Nat) (ab:Bool),v43=.bool ab∧aA (jk.j2 kq a0 a8 a7 ae a6 a5 ab=some (r1,r2))∧aA (kq≤k2)∧aA (Kd.R Kd.string 9 wc w.heap.size (fun ay=>some ay≠(u5:Value).ownBlock) AX a8)∧aA (Kd.R Kd.string 9 wc w.heap.size (fun ay=>some ay≠(AX:Value).ownBlock) u5 a7)∧aA (Below w.heap.size w wc))
 case first =>
  obtain ⟨H⟩:=b1
  revert H;refine gJ (fun a9 H=>?_) fun a9 H=>?_
  rotate_left
  ·try simp only [aY,bf,a9]
   have H':=m_ H
   clear H
   go_wp2
   go_meet
   case rel=>exact ⟨_,(false),bg,H',⟨(by have:=sQ.out;have:=jM.out;first|omega|exact Nat.le_refl _)⟩,⟨(aJ tK)⟩,⟨(aJ dn)⟩,⟨au⟩⟩
  try simp only [aY,bf,a9]
  obtain ⟨b0,H⟩:=gK H
  have H':=m_ H
  clear H
  have b6:0≤(a5:Int):=bF bG
  have b7:a5 < (a0.size:Int):=bF bG
  have ayD:=ET a0 a5
  replace b6:=eq_true b6
  replace b7:=eq_true b7
  go_wp2
  go_meet
  case rel=>exact ⟨_,(((bt a0 a5) != 47)),bg,H',⟨(by have:=sQ.out;have:=jM.out;first|omega|exact Nat.le_refl _)⟩,⟨(aJ tK)⟩,⟨(aJ dn)⟩,⟨au⟩⟩
 case rest =>
 clear b1
 try clear bH;try clear an
 obtain ⟨kq,ab,rfl,HA,A_,tK,dn,HB⟩:=hcut
 cases kq with
 | zero=>exact absurd HA.out (by simp [jk.j2])
 | succ Tv =>
 obtain ⟨H⟩:=HA
 simp only [jk.j2] at H
 by_cases ba:ab=true
 ·subst ba
  rw [if_pos rfl] at H
  have b2:=m_ H
  clear H
  go_upto_region 13 with (fail)
  go_cut [57] (fun v57 wc=>∃ (kq:Nat) (ac:Bool),v57=.bool ac∧aA (jk.j3 kq a0 a8 a7 ae a6 a5 ac=some (r1,r2))∧aA (kq≤Tv)∧aA (Kd.R Kd.string 9 wc w.heap.size (fun ay=>some ay≠(u5:Value).ownBlock) AX a8)∧aA (Kd.R Kd.string 9 wc w.heap.size (fun ay=>some ay≠(AX:Value).ownBlock) u5 a7)∧aA (Below w.heap.size w wc))
  case first =>
   obtain ⟨H⟩:=b2
   obtain ⟨ao,H⟩:=gK H
   try simp only [aY,bf,ao]
   obtain ⟨bb,H⟩:=gK H
   obtain ⟨cc,cj,H⟩:=bd_ H
   by_cases bc:cc=true
   ·subst bc
    rw [if_pos rfl] at H
    have H':=m_ H
    clear H
    have b3:0≤(a5:Int):=bF bG
    have b4:a5 < (a0.size:Int):=bF bG
    have aiW:=ET a0 a5
    replace b3:=eq_true b3
    replace b4:=eq_true b4
    go_wp2_with (first|((with_reducible refine bT 98 ?_);refine bU (some 48) rfl rfl func98 aB rfl #[ah (wrap64 (bt a0 a5)),ah 97,ah 122] rfl aX ?_;(with_reducible refine (uh.calls (wrap64 (bt a0 a5)) 97 122 true _ cj.out).mono ?_);rintro e w' ⟨rfl,⟨nd,rfl⟩⟩;refine ⟨_,rfl,?_⟩))
    go_meet
    case rel=>exact ⟨_,(false),bg,H',⟨(by have:=sQ.out;have:=jM.out;have:=A_.out;first|omega|exact Nat.le_refl _)⟩,⟨(aJ tK)⟩,⟨(aJ dn)⟩,⟨au⟩⟩
   replace bc:=Bool.eq_false_iff.mpr bc
   subst bc
   rw [if_neg iI] at H
   obtain ⟨bd,cz,H⟩:=bd_ H
   have H':=m_ H
   clear H
   have b3:0≤(a5:Int):=bF bG
   have b4:a5 < (a0.size:Int):=bF bG
   have aiW:=ET a0 a5
   replace b3:=eq_true b3
   replace b4:=eq_true b4
   go_wp2_with (first|((with_reducible refine bT 98 ?_);refine bU (some 48) rfl rfl func98 aB rfl #[ah (wrap64 (bt a0 a5)),ah 97,ah 122] rfl aX ?_;(with_reducible refine (uh.calls (wrap64 (bt a0 a5)) 97 122 false _ cj.out).mono ?_);rintro e w' ⟨rfl,⟨nd,rfl⟩⟩;refine ⟨_,rfl,?_⟩;have bs:0≤(a5:Int):=bF bG;have bu:a5 < (a0.size:Int):=bF bG;have hx25:=ET a0 a5;replace bs:=eq_true bs;replace bu:=eq_true bu)|(go_at_call 98;(with_reducible refine (uh.calls (wrap64 (bt a0 a5)) 48 57 bd _ cz.out).mono ?_);rintro e w' ⟨rfl,⟨nd,rfl⟩⟩))
   go_meet
   case rel=>exact ⟨_,(!bd),bg,H',⟨(by have:=sQ.out;have:=jM.out;have:=A_.out;first|omega|exact Nat.le_refl _)⟩,⟨(aJ tK)⟩,⟨(aJ dn)⟩,⟨au⟩⟩
  case rest =>
  clear b2
  try clear ba
  obtain ⟨kq,ac,rfl,HA,U4,tK,dn,HB⟩:=hcut
  cases kq with
  | zero=>exact absurd HA.out (by simp [jk.j3])
  | succ aje =>
  obtain ⟨H⟩:=HA
  simp only [jk.j3] at H
  by_cases bv:ac=true
  ·subst bv
   rw [if_pos rfl] at H
   simp only [Option.some.injEq,Prod.mk.injEq] at H
   obtain ⟨rfl,rfl⟩:=H
   go_wp2
   go_ret2
   exact ⟨_,bM,Uj,au⟩
  replace bv:=Bool.eq_false_iff.mpr bv
  subst bv
  rw [if_neg iI] at H
  have H':=m_ H
  clear H
  go_wp2
  go_roundg aje
  case measure=>have:=sQ.out;have:=jM.out;have:=A_.out;have:=U4.out;omega
  case rel=>exact ⟨(a7),(ae),(a6),(wrap64 (a5+1)),bg,bg,bg,H',⟨(by have:=sQ.out;have:=jM.out;have:=A_.out;have:=U4.out;omega)⟩,⟨(aJ tK)⟩,⟨(aJ dn)⟩,⟨au⟩⟩
 replace ba:=Bool.eq_false_iff.mpr ba
 subst ba
 rw [if_neg iI] at H
 revert H;refine fH (fun b5 H=>?_) fun b5 H=>?_
 ·have be:=fZ b5
  have fA:=f_ b5
  clear b5
  simp only [Option.some.injEq,Prod.mk.injEq] at H
  obtain ⟨rfl,rfl⟩:=H
  go_wp2
  go_ret2
  exact ⟨_,bM,Uj,au⟩
 have be:=fP b5
 have fA:=fQ b5
 by_cases bw:ae=true
 ·subst bw
  rw [if_pos rfl] at H
  obtain ⟨ck,cl,H⟩:=jE H
  obtain ⟨cm,cn,H⟩:=jE H
  obtain ⟨co,cp,H⟩:=jE H
  obtain ⟨cq,H⟩:=kV H
  have dM:=m_ cq
  clear cq
  obtain ⟨bh,ap⟩:∃ y_:List ByteArray,y_=(a7++[a0.extract (a6:Int).toNat (a5:Int).toNat]):=⟨_,rfl⟩
  rw [← ap] at H
  have bi:=m_ ap
  clear ap
  have H':=m_ H
  clear H
  go_wp2_with (first|((with_reducible refine xH (b:=.append) (xs:=#[.tmp 70,.tmp 75]) rfl ?_);(try (refine qL (by rfl) ?_;dsimp only));at_builtin;refine Kd.CX Kd.string (w0:=w) w.heap.size rfl (.tmp 70) (.tmp 75) 38 9 (.string ⟨#[]⟩) 16 rfl underlying38 info9 rfl (by decide) (by omega) u5 a7 (a0.extract (a6:Int).toNat (a5:Int).toNat) [.string (a0.extract (a6:Int).toNat (a5:Int).toNat)] (fun ay=>some ay≠(AX:Value).ownBlock) (fun _=>False) rfl rfl ?sW (fun _ hk=>hk.elim) ?kT ?kG ?lu ?kH ?aL ?_;(case sW=>exact rfl);(case lu=>exact au);(case kT=>exact (fun ay hk=>Kd.Du (Kd.jJ (aJ tK)) ay hk));(case kG=>exact (aJ dn));(case kH=>exact (cZ au));(case aL=>have:=dM.out;omega);intro ay_ d1 ho hb hg hat;rw [← bi.out] at ho;obtain ⟨tK,HB,bj⟩:=p_ (Kd.nY (ok:=(fun _=>True)) aaF hg hat) <| p_ (hb) <| a_ (ho);clear ho hb hg hat))
  go_roundg Tv
  case measure=>have:=sQ.out;have:=jM.out;have:=A_.out;omega
  case rel=>exact ⟨(bh),(true),(wrap64 (a5+1)),(wrap64 (a5+1)),bg,bg,bg,H',⟨(by have:=sQ.out;have:=jM.out;have:=A_.out;omega)⟩,⟨Um⟩,⟨(aJ bj)⟩,⟨au⟩⟩
 replace bw:=Bool.eq_false_iff.mpr bw
 subst bw
 rw [if_neg iI] at H
 obtain ⟨cr,ct,H⟩:=jE H
 obtain ⟨iO,cv,H⟩:=jE H
 obtain ⟨cw,cx,H⟩:=jE H
 obtain ⟨cy,H⟩:=kV H
 have bl:=m_ cy
 clear cy
 obtain ⟨bm,aq⟩:∃ y_:List ByteArray,y_=(a7++[a0.extract (a6:Int).toNat (a5:Int).toNat]):=⟨_,rfl⟩
 rw [← aq] at H
 have fB:=m_ aq
 clear aq
 have H':=m_ H
 clear H
 go_wp2_with (first|((with_reducible refine xH (b:=.append) (xs:=#[.tmp 70,.tmp 75]) rfl ?_);(try (refine qL (by rfl) ?_;dsimp only));at_builtin;refine Kd.CX Kd.string (w0:=w) w.heap.size rfl (.tmp 70) (.tmp 75) 38 9 (.string ⟨#[]⟩) 16 rfl underlying38 info9 rfl (by decide) (by omega) u5 a7 (a0.extract (a6:Int).toNat (a5:Int).toNat) [.string (a0.extract (a6:Int).toNat (a5:Int).toNat)] (fun ay=>some ay≠(AX:Value).ownBlock) (fun _=>False) rfl rfl ?sW (fun _ hk=>hk.elim) ?kT ?kG ?lu ?kH ?aL ?_;(case sW=>exact rfl);(case lu=>exact au);(case kT=>exact (fun ay hk=>Kd.Du (Kd.jJ (aJ tK)) ay hk));(case kG=>exact (aJ dn));(case kH=>exact (cZ au));(case aL=>have:=bl.out;omega);intro azb d2 ho hb hg hat;rw [← fB.out] at ho;obtain ⟨tK,HB,bo⟩:=p_ (Kd.nY (ok:=(fun _=>True)) aaF hg hat) <| p_ (hb) <| a_ (ho);clear ho hb hg hat))
 go_roundg Tv
 case measure=>have:=sQ.out;have:=jM.out;have:=A_.out;omega
 case rel=>exact ⟨(bm),(decide ((wrap64 (a5 - a6)) > 7)),(wrap64 (a5+1)),(wrap64 (a5+1)),bg,bg,bg,H',⟨(by have:=sQ.out;have:=jM.out;have:=A_.out;omega)⟩,⟨Um⟩,⟨(aJ bo)⟩,⟨au⟩⟩

def uD.l0:Nat→List ByteArray→ByteArray→Int→Option (ByteArray)
 | 0,_,_,_=>none
 | k+1,x0,x3,x4=>if x4 < (x0.length:Int) then (if x3.size+1≤9223372036854775807 then (if 0≤x4 then (if (x3++(⟨#[47]⟩:ByteArray)).size+(rZ ByteArray.empty x0 x4).size≤9223372036854775807 then (uD.l0 k x0 ((x3++(⟨#[47]⟩:ByteArray))++(rZ ByteArray.empty x0 x4)) (wrap64 (x4+1))) else (none)) else (none)) else (none)) else (some x3)
def uD.f (k:Nat) (l0:List ByteArray):Option (ByteArray):=if (l0.length:Int)=0 then (some (⟨#[47]⟩:ByteArray)) else (uD.l0 k l0 (⟨#[]⟩:ByteArray) 0)
theorem uD.calls (k:Nat) (A0:Option Addr) (c0:Nat) (l0:List ByteArray) (r:ByteArray) (w:World) (hr0:Kd.C Kd.string w A0 l0.length l0) (hc0:l0.length≤c0) (h:uD.f k l0=some r) :
  Calls Tryz.prog 71 #[.slice A0 l0.length c0] w fun e w'=>e=.returned (.string r)∧nU w w':=by
 have HR0:=m_ hr0
 have ao:=m_ hc0
 clear hr0 hc0
 unfold uD.f at h
 have H:=h
 clear h
 revert H;refine fH (fun c2 H=>?_) fun c2 H=>?_
 ·have a9:=fZ c2
  have aa:=f_ c2
  clear c2
  obtain rfl:=dF H
  go_enter func71,ntmps71
  go_wp2
  go_ret
  exact ⟨bg,kN⟩
 have a9:=fP c2
 have aa:=fQ c2
 have ac:¬ (l0=[]):=fun dG=>c2 (by rw [dG];rfl)
 have H':=m_ H
 clear H
 go_enter func71,ntmps71
 go_wp2
 go_loopg [3,4] k (fun kq v3 v4 w'=>∃ (a6:ByteArray) (a5:Int),v3=.string a6∧v4=ah a5∧aA (uD.l0 kq l0 a6 a5=some r)∧aA (kq≤k)∧nU w w')
 case atStart=>exact ⟨((⟨#[]⟩:ByteArray)),(0),bg,bg,H',⟨Nat.le_refl _⟩,kN⟩
 case round =>
 clear H'
 try clear c2;try clear a9;try clear aa;try clear ac
 obtain ⟨a6,a5,rfl,rfl,HA,gZ,⟨m1,rfl⟩⟩:=hrel
 cases gk with
 | zero=>exact absurd HA.out (by simp [uD.l0])
 | succ k1 =>
 obtain ⟨H⟩:=HA
 simp only [uD.l0] at H
 revert H;refine gJ (fun ae H=>?_) fun ae H=>?_
 rotate_left
 ·obtain rfl:=dF H
  go_wp2
  go_ret
  exact ⟨bg,kN⟩
 obtain ⟨c4,H⟩:=kV H
 have aK:=eq_true c4
 have ai:=mM c4
 try have aN:(9223372036854775807 < a6.size+1)=False:=eq_false (Nat.not_lt.2 c4)
 obtain ⟨aQ,H⟩:=gK H
 obtain ⟨c6,H⟩:=kV H
 have al:=eq_true c6
 have am:=mM c6
 try have an:(9223372036854775807 < (a6++(⟨#[47]⟩:ByteArray)).size+(rZ ByteArray.empty l0 a5).size)=False:=eq_false (Nat.not_lt.2 c6)
 have H':=m_ H
 clear H
 have a7:0≤(a5:Int):=bF bG
 have a8:a5 < (l0.length:Int):=bF bG
 obtain ⟨ag,af,ab⟩:=Kd.z_ HR0.out a5 a7 a8
 cases af
 replace a7:=eq_true a7
 replace a8:=eq_true a8
 go_wp2
 go_roundg k1
 case measure=>have:=gZ.out;omega
 case rel=>exact ⟨((a6++(⟨#[47]⟩:ByteArray))++(rZ ByteArray.empty l0 a5)),(wrap64 (a5+1)),bg,bg,H',⟨ou⟩,kN⟩

end Go.Proofs.YthejdhjpbpamoaaGreatDoor.jD
