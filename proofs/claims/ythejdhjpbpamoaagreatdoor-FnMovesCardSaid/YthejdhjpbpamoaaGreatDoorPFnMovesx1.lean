/- Contracts of Go functions: each call returns what the Lean function beside it computes. Conditions: as each theorem states them. -/
import Derived.Test.YthejdhjpbpamoaaGreatDoorPkFnMoves
namespace Go.Proofs.YthejdhjpbpamoaaGreatDoor.jM
open Go.RowKit Go.Proofs.YthejdhjpbpamoaaGreatDoorW.iK Go.Proofs.YthejdhjpbpamoaaGreatDoorW.lX Go.Proofs.YthejdhjpbpamoaaGreatDoorW.oV Go.Proofs.Tryz
attribute [local go_sem] qI qM qL qP qK qO qJ qN   -- for this text's walks alone
set_option linter.unusedVariables false
set_option maxHeartbeats 8000000
set_option maxRecDepth 100000
set_option linter.unusedSimpArgs false
theorem lG {c:Prop} [Decidable c] {α:Type} {x:Option α} {r:α} (h:(if c then x else none)=some r):c∧x=some r:=by
  by_cases k:c
  · rw [if_pos k] at h;exact ⟨k,h⟩
  · rw [if_neg k] at h;exact absurd h (by simp)
theorem Tv {c:Prop} [Decidable c] {α:Type} {x:Option α} {r:α} (h:(if c then none else x)=some r):¬ c∧x=some r:=by
  by_cases k:c
  · rw [if_pos k] at h;exact absurd h (by simp)
  · rw [if_neg k] at h;exact ⟨k,h⟩
theorem bd_ {α β:Type} {o:Option α} {f:α→Option β} {r:β} (h:o.bind f=some r):∃ a,aA (o=some a)∧f a=some r:=by
  obtain ⟨a,h1,h2⟩:=Option.bind_eq_some_iff.mp h
  exact ⟨a,⟨h1⟩,h2⟩
theorem uU {α β:Type} {a:α} {f:α→Option β} {r:β} (h:(some a).bind f=some r):∃ y,aA (y=a)∧f y=some r:=⟨a,⟨rfl⟩,h⟩
theorem fJ {c:Prop} [Decidable c] {α:Type} {x y:Option α} {r:α} {G:Prop} (p:c→x=some r→G) (n:¬ c→y=some r→G) (h:(if c then x else y)=some r):G:=by
  by_cases k:c
  · exact p k (by rwa [if_pos k] at h)
  · exact n k (by rwa [if_neg k] at h)
theorem gI {c:Prop} [Decidable c] {α:Type} {x y:Option α} {r:α} {G:Prop} (p:decide c=true→x=some r→G) (n:decide c=false→y=some r→G) (h:(if c then x else y)=some r):G:=fJ (fun k z=>p (decide_eq_true k) z) (fun k z=>n (decide_eq_false k) z) h
theorem fU {c:Prop} [Decidable c] {α:Type} {x:Option α} {r:α} (h:(if c then x else none)=some r):decide c=true∧x=some r:=⟨decide_eq_true (lG h).1,(lG h).2⟩
theorem kT {c:Prop} [Decidable c] {α:Type} {x:Option α} {r:α} (h:(if c then x else none)=some r):c=True∧decide c=true∧x=some r:=⟨eq_true (lG h).1,decide_eq_true (lG h).1,(lG h).2⟩
theorem iO:¬ (false=true):=by decide



def Tn:Option Int→Value
  | none=>.nilIface
  | some c=>.iface 0 (.int .i64 c)
theorem uz:∀ (x y:List UInt8),(Op.bytesLess x y || x == y)=!Op.bytesLess y x
 | [],[]=>by simp [Op.bytesLess]
 | [],_ :: _=>by simp [Op.bytesLess]
 | _ :: _,[]=>by simp [Op.bytesLess]
 | a :: x,b :: y=>by
  have ih:=uz x y
  simp only [Op.bytesLess]
  rcases Nat.lt_trichotomy a.toNat b.toNat with h|h|h
  ·have h1:a < b:=UInt8.lt_iff_toNat_lt.2 h
   have h2:¬ b < a:=fun c=>by have:=UInt8.lt_iff_toNat_lt.1 c;omega
   have h3:¬ b=a:=fun c=>by subst c;omega
   simp [h1,h2,h3]
  ·have h1:a=b:=UInt8.toNat_inj.1 h
   subst h1
   have h2:¬ a < a:=fun c=>by have:=UInt8.lt_iff_toNat_lt.1 c;omega
   simpa [h2] using ih
  ·have h1:b < a:=UInt8.lt_iff_toNat_lt.2 h
   have h2:¬ a < b:=fun c=>by have:=UInt8.lt_iff_toNat_lt.1 c;omega
   have h3:¬ a=b:=fun c=>by subst c;omega
   simp [h1,h2,h3]
theorem wo (x y:List UInt8):(!Op.bytesLess y x && !(y == x))=Op.bytesLess x y:=by rw [← Bool.not_or,uz,Bool.not_not]
section
variable {P:Program} {ops:Array Oper} {Q:Exit→Act→World→Prop}
theorem JB {oi : Oper} {N : Option Tmp} {a : Act} {w : World} {K : Act → World → Prop} {f : FuncId} {fn : Func} {o : Operand} {zs : Array Operand} {ts : Array TypeId} (hf : P.funcs[f]? = some fn) (hname : (fn.name == "runtime.NumGoroutine") = false) (hb : fn.body.isSome = true) (args : Array Value)
    (hw:Region.wanted oi (yielded ops a.tmps)=true) (hN:oi.dst=N) (hop:oi.op=.call { callee:=.value o,args:=zs,argTypes:=ts }) (hv:a.eval o=.func (.func f) #[] #[]) (hargs:zs.map a.eval=args)
    (h:Calls P f args w fun e w'=>∃ v,e=.returned v∧K (a.put N v) w'):if Region.wanted oi (yielded ops a.tmps)=true then Oper.wp P oi a w K Q else K (a.put N undef) w:=by
  refine call_ f args hw hN ?_ h
  have he:=CX hf hname hb args w
  unfold execOp
  simp [hop,resolve,Deferred.ofValue,invoke,hv,hargs,he]
end
theorem yI:Tn none=.nilIface:=rfl
theorem yJ (c:Int):Tn (some c)=.iface 0 (.int .i64 c):=rfl

theorem info5:(Tryz.prog.info? 5).map (fun i=>(i.zero,i.size,i.bytes))=some (some (.int .u8 0),1,1):=by kernel_rfl
theorem info9:(Tryz.prog.info? 9).map (fun i=>(i.zero,i.size,i.bytes))=some (some (.string ⟨#[]⟩),1,16):=by kernel_rfl
theorem o8:(Tryz.prog.info? 43).map (fun i=>(i.zero,i.size,i.bytes))=some (some (.agg #[(.string ⟨#[]⟩),(.bool false),(.string ⟨#[]⟩)]),3,40):=by kernel_rfl
-- the values' own types
/-! #### struct type 43 -/
structure aC where
  f0:ByteArray
  f1:Bool
  f2:ByteArray
def z43:aC:=⟨(⟨#[]⟩:ByteArray),false,(⟨#[]⟩:ByteArray)⟩
def bF:Kd aC:=Kd.aaZ (Kd.pair Kd.string (Kd.pair Kd.bool Kd.string)) (fun x:aC=>(x.f0,x.f1,x.f2))
theorem Ie {w:World} {x:aC} {cs:List Value} (h:bF.K w x cs):cs=[.string x.f0,.bool x.f1,.string x.f2]:=by
  obtain ⟨_,_,rfl,rfl,⟨_,_,rfl,rfl,rfl⟩⟩:=h
  exact rfl
theorem o9 {w:World} {base:Nat} {ok:Nat→Prop} {x:aC} {cs:List Value} (h:bF.M w base ok x cs):cs=[.string x.f0,.bool x.f1,.string x.f2]:=by
  obtain ⟨_,_,rfl,rfl,⟨_,_,rfl,rfl,rfl⟩⟩:=h
  exact rfl
theorem qX (w:World) (base:Nat) (ok:Nat→Prop) (x:aC) :bF.M w base ok x [.string x.f0,.bool x.f1,.string x.f2]:=⟨[.string x.f0],[.bool x.f1,.string x.f2],rfl,rfl,⟨[.bool x.f1],[.string x.f2],rfl,rfl,rfl⟩⟩
def au (xs:List aC) (i:Int):aC:=xs.getD i.toNat z43
theorem jP {w:World} {A:Option Addr} {n:Nat} {xs:List aC} (h:Kd.C bF w A n xs) (i:Int) (h0:0≤i) (h1:i < n):∃ ad ,A=some ad∧w.cell? (ad.add (i.toNat * 3))=some (.string (au xs i).f0)∧w.cell? ⟨(ad.add (i.toNat * 3)).block,(ad.add (i.toNat * 3)).off+1,none⟩=some (.bool (au xs i).f1)∧w.cell? ⟨(ad.add (i.toNat * 3)).block,(ad.add (i.toNat * 3)).off+2,none⟩=some (.string (au xs i).f2):=by
  obtain ⟨ad,c,e,_,hK,hc0⟩:=Kd.XM h z43 i h0 h1
  have hc:∀ j u,c[j]?=some u→w.cell? (ad.add (i.toNat * 3+j))=some u:=hc0
  obtain rfl:=Ie hK
  exact ⟨ad,e,hc 0 _ rfl,(by rw [← QW _ _ 1 (by omega)];exact hc 1 _ rfl),(by rw [← QW _ _ 2 (by omega)];exact hc 2 _ rfl)⟩


theorem Zo (d:Nat) (w:World) (x0 y0:ByteArray) (x1 y1:Bool) (x2 y2:ByteArray) :
  (Op.equalIn (d+2) 43 (.agg #[.string x0,.bool x1,.string x2]) (.agg #[.string y0,.bool y1,.string y2])).run Tryz.prog w=.ok (x0.toList == y0.toList && (x1 == y1 && (x2.toList == y2.toList))) w:=by
 refine Zp Tryz.underlying43 aB ?_
 refine Tm (by rfl) (by go_simp;rfl) (by go_simp;rfl) (by go_simp) ?_
 refine Tm (by rfl) (by go_simp;rfl) (by go_simp;rfl) (by go_simp) ?_
 exact Zq (by rfl) (by go_simp;rfl) (by go_simp;rfl) (by go_simp)
end Go.Proofs.YthejdhjpbpamoaaGreatDoor.jM
