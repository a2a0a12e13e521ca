/- Calls return what the Lean functions beside them compute. Conditions: each theorem's own. -/
import Derived.Test.YthejdhjpbpamoaaGreatDoorPkFnExactAsked
namespace Go.Proofs.YthejdhjpbpamoaaGreatDoor.pU
open Go.RowKit Go.Proofs.YthejdhjpbpamoaaGreatDoorW.jk Go.Proofs.YthejdhjpbpamoaaGreatDoorW.qI Go.Proofs.YthejdhjpbpamoaaGreatDoorW.vV Go.Proofs.Tryz
attribute [local go_sem] yN yR yQ yU yP yT yO yS
set_option linter.unusedVariables false
set_option maxHeartbeats 8000000
set_option maxRecDepth 100000
set_option linter.unusedSimpArgs false
theorem lT {c:Prop} [Decidable c] {α:Type} {x:Option α} {r:α} (h:(if c then x else none)=some r):c∧x=some r:=by
  by_cases k:c
  · rw [if_pos k] at h;exact ⟨k,h⟩
  · rw [if_neg k] at h;exact absurd h (by simp)
theorem bd_ {α β:Type} {o:Option α} {f:α→Option β} {r:β} (h:o.bind f=some r):∃ a,aA (o=some a)∧f a=some r:=by
  obtain ⟨a,h1,h2⟩:=Option.bind_eq_some_iff.mp h;exact ⟨a,⟨h1⟩,h2⟩
theorem uX {α β:Type} {a:α} {f:α→Option β} {r:β} (h:(some a).bind f=some r):∃ y,aA (y=a)∧f y=some r:=⟨a,⟨rfl⟩,h⟩
theorem eU {c:Prop} [Decidable c] {α:Type} {x y:Option α} {r:α} {G:Prop} (p:c→x=some r→G) (n:¬ c→y=some r→G) (h:(if c then x else y)=some r):G:=by
  by_cases k:c
  · exact p k (by rwa [if_pos k] at h)
  · exact n k (by rwa [if_neg k] at h)
theorem fB {c:Prop} [Decidable c] {α:Type} {x y:Option α} {r:α} {G:Prop} (p:decide c=true→x=some r→G) (n:decide c=false→y=some r→G) (h:(if c then x else y)=some r):G:=eU (fun k z=>p (decide_eq_true k) z) (fun k z=>n (decide_eq_false k) z) h
theorem gI {c:Prop} [Decidable c] {α:Type} {x:Option α} {r:α} (h:(if c then x else none)=some r):decide c=true∧x=some r:=⟨decide_eq_true (lT h).1,(lT h).2⟩
theorem jF {c:Prop} [Decidable c] {α:Type} {x:Option α} {r:α} (h:(if c then x else none)=some r):c=True∧decide c=true∧x=some r:=⟨eq_true (lT h).1,decide_eq_true (lT h).1,(lT h).2⟩
theorem iF:¬ (false=true):=by decide



def Zd:Option Int→Value
  | none=>.nilIface
  | some c=>.iface 0 (.int .i64 c)
theorem Ac:∀ (x y:List UInt8),(Op.bytesLess x y || x == y)=!Op.bytesLess y x
 | [],[]=>by simp [Op.bytesLess]
 | [],_ :: _=>by simp [Op.bytesLess]
 | _ :: _,[]=>by simp [Op.bytesLess]
 | a :: x,b :: y=>by
  have ih:=Ac x y;simp only [Op.bytesLess]
  rcases Nat.lt_trichotomy a.toNat b.toNat with h|h|h
  ·have h1:a < b:=UInt8.lt_iff_toNat_lt.2 h;have h2:¬ b < a:=fun c=>by have:=UInt8.lt_iff_toNat_lt.1 c;omega
   have h3:¬ b=a:=fun c=>by subst c;omega
   simp [h1,h2,h3]
  ·have h1:a=b:=UInt8.toNat_inj.1 h;subst h1;have h2:¬ a < a:=fun c=>by have:=UInt8.lt_iff_toNat_lt.1 c;omega
   simpa [h2] using ih
  ·have h1:b < a:=UInt8.lt_iff_toNat_lt.2 h;have h2:¬ a < b:=fun c=>by have:=UInt8.lt_iff_toNat_lt.1 c;omega
   have h3:¬ a=b:=fun c=>by subst c;omega
   simp [h1,h2,h3]
theorem Dv (x y:List UInt8):(!Op.bytesLess y x && !(y == x))=Op.bytesLess x y:=by rw [← Bool.not_or,Ac,Bool.not_not]
section
variable {P:Program} {ops:Array Oper} {Q:Exit→Act→World→Prop}
theorem Ot {oi : Oper} {N : Option Tmp} {a : Act} {w : World} {K : Act → World → Prop} {f : FuncId} {fn : Func} {o : Operand} {zs : Array Operand} {ts : Array TypeId} (hf : P.funcs[f]? = some fn) (hname : (fn.name == "runtime.NumGoroutine") = false) (hb : fn.body.isSome = true) (args : Array Value)
    (hw:Region.wanted oi (yielded ops a.tmps)=true) (hN:oi.dst=N) (hop:oi.op=.call { callee:=.value o,args:=zs,argTypes:=ts }) (hv:a.eval o=.func (.func f) #[] #[]) (hargs:zs.map a.eval=args)
    (h:Calls P f args w fun e w'=>∃ v,e=.returned v∧K (a.put N v) w'):if Region.wanted oi (yielded ops a.tmps)=true then Oper.wp P oi a w K Q else K (a.put N undef) w:=by
  refine call_ f args hw hN ?_ h;have he:=ER hf hname hb args w;unfold execOp
  simp [hop,resolve,Deferred.ofValue,invoke,hv,hargs,he]
end
theorem sS:Zd none=.nilIface:=rfl
theorem sU (c:Int):Zd (some c)=.iface 0 (.int .i64 c):=rfl

theorem info5:(Tryz.prog.info? 5).map (fun i=>(i.zero,i.size,i.bytes))=some (some (.int .u8 0),1,1):=by kernel_rfl
theorem info9:(Tryz.prog.info? 9).map (fun i=>(i.zero,i.size,i.bytes))=some (some (.string ⟨#[]⟩),1,16):=by kernel_rfl
theorem q_:(Tryz.prog.info? 43).map (fun i=>(i.zero,i.size,i.bytes))=some (some (.agg #[(.string ⟨#[]⟩),(.bool false),(.string ⟨#[]⟩)]),3,40):=by kernel_rfl
-- the values' own types
/-! #### struct type 43 -/
structure aF where
  f0:ByteArray
  f1:Bool
  f2:ByteArray
def z43:aF:=⟨(⟨#[]⟩:ByteArray),false,(⟨#[]⟩:ByteArray)⟩
def aS:Kd aF:=Kd.Py (Kd.pair Kd.string (Kd.pair Kd.bool Kd.string)) (fun x:aF=>(x.f0,x.f1,x.f2))
theorem amj:Kd.Heap aS:=Kd.ai2 _ (Kd.ZY Kd.Z4 (Kd.ZY Kd.ai1 Kd.Z4))
theorem Mc {w:World} {x:aF} {cs:List Value} (h:aS.K w x cs):cs=[.string x.f0,.bool x.f1,.string x.f2]:=by
  obtain ⟨_,_,rfl,rfl,⟨_,_,rfl,rfl,rfl⟩⟩:=h;exact rfl
theorem og {w:World} {base:Nat} {ok:Nat→Prop} {x:aF} {cs:List Value} (h:aS.M w base ok x cs):cs=[.string x.f0,.bool x.f1,.string x.f2]:=by
  obtain ⟨_,_,rfl,rfl,⟨_,_,rfl,rfl,rfl⟩⟩:=h;exact rfl
theorem qU (w:World) (base:Nat) (ok:Nat→Prop) (x:aF) :aS.M w base ok x [.string x.f0,.bool x.f1,.string x.f2]:=⟨[.string x.f0],[.bool x.f1,.string x.f2],rfl,rfl,⟨[.bool x.f1],[.string x.f2],rfl,rfl,rfl⟩⟩
def aB (xs:List aF) (i:Int):aF:=xs.getD i.toNat z43
theorem jV {w:World} {A:Option Addr} {n:Nat} {xs:List aF} (h:Kd.C aS w A n xs) (i:Int) (h0:0≤i) (h1:i < n):∃ ad ,A=some ad∧w.cell? (ad.add (i.toNat * 3))=some (.string (aB xs i).f0)∧w.cell? ⟨(ad.add (i.toNat * 3)).block,(ad.add (i.toNat * 3)).off+1,none⟩=some (.bool (aB xs i).f1)∧w.cell? ⟨(ad.add (i.toNat * 3)).block,(ad.add (i.toNat * 3)).off+2,none⟩=some (.string (aB xs i).f2):=by
  obtain ⟨ad,c,e,_,hK,hc0⟩:=Kd.Xw h z43 i h0 h1;have hc:∀ j u,c[j]?=some u→w.cell? (ad.add (i.toNat * 3+j))=some u:=hc0;obtain rfl:=Mc hK;exact ⟨ad,e,hc 0 _ rfl,(by rw [← NW _ _ 1 (by omega)];exact hc 1 _ rfl),(by rw [← NW _ _ 2 (by omega)];exact hc 2 _ rfl)⟩

/-! #### struct type 120 -/
structure nY where
  f0:ByteArray
  f1:Bool
  f2:ByteArray
def ad6:nY:=⟨(⟨#[]⟩:ByteArray),false,(⟨#[]⟩:ByteArray)⟩
def DL:Kd nY:=Kd.Py (Kd.pair Kd.string (Kd.pair Kd.bool Kd.string)) (fun x:nY=>(x.f0,x.f1,x.f2))
theorem ami {w:World} {x:nY} {cs:List Value} (h:DL.K w x cs):cs=[.string x.f0,.bool x.f1,.string x.f2]:=by
  obtain ⟨_,_,rfl,rfl,⟨_,_,rfl,rfl,rfl⟩⟩:=h;exact rfl
def tZ (xs:List nY) (i:Int):nY:=xs.getD i.toNat ad6
theorem X5 {w:World} {A:Option Addr} {n:Nat} {xs:List nY} (h:Kd.C DL w A n xs) (i:Int) (h0:0≤i) (h1:i < n):∃ ad ,A=some ad∧w.cell? (ad.add (i.toNat * 3))=some (.string (tZ xs i).f0)∧w.cell? ⟨(ad.add (i.toNat * 3)).block,(ad.add (i.toNat * 3)).off+1,none⟩=some (.bool (tZ xs i).f1)∧w.cell? ⟨(ad.add (i.toNat * 3)).block,(ad.add (i.toNat * 3)).off+2,none⟩=some (.string (tZ xs i).f2):=by
  obtain ⟨ad,c,e,_,hK,hc0⟩:=Kd.Xw h ad6 i h0 h1;have hc:∀ j u,c[j]?=some u→w.cell? (ad.add (i.toNat * 3+j))=some u:=hc0;obtain rfl:=ami hK;exact ⟨ad,e,hc 0 _ rfl,(by rw [← NW _ _ 1 (by omega)];exact hc 1 _ rfl),(by rw [← NW _ _ 2 (by omega)];exact hc 2 _ rfl)⟩

def BI.f (l0:List (aF)):Option (List (aF)):=if l0.length < 3518437208883 then some l0 else none
theorem BI.calls (A0:Option Addr) (c0:Nat) (l0:List (aF)) (r:List (aF)) (w:World) (hr0:Kd.C aS w A0 l0.length l0) (hc0:l0.length≤c0) (h:BI.f l0=some r) :
  Calls Tryz.prog 94 #[.slice A0 l0.length c0] w fun e w'=>∃ fC:Value,e=.returned (fC)∧Kd.R aS 43 w' w.heap.size (fun _=>True) fC r∧Below w.heap.size w w':=by
 have hl:l0.length < 3518437208883∧l0=r:=by
  unfold BI.f at h
  split at h
  ·exact ⟨(by assumption),bQ h⟩
  ·cases h
 obtain ⟨hl,rfl⟩:=hl;clear h;have HR0:=m_ hr0;clear hr0 hc0;have bT:∀ (w:World) (a:Option Addr) (n c n' c':Nat),(binOp .eql 26 (.slice a n c) (.slice none n' c')).run Tryz.prog w=.ok (.bool a.isNone) w:=fun w a n c n' c'=>Lib.run_eql_slice_nil w _ _ a n c n' c' underlying26;rcases A0 with _|ad
 ·have hn:l0=[]:=by
   rcases Nat.eq_zero_or_pos l0.length with h0|h0
   ·exact List.eq_nil_of_length_eq_zero h0
   ·obtain ⟨ad,h,_⟩:=HR0.out.2.2 h0;cases h
  subst hn;clear HR0;go_enter func94,ntmps94
  go_wp2
  go_ret
  exact ⟨_,rfl,Kd.KG _ _ _ _ _,Below.refl _ _⟩
 ·have HL:=m_ hl;clear hl;go_enter func94,ntmps94
  go_wp2_with ((with_reducible refine zu (b:=.append) (xs:=#[.tmp 5,.tmp 6]) rfl ?_);at_builtin;refine Kd.GK aS (w0:=w) w.heap.size rfl (.tmp 5) (.tmp 6) 26 43 (.agg #[(.string ⟨#[]⟩),(.bool false),(.string ⟨#[]⟩)]) 40 rfl underlying26 q_ rfl (by decide) (by omega) _ [] l0 _ _ _ (fun _=>True) (fun _=>False) rfl rfl ?l7 ?aR (fun _ _ h=>h) (fun _ h=>h.elim) (fun _ _=>trivial) ?lZ ?l9 ?aL ?_;(case l7=>exact ⟨fun _ _=>trivial,[],World.ownsRow_made w #[] 0 (Nat.le_refl _) (Nat.zero_le _) (by simp),gu.none _ _⟩);(case aR=>exact Kd.kM HR0.out _);(case lZ=>exact (Below.refl _ _).alloc (Nat.le_refl _) _);(case l9=>simp);(case aL=>have:=HL.out;simp only [List.length_nil];omega);intro v1 w1 hR hB hg hat)
  go_ret
  exact ⟨_,rfl,(by simpa using hR),hB⟩

def wF.f (a5:List (aF)):Option ((List (aF))):=(BI.f a5).bind fun a6=>(some a6)
theorem wF.calls (a9:Option Addr) (aa:Nat) (aI:List (aF)) (r:List (aF)) (w:World) (ab:Kd.C aS w a9 aI.length aI) (ac:aI.length≤aa) (h:wF.f aI=some r) :
  Calls Tryz.prog 45 #[.agg #[.slice a9 aI.length aa]] w fun e w'=>∃ fC:Value,e=.returned (.agg #[fC])∧Kd.R aS 43 w' w.heap.size (fun _=>True) fC r∧Below w.heap.size w w':=by
 have nT:=underlying28;have lg:=m_ ab;have af:=m_ ac;clear ab ac;have HB:=m_ (Below.refl w.heap.size w);unfold wF.f at h
 have H:=h;clear h;obtain ⟨ag,A2,H⟩:=bd_ H;obtain rfl:=bQ H;go_enter func45,ntmps45
 go_wp2_with (first|((with_reducible refine dJ 1 ?_);refine dO 1 (cs:=#[.slice a9 aI.length aa]) 28 ?_;intro aO hg w3 hbox hb;obtain ⟨HB,a5,al,am⟩:=jR ay hb hbox hg;clear hb hbox hg)|((with_reducible refine dJ 2 ?_);refine dO 2 (cs:=#[.slice none 0 0]) 28 ?_;intro aK hg w4 hbox hb;obtain ⟨a5,HB,a6,an,ao,a7,a8⟩:=oO (au a5) ay hb hbox hg;clear hb hbox hg;obtain ⟨ai,aH⟩:=gy a7 a8;have J_:=bZ a5.out)|((with_reducible refine cu 94 ?_);refine cO (some 5) rfl rfl func94 aC rfl #[.slice a9 aI.length aa] rfl bJ ?_;(with_reducible refine (BI.calls _ _ aI ag _ qp af.out A2.out).mono ?_);rintro e w7 ⟨aCJ,rfl,ho0,hb⟩;refine ⟨_,rfl,?_⟩;obtain ⟨ae,a5,a6,HB⟩:=p_ (Kd.dR ho0 (bU ay)) <| Hl (au a5) (au a6) ay hb;(try clear hb);(try clear ho0);obtain ⟨ap,aq,ar⟩:=Kd.dN ae.out;subst ar;have Ej:=bZ a6.out))
 refine bodyPost_ret (results_cell_row rfl _ _ aK 28 #[.slice ap ag.length aq] (0,0) _ rfl bf underlying28 rfl aC) rfl ?_;exact ⟨_,bK,(by (with_reducible repeat (first|apply Kd.bW|apply Kd.bY|apply Kd.bH));exact Kd.bF (aJ (Kd.bV ae.out a6.out (by decide))) (fun _ hk=>trivial)),ay⟩

def xY.f (a0:Int) (a1:Int) (a2:Int):Option (Bool):=if a0 ≥ a1 then (some (decide (a0≤a2))) else (some false)
theorem xY.calls (a0:Int) (a1:Int) (a2:Int) (r:Bool) (w:World) (h:xY.f a0 a1 a2=some r) :
  Calls Tryz.prog 100 #[ah a0,ah a1,ah a2] w fun e w'=>e=.returned (.bool r)∧pO w w':=by
 unfold xY.f at h
 have H:=h;clear h;revert H;refine fB (fun a5 H=>?_) fun a5 H=>?_
 ·obtain rfl:=bQ H;go_enter func100,ntmps100
  go_wp2
  go_ret
  exact ⟨bC,kL⟩
 obtain rfl:=bQ H;go_enter func100,ntmps100
 go_wp2
 go_ret
 exact ⟨bC,kL⟩

def Fh.f (a5:Int) (a8:ByteArray) (a9:ByteArray) (aa:Int) (ab:Int) (a6:ByteArray):Option (Bool):=(xY.f a5 1 11).bind fun a7=>(if a7=true then (some (decide ((a6.size:Int)≤200))) else (some false))
theorem Fh.calls (a5:Int) (a7:ByteArray) (a8:ByteArray) (a9:Int) (aa:Int) (ab:ByteArray) (r:Bool) (w:World) (h:Fh.f a5 a7 a8 a9 aa ab=some r) :
  Calls Tryz.prog 67 #[.agg #[ah a5,.string a7,.string a8,ah a9,ah aa,.string ab]] w fun e w'=>e=.returned (.bool r)∧Below w.heap.size w w':=by
 have Fb:=underlying45;have HB:=m_ (Below.refl w.heap.size w);unfold Fh.f at h
 have H:=h;clear h;obtain ⟨ag,A2,H⟩:=bd_ H;by_cases c3:ag=true
 ·subst c3;rw [if_pos rfl] at H;obtain rfl:=bQ H;go_enter func67,ntmps67
  go_wp2_with (first|((with_reducible refine dJ 1 ?_);(try (refine r_ (by rfl) ?_;dsimp only));refine dO 1 (cs:=#[ah a5,.string a7,.string a8,ah a9,ah aa,.string ab]) 45 ?_;intro ac hg w4 hbox hb;obtain ⟨HB,a6,ae,af⟩:=jR ay hb hbox hg;clear hb hbox hg;have aK:=mg a6.out)|((with_reducible refine cu 100 ?_);refine cO (some 5) rfl rfl func100 aC rfl #[ah a5,ah 1,ah 11] rfl bJ ?_;(with_reducible refine (xY.calls a5 1 11 true _ A2.out).mono ?_);rintro e w' ⟨rfl,⟨nd,rfl⟩⟩;refine ⟨_,rfl,?_⟩))
  go_ret
  exact ⟨bK,ay⟩
 replace c3:=Bool.eq_false_iff.mpr c3;subst c3;rw [if_neg iF] at H;obtain rfl:=bQ H;go_enter func67,ntmps67
 go_wp2_with (first|((with_reducible refine dJ 1 ?_);(try (refine r_ (by rfl) ?_;dsimp only));refine dO 1 (cs:=#[ah a5,.string a7,.string a8,ah a9,ah aa,.string ab]) 45 ?_;intro ac hg w6 hbox hb;obtain ⟨HB,a6,ae,af⟩:=jR ay hb hbox hg;clear hb hbox hg;have ai:=mg a6.out)|((with_reducible refine cu 100 ?_);refine cO (some 5) rfl rfl func100 aC rfl #[ah a5,ah 1,ah 11] rfl bJ ?_;(with_reducible refine (xY.calls a5 1 11 false _ A2.out).mono ?_);rintro e w' ⟨rfl,⟨nd,rfl⟩⟩;refine ⟨_,rfl,?_⟩))
 go_ret
 exact ⟨bK,ay⟩

def Ht.p (rQ:ByteArray) (x:aF):Bool:=x.f0.toList == rQ.toList
theorem Ht (x:aF) (uY:Nat) (rQ:ByteArray) (W:World) (hcl0:W.heap[uY]?=some (.cells #[.string rQ] 9)):Calls Tryz.prog 61 (#[.agg #[.string x.f0,.bool x.f1,.string x.f2]]++#[.pointer (some ⟨uY,0,none⟩)]) W fun e w'=>e=.returned (.bool (Ht.p rQ x))∧Below W.heap.size W w':=by
 have alU:=underlying9;have tX:=underlying43;have hb0:uY < W.heap.size:=jT hcl0;have Zi:W.cell? ⟨uY,0,none⟩=some (.string rQ):=(aQ hcl0 0).trans rfl;clear hcl0
 show Calls Tryz.prog 61 #[.agg #[.string x.f0,.bool x.f1,.string x.f2],.pointer (some ⟨uY,0,none⟩)] W _
 go_enter func61,ntmps61
 go_wp2
 go_ret
 exact ⟨(by unfold Ht.p;first|rfl|(simp;done)),WU⟩

def Dz.p (rQ:ByteArray) (Hq:Bool) (Hr:ByteArray) (x:aF):Bool:=!(Op.bytesLess x.f0.toList rQ.toList)
theorem Dz (x:aF) (uY:Nat) (rQ:ByteArray) (Hq:Bool) (Hr:ByteArray) (W:World) (hcl0:W.heap[uY]?=some (.cells #[.string rQ,.bool Hq,.string Hr] 43)):Calls Tryz.prog 65 (#[.agg #[.string x.f0,.bool x.f1,.string x.f2]]++#[.pointer (some ⟨uY,0,none⟩)]) W fun e w'=>e=.returned (.bool (Dz.p rQ Hq Hr x))∧Below W.heap.size W w':=by
 have tX:=underlying43;have hb0:uY < W.heap.size:=jT hcl0;have Zi:W.cell? ⟨uY,0,none⟩=some (.string rQ):=(aQ hcl0 0).trans rfl;have aqm:W.cell? ⟨uY,1,none⟩=some (.bool Hq):=(aQ hcl0 1).trans rfl;have aqn:W.cell? ⟨uY,2,none⟩=some (.string Hr):=(aQ hcl0 2).trans rfl;clear hcl0
 show Calls Tryz.prog 65 #[.agg #[.string x.f0,.bool x.f1,.string x.f2],.pointer (some ⟨uY,0,none⟩)] W _
 go_enter func65,ntmps65
 go_wp2
 go_ret
 exact ⟨(by unfold Dz.p;first|rfl|(simp;done)),WU⟩

def BR.p (rQ:ByteArray) (x:aF):Bool:=x.f0.toList == rQ.toList
theorem BR (x:aF) (uY:Nat) (rQ:ByteArray) (W:World) (hcl0:W.heap[uY]?=some (.cells #[.string rQ] 9)):Calls Tryz.prog 112 (#[.agg #[.string x.f0,.bool x.f1,.string x.f2]]++#[.pointer (some ⟨uY,0,none⟩)]) W fun e w'=>e=.returned (.bool (BR.p rQ x))∧Below W.heap.size W w':=by
 have alU:=underlying9;have tX:=underlying43;have hb0:uY < W.heap.size:=jT hcl0;have Zi:W.cell? ⟨uY,0,none⟩=some (.string rQ):=(aQ hcl0 0).trans rfl;clear hcl0
 show Calls Tryz.prog 112 #[.agg #[.string x.f0,.bool x.f1,.string x.f2],.pointer (some ⟨uY,0,none⟩)] W _
 go_enter func112,ntmps112
 go_wp2
 go_ret
 exact ⟨(by unfold BR.p;first|rfl|(simp;done)),WU⟩

def amD:Go.Shelf.Ren:=⟨fun|6=>60|n=>n,fun|22=>26|23=>43|25=>85|3=>3|0=>0|4=>4|n=>n,fun|n=>n⟩
theorem amC:Go.Proofs.SlLaysH0.n6 Tryz.prog amD:={
 mixed:=by kernel_rfl
 f6:=⟨Tryz.f60.name,(by decide),func60.trans (congrArg some aC)⟩
 t0:=underlying0
 a0:=Tryz.isAgg0
 z0:=Tryz.sizeOf0
 v0:=Tryz.zeroValue0
 t3:=underlying3
 a3:=Tryz.isAgg3
 z3:=Tryz.sizeOf3
 v3:=Tryz.zeroValue3
 t4:=underlying4
 a4:=Tryz.isAgg4
 z4:=Tryz.sizeOf4
 v4:=Tryz.zeroValue4
 t22:=underlying26
 a22:=Tryz.isAgg26
 z22:=Tryz.sizeOf26
 v22:=Tryz.zeroValue26
 t25:=underlying85
 a25:=Tryz.isAgg85
 z25:=Tryz.sizeOf85
 v25:=Tryz.zeroValue85 }
theorem al5 (a:Option Addr) (c:Nat) (fv:Value) (w:World):Calls Tryz.prog 60 #[.slice a 0 c,fv] w fun e w'=>e=.returned (ah (-1))∧w'=w:=by
 go_enter func60,ntmps60
 go_wp2
 go_loopg [5,8] 0 (fun gg _ s8 wr=>s8=ah 0∧wr=w)
 case atStart=>exact ⟨rfl,rfl⟩
 case round =>
 obtain ⟨rfl,rfl⟩:=hrel;go_wp2
 go_ret
 exact ⟨rfl,rfl⟩
instance aCw:Inhabited aF:=⟨z43⟩
def lD (x:aF):List Value:=[.string x.f0,.bool x.f1,.string x.f2]
theorem Po (p:aF→Bool) (g:Nat) (lb:Array Value) (eg:∀ args w,(callFunc g args).run Tryz.prog w=.ok (.enter g args) w) (A0:Option Addr) (c0:Nat) (l0:List aF) (w:World) (hr0:Kd.C aS w A0 l0.length l0) (hbig:l0.length≤9223372036854775807)
  (hp:PredBelow Tryz.prog g lb (fun x=>.agg (lD x).toArray) p w) :
  Calls Tryz.prog 60 #[.slice A0 l0.length c0,.func (.func g) #[] lb] w fun e w'=>e=.returned (ah (Lib.idxBy (fun _ y=>p y) l0 default))∧Below w.heap.size w w':=by
 rcases Nat.eq_zero_or_pos l0.length with hz|hz
 ·have hn:=List.eq_nil_of_length_eq_zero hz;subst hn;refine (al5 A0 c0 _ w).mono ?_;rintro e w' ⟨rfl,rfl⟩;exact ⟨rfl,Below.refl _ _⟩
 ·obtain ⟨ad,rfl,hcell⟩:=hr0.2.2 hz;have cells:∀ (j:Nat) x,l0[j]?=some x→∀ i v,(lD x)[i]?=some v→w.cell? (ad.add (j * 3+i))=some v:=by
   intro j x hx i v hv;obtain ⟨c,_,hk,hc⟩:=hcell j x hx;have hk2:=Mc hk;subst hk2;exact hc i _ hv
  have h0:=cells 0 _ (List.getElem?_eq_getElem hz) 0 _ rfl;have hsp:ad.spot=none:=by
   have h0':w.cell? ad=some _:=h0;unfold World.cell? at h0'
   split at h0'
   ·split at h0'
    ·cases h0'
    ·simpa using ‹¬ ad.spot.isSome=true›
   ·cases h0'
  obtain ⟨bk,o,sp⟩:=ad;cases hsp;have:=AnyQ.slices_IndexFunc amC 3 Tryz.isAgg43 Tryz.sizeOf43 lD (fun _=>rfl) p g lb eg bk o l0.length c0 l0 w hp (Nat.le_refl _) hbig (World.block_lt_of_cell? w _ h0) (fun j hj i v hv=>by
   have:=cells j _ (List.getElem?_eq_getElem hj) i v (by rw [← getElem!_pos l0 j hj];exact hv);rw [Addr.add_lit] at this;rw [Nat.add_assoc];exact this)
  rw [List.take_length] at this;exact this
def JU.f (l0:List aF) (rQ:ByteArray):Option (Int):=if l0.length≤9223372036854775807 then some (Lib.idxBy (fun _ y=>Ht.p rQ y) l0 z43) else none
theorem JU.calls (A0:Option Addr) (c0:Nat) (l0:List aF) (a6:Nat) (a5:ByteArray) (r:Int) (w:World) (hr0:Kd.C aS w A0 l0.length l0) (hc0:l0.length≤c0) (a7:w.heap[a6]?=some (.cells #[.string a5] 9)) (h:JU.f l0 a5=some r) :
  Calls Tryz.prog 60 #[.slice A0 l0.length c0,.func (.func 61) #[] #[.pointer (some ⟨a6,0,none⟩)]] w fun e w'=>e=.returned (ah r)∧Below w.heap.size w w':=by
 unfold JU.f at h
 split at h
 case isFalse=>cases h
 case isTrue hl =>
 obtain rfl:=bQ h;exact Po (fun y=>Ht.p a5 y) 61 #[.pointer (some ⟨a6,0,none⟩)] (fun args W=>ER func61 rfl rfl args W) A0 c0 l0 w hr0 hl (fun W x hW=>(Ht x a6 a5 W (aU a7 hW)).mono fun e w' hq=>⟨hq.1,hW.trans (hq.2.mono hW.size)⟩)
def JV.f (l0:List aF) (rQ:ByteArray) (Hq:Bool) (Hr:ByteArray):Option (Int):=if l0.length≤9223372036854775807 then some (Lib.idxBy (fun _ y=>Dz.p rQ Hq Hr y) l0 z43) else none
theorem JV.calls (A0:Option Addr) (c0:Nat) (l0:List aF) (a8:Nat) (a5:ByteArray) (a6:Bool) (a7:ByteArray) (r:Int) (w:World) (hr0:Kd.C aS w A0 l0.length l0) (hc0:l0.length≤c0) (a9:w.heap[a8]?=some (.cells #[.string a5,.bool a6,.string a7] 43)) (h:JV.f l0 a5 a6 a7=some r) :
  Calls Tryz.prog 60 #[.slice A0 l0.length c0,.func (.func 65) #[] #[.pointer (some ⟨a8,0,none⟩)]] w fun e w'=>e=.returned (ah r)∧Below w.heap.size w w':=by
 unfold JV.f at h
 split at h
 case isFalse=>cases h
 case isTrue hl =>
 obtain rfl:=bQ h;exact Po (fun y=>Dz.p a5 a6 a7 y) 65 #[.pointer (some ⟨a8,0,none⟩)] (fun args W=>ER func65 rfl rfl args W) A0 c0 l0 w hr0 hl (fun W x hW=>(Dz x a8 a5 a6 a7 W (aU a9 hW)).mono fun e w' hq=>⟨hq.1,hW.trans (hq.2.mono hW.size)⟩)
def Wx.f (l0:List aF) (rQ:ByteArray):Option (Int):=if l0.length≤9223372036854775807 then some (Lib.idxBy (fun _ y=>BR.p rQ y) l0 z43) else none
theorem Wx.calls (A0:Option Addr) (c0:Nat) (l0:List aF) (a6:Nat) (a5:ByteArray) (r:Int) (w:World) (hr0:Kd.C aS w A0 l0.length l0) (hc0:l0.length≤c0) (a7:w.heap[a6]?=some (.cells #[.string a5] 9)) (h:Wx.f l0 a5=some r) :
  Calls Tryz.prog 60 #[.slice A0 l0.length c0,.func (.func 112) #[] #[.pointer (some ⟨a6,0,none⟩)]] w fun e w'=>e=.returned (ah r)∧Below w.heap.size w w':=by
 unfold Wx.f at h
 split at h
 case isFalse=>cases h
 case isTrue hl =>
 obtain rfl:=bQ h;exact Po (fun y=>BR.p a5 y) 112 #[.pointer (some ⟨a6,0,none⟩)] (fun args W=>ER func112 rfl rfl args W) A0 c0 l0 w hr0 hl (fun W x hW=>(BR x a6 a5 W (aU a7 hW)).mono fun e w' hq=>⟨hq.1,hW.trans (hq.2.mono hW.size)⟩)

def uy.f (a5:List (aF)) (a1:ByteArray):Option (Int):=(JU.f a5 a1).bind fun a6=>(some a6)
theorem uy.calls (a9:Option Addr) (aa:Nat) (aI:List (aF)) (a1:ByteArray) (r:Int) (w:World) (ab:Kd.C aS w a9 aI.length aI) (ac:aI.length≤aa) (h:uy.f aI a1=some r) :
  Calls Tryz.prog 17 #[.agg #[.slice a9 aI.length aa],.string a1] w fun e w'=>e=.returned (ah r)∧Below w.heap.size w w':=by
 have nT:=underlying28;have lg:=m_ ab;have af:=m_ ac;clear ab ac;have HB:=m_ (Below.refl w.heap.size w);unfold uy.f at h
 have H:=h;clear h;obtain ⟨ai,A3,H⟩:=bd_ H;obtain rfl:=bQ H;go_enter func17,ntmps17
 go_wp2_with (first|((with_reducible refine dJ 2 ?_);refine dO 2 (cs:=#[.slice a9 aI.length aa]) 28 ?_;intro aH hg w4 hbox hb;obtain ⟨HB,a5,aO,al⟩:=jR ay hb hbox hg;clear hb hbox hg)|((with_reducible refine dJ 3 ?_);refine dO 3 (cs:=#[.string a1]) 9 ?_;intro ae hg w5 hbox hb;obtain ⟨a5,HB,a6,am,an,a7,a8⟩:=oO (au a5) ay hb hbox hg;clear hb hbox hg;obtain ⟨ag,aK⟩:=gy a7 a8;have Xt:=bZ a5.out)|((with_reducible refine cu 60 ?_);refine cO (some 8) rfl rfl func60 aC rfl #[.slice a9 aI.length aa,.func (.func 61) #[] #[.pointer (some ⟨ae,0,none⟩)]] rfl bJ ?_;(with_reducible refine (JU.calls _ _ aI ae a1 ai _ qp af.out ?rV A3.out).mono ?_);(case rV=>(with_reducible repeat (first|refine fO ?_ _|refine dQ ?_|refine eP ?_ _));exact a6.out);rintro e w8 ⟨rfl,hb⟩;refine ⟨_,rfl,?_⟩;obtain ⟨a5,a6,HB⟩:=Hl (au a5) (au a6) ay hb;(try clear hb)))
 go_ret
 exact ⟨bK,ay⟩

def strings_HasPrefix.f (a0:ByteArray) (a1:ByteArray):Option (Bool):=some (Lib.hasPrefix a0.data.toList a1.data.toList)
theorem strings_HasPrefix.calls (a0:ByteArray) (a1:ByteArray) (r:Bool) (w:World) (h:strings_HasPrefix.f a0 a1=some r) :
  Calls Tryz.prog 102 #[.string a0,.string a1] w fun e w'=>e=.returned (.bool r)∧Below w.heap.size w w':=by
 unfold strings_HasPrefix.f at h
 obtain rfl:=bQ h;refine (Tryz.strings_HasPrefix a0 a1 w).mono ?_;rintro e w' ⟨rfl,rfl⟩;exact ⟨rfl,Below.refl _ _⟩

def strings_HasSuffix.f (a0:ByteArray) (a1:ByteArray):Option (Bool):=if a0.size≤9223372036854775807 then some (Lib.hasSuffix a0.data.toList a1.data.toList) else none
theorem strings_HasSuffix.calls (a0:ByteArray) (a1:ByteArray) (r:Bool) (w:World) (h:strings_HasSuffix.f a0 a1=some r) :
  Calls Tryz.prog 103 #[.string a0,.string a1] w fun e w'=>e=.returned (.bool r)∧Below w.heap.size w w':=by
 unfold strings_HasSuffix.f at h
 split at h
 case isFalse=>cases h
 case isTrue hc =>
 obtain rfl:=bQ h;refine (Tryz.strings_HasSuffix a0 a1 w hc).mono ?_;rintro e w' ⟨rfl,rfl⟩;exact ⟨rfl,Below.refl _ _⟩

def strings_Contains.f (a0:ByteArray) (a1:ByteArray):Option (Bool):=if a0.size < 4294967281 then some (Lib.contains a0.data.toList a1.data.toList) else none
theorem strings_Contains.calls (a0:ByteArray) (a1:ByteArray) (r:Bool) (w:World) (kN:jg w) (h:strings_Contains.f a0 a1=some r) :
  Calls Tryz.prog 104 #[.string a0,.string a1] w fun e w'=>e=.returned (.bool r)∧Below w.heap.size w w':=by
 unfold strings_Contains.f at h
 split at h
 case isFalse=>cases h
 case isTrue hc =>
 obtain rfl:=bQ h;obtain ⟨m,hm⟩:=kN;refine (Tryz.strings_Contains a0 a1 m w hc hm).mono ?_;rintro e w' ⟨rfl,rfl⟩;exact ⟨rfl,Below.refl _ _⟩

def Fz.f (a0:Int):Option (Bool):=if a0 ≥ 97 then (if a0≤122 then (some true) else (if a0 ≥ 48 then (if a0≤57 then (some true) else (some (a0 == 47))) else (some (a0 == 47)))) else (if a0 ≥ 48 then (if a0≤57 then (some true) else (some (a0 == 47))) else (some (a0 == 47)))
theorem Fz.calls (a0:Int) (r:Bool) (w:World) (h:Fz.f a0=some r) :
  Calls Tryz.prog 107 #[.int .i32 a0] w fun e w'=>e=.returned (.bool r)∧pO w w':=by
 unfold Fz.f at h
 have H:=h;clear h;revert H;refine fB (fun a5 H=>?_) fun a5 H=>?_;rotate_left
 ·revert H;refine fB (fun a6 H=>?_) fun a6 H=>?_;rotate_left
  ·obtain rfl:=bQ H;go_enter func107,ntmps107
   go_wp2
   go_ret
   exact ⟨bC,kL⟩
  revert H;refine fB (fun a7 H=>?_) fun a7 H=>?_
  ·obtain rfl:=bQ H;go_enter func107,ntmps107
   go_wp2
   go_ret
   exact ⟨bC,kL⟩
  obtain rfl:=bQ H;go_enter func107,ntmps107
  go_wp2
  go_ret
  exact ⟨bC,kL⟩
 revert H;refine fB (fun a8 H=>?_) fun a8 H=>?_
 ·obtain rfl:=bQ H;go_enter func107,ntmps107
  go_wp2
  go_ret
  exact ⟨bC,kL⟩
 revert H;refine fB (fun a9 H=>?_) fun a9 H=>?_;rotate_left
 ·obtain rfl:=bQ H;go_enter func107,ntmps107
  go_wp2
  go_ret
  exact ⟨bC,kL⟩
 revert H;refine fB (fun aa H=>?_) fun aa H=>?_
 ·obtain rfl:=bQ H;go_enter func107,ntmps107
  go_wp2
  go_ret
  exact ⟨bC,kL⟩
 obtain rfl:=bQ H;go_enter func107,ntmps107
 go_wp2
 go_ret
 exact ⟨bC,kL⟩

def Aj.f (a0:Int):Option (Bool):=(Fz.f a0).bind fun a5=>(some (!a5))
theorem Aj.calls (a0:Int) (r:Bool) (w:World) (h:Aj.f a0=some r) :
  Calls Tryz.prog 106 #[.int .i32 a0] w fun e w'=>e=.returned (.bool r)∧pO w w':=by
 unfold Aj.f at h
 have H:=h;clear h;obtain ⟨a5,A2,H⟩:=bd_ H;obtain rfl:=bQ H;go_enter func106,ntmps106
 go_wp2_with (first|((with_reducible refine cu 107 ?_);refine cO (some 4) rfl rfl func107 aC rfl #[.int .i32 a0] rfl bJ ?_;(with_reducible refine (Fz.calls a0 a5 _ A2.out).mono ?_);rintro e w' ⟨rfl,⟨nd,rfl⟩⟩;refine ⟨_,rfl,?_⟩))
 go_ret
 exact ⟨bC,kL⟩

theorem strings_ContainsFunc.tot (r:Int):Aj.f r=some ((Aj.f r).getD false):=by
 unfold Aj.f Fz.f
 repeat' (first|rfl|(dsimp only [Option.bind_some];done)|split)
def strings_ContainsFunc.f (a0:ByteArray) (a1:Unit):Option (Bool):=some (decide (0≤Lib.idxFunc (fun r=>(Aj.f (r:Int)).getD false) true a0))
theorem strings_ContainsFunc.calls (a0:ByteArray) (a1:Unit) (r:Bool) (w:World) (h:strings_ContainsFunc.f a0 a1=some r) :
  Calls Tryz.prog 105 #[.string a0,.func (.func 106) #[] #[]] w fun e w'=>e=.returned (.bool r)∧Below w.heap.size w w':=by
 obtain rfl:=bQ h;exact Tryz.strings_ContainsFunc 106 #[] (enters_of func106 aC rfl) (fun r=>(Aj.f (r:Int)).getD false) a0 w (fun W r _=>by
  unfold FnGives
  refine (Aj.calls (r:Int) _ W (strings_ContainsFunc.tot _)).mono ?_;rintro e w' ⟨rfl,⟨q,rfl⟩⟩;exact ⟨rfl,q,rfl⟩)

def strings_Split.f (a0:ByteArray) (a1:ByteArray):Option (List ByteArray):=if a0.size < 4294967281∧1≤a1.size then some (Lib.splitB a1 0 (Lib.countB a0 a1) a0) else none
theorem strings_Split.calls (a0:ByteArray) (a1:ByteArray) (r:List ByteArray) (w:World) (kN:jg w) (h:strings_Split.f a0 a1=some r) :
  Calls Tryz.prog 108 #[.string a0,.string a1] w fun e w'=>∃ fC:Value,e=.returned (fC)∧Kd.R Kd.string 9 w' w.heap.size (fun _=>True) fC r∧Below w.heap.size w w':=by
 unfold strings_Split.f at h
 split at h
 case isFalse=>cases h
 case isTrue hc =>
 obtain ⟨hc,h1⟩:=hc;obtain rfl:=bQ h;obtain ⟨m,hm⟩:=kN;have hl:=Lib.splitB_all a1 h1 0 _ a0 rfl;have hle:=Lib.countB_le a1 h1 a0.size a0 (Nat.le_refl _);refine (Tryz.strings_Split a0 a1 m w hc hm h1).mono ?_;rintro e w' ⟨rfl,rfl⟩;refine ⟨_,rfl,?_,(Below.refl _ _).alloc (Nat.le_refl _) _⟩;rw [← hl];exact aeu.afc w 9 _ (by omega)

def LZ.f (a0:ByteArray):Option (Bool):=some (decide ((a0.size:Int) > 7))
theorem LZ.calls (a0:ByteArray) (r:Bool) (w:World) (h:LZ.f a0=some r) :
  Calls Tryz.prog 110 #[.string a0] w fun e w'=>e=.returned (.bool r)∧pO w w':=by
 unfold LZ.f at h
 have H:=h;clear h;obtain rfl:=bQ H;go_enter func110,ntmps110
 go_wp2
 go_ret
 exact ⟨bC,kL⟩

def wI.l0:Nat→List ByteArray→Int→Int→Option (Int)
 | 0,_,_,_=>none
 | k+1,x0,x7,gZ=>if gZ < x7 then (if 0≤gZ then (if gZ < (x0.length:Int) then ((LZ.f (qV ByteArray.empty x0 gZ)).bind fun a5=>(if a5=true then (some gZ) else (wI.l0 k x0 x7 (wrap64 (gZ+1))))) else (none)) else (none)) else (some (-1))
def wI.f (k:Nat) (l0:List ByteArray) (a1:Unit):Option (Int):=wI.l0 k l0 (l0.length:Int) 0
theorem wI.calls (k:Nat) (A0:Option Addr) (c0:Nat) (l0:List ByteArray) (a1:Unit) (r:Int) (w:World) (hr0:Kd.C Kd.string w A0 l0.length l0) (hc0:l0.length≤c0) (h:wI.f k l0 a1=some r) :
  Calls Tryz.prog 139 #[.slice A0 l0.length c0,.func (.func 110) #[] #[]] w fun e w'=>e=.returned (ah r)∧pO w w':=by
 have HR0:=m_ hr0;have ag:=m_ hc0;clear hr0 hc0;unfold wI.f at h
 have H:=h;clear h;have H':=m_ H;clear H;go_enter func139,ntmps139
 go_wp2
 go_loopg [8] k (fun kq v8 w'=>∃ (dw:Int),v8=ah dw∧aA (wI.l0 kq l0 (l0.length:Int) dw=some r)∧aA (kq≤k)∧pO w w')
 case atStart=>exact ⟨(0),bC,H',⟨Nat.le_refl _⟩,kL⟩
 case round =>
 clear H';obtain ⟨dw,rfl,HA,gG,⟨m1,rfl⟩⟩:=hrel;cases gk with
 | zero=>exact absurd HA.out (by simp [wI.l0])
 | succ k1 =>
 obtain ⟨H⟩:=HA;simp only [wI.l0] at H
 revert H;refine fB (fun a9 H=>?_) fun a9 H=>?_;rotate_left
 ·obtain rfl:=bQ H;go_wp2
  go_ret
  exact ⟨bC,kL⟩
 obtain ⟨ae,H⟩:=gI H;obtain ⟨af,H⟩:=gI H;obtain ⟨a8,A6,H⟩:=bd_ H;have ab:=m_ H;clear H;have a6:0≤(dw:Int):=aX aY;have a7:dw < (l0.length:Int):=aX aY;obtain ⟨ac,aa,a5⟩:=Kd.Aa HR0.out dw a6 a7;cases aa;replace a6:=eq_true a6;replace a7:=eq_true a7;go_upto_if 16 with (first|(go_at_call 110;(with_reducible refine (LZ.calls (qV ByteArray.empty l0 dw) a8 _ A6.out).mono ?_);rintro e w' ⟨rfl,⟨nd,rfl⟩⟩))
 (try simp only [fM])
 (try clear a5)
 obtain ⟨H⟩:=ab;by_cases c8:a8=true
 ·subst c8;rw [if_pos rfl] at H;obtain rfl:=bQ H;go_wp2
  go_ret
  exact ⟨bC,kL⟩
 replace c8:=Bool.eq_false_iff.mpr c8;subst c8;rw [if_neg iF] at H;have H':=m_ H;clear H;go_wp2
 go_roundg k1
 case measure=>have:=gG.out;omega
 case rel=>exact ⟨(wrap64 (dw+1)),bC,H',⟨oz⟩,kL⟩

def FY.f (k:Nat) (l0:List ByteArray) (a1:Unit):Option (Bool):=(wI.f k l0 a1).bind fun a5=>(some (decide (a5 ≥ 0)))
theorem FY.calls (k:Nat) (A0:Option Addr) (c0:Nat) (l0:List ByteArray) (a1:Unit) (r:Bool) (w:World) (hr0:Kd.C Kd.string w A0 l0.length l0) (hc0:l0.length≤c0) (h:FY.f k l0 a1=some r) :
  Calls Tryz.prog 109 #[.slice A0 l0.length c0,.func (.func 110) #[] #[]] w fun e w'=>e=.returned (.bool r)∧pO w w':=by
 have HR0:=m_ hr0;have a6:=m_ hc0;clear hr0 hc0;unfold FY.f at h
 have H:=h;clear h;obtain ⟨a5,A3,H⟩:=bd_ H;obtain rfl:=bQ H;go_enter func109,ntmps109
 go_wp2_with (first|((with_reducible refine cu 139 ?_);refine cO (some 7) rfl rfl func139 aC rfl #[.slice A0 l0.length c0,.func (.func 110) #[] #[]] rfl bJ ?_;(with_reducible refine (wI.calls k _ _ l0 a1 a5 _ adK a6.out A3.out).mono ?_);rintro e w' ⟨rfl,⟨nd,rfl⟩⟩;refine ⟨_,rfl,?_⟩))
 go_ret
 exact ⟨bC,kL⟩

def mY.j0:Nat→ByteArray→Bool→Option (List ByteArray × Int)
 | 0,_,_=>none
 | k+1,x0,a8=>if a8=true then (some (([]:List ByteArray),1)) else ((strings_ContainsFunc.f x0 ()).bind fun a6=>(if a6=true then (some (([]:List ByteArray),1)) else (if x0.toList=([47]:List UInt8) then (some ((([]:List ByteArray)),0)) else (if 1≤(x0.size:Int) then ((strings_Split.f (x0.extract 1 x0.size) (⟨#[47]⟩:ByteArray)).bind fun a5=>((FY.f k a5 ()).bind fun a7=>(if a7=true then (some (([]:List ByteArray),2)) else (some (a5,0))))) else (none)))))
def mY.f (k:Nat) (a0:ByteArray):Option (List ByteArray × Int):=if (a0.size:Int) > 60 then (mY.j0 k a0 true) else ((strings_HasPrefix.f a0 (⟨#[47]⟩:ByteArray)).bind fun a5=>(if a5=true then (if a0.toList=([47]:List UInt8) then ((strings_Contains.f a0 (⟨#[47,47]⟩:ByteArray)).bind fun a6=>(mY.j0 k a0 a6)) else ((strings_HasSuffix.f a0 (⟨#[47]⟩:ByteArray)).bind fun a7=>(if a7=true then (mY.j0 k a0 true) else ((strings_Contains.f a0 (⟨#[47,47]⟩:ByteArray)).bind fun a8=>(mY.j0 k a0 a8))))) else (mY.j0 k a0 true)))
theorem mY.calls (k:Nat) (a0:ByteArray) (r1:List ByteArray) (r2:Int) (w:World) (kN:jg w) (h:mY.f k a0=some (r1,r2)) :
  Calls Tryz.prog 57 #[.string a0] w fun e w'=>∃ fC:Value,e=.returned (.tuple #[fC,ah r2])∧Kd.R Kd.string 9 w' w.heap.size (fun _=>True) fC r1∧Below w.heap.size w w':=by
 have HD:=m_ kN;clear kN;have HB:=m_ (Below.refl w.heap.size w);unfold mY.f at h
 have H:=h;clear h;have av:=m_ H;clear H;go_enter func57,ntmps57
 go_upto_region 1 with (fail)
 go_cut [24] (fun v24 wc=>∃ (kq:Nat) (a6:Bool),v24=.bool a6∧aA (mY.j0 kq a0 a6=some (r1,r2))∧aA (kq≤k)∧aA (Below w.heap.size w wc))
 case first =>
  obtain ⟨H⟩:=av;revert H;refine eU (fun c3 H=>?_) fun c3 H=>?_
  ·have a8:=nJ c3;have ae:decide (60 < a0.size)=true:=nJ (by omega);clear c3;try simp only [aV,aZ,a8]
   have H':=m_ H;clear H;go_wp2
   go_meet
   case rel=>exact ⟨_,(true),bC,H',⟨lM⟩,⟨ay⟩⟩
  have a8:=wQ c3;have ae:decide (60 < a0.size)=false:=wQ (by omega);clear c3;try simp only [aV,aZ,a8]
  obtain ⟨aw,A4,H⟩:=bd_ H;by_cases c5:aw=true
  rotate_left
  ·replace c5:=Bool.eq_false_iff.mpr c5;subst c5;rw [if_neg iF] at H;have H':=m_ H;clear H;go_wp2_with (first|(go_at_call 102;(with_reducible refine (strings_HasPrefix.calls a0 (⟨#[47]⟩:ByteArray) false _ A4.out).mono ?_);rintro e ba ⟨rfl,hb⟩;have dH:=m_ (dV ay hb);clear HB;have HB:=dH;clear dH;(try clear hb)))
   go_meet
   case rel=>exact ⟨_,(true),bC,H',⟨lM⟩,⟨ay⟩⟩
  subst c5;rw [if_pos rfl] at H;revert H;refine eU (fun c6 H=>?_) fun c6 H=>?_
  ·have af:=fU c6;have ag:=fV c6;clear c6;obtain ⟨aK,A7,H⟩:=bd_ H;have H':=m_ H;clear H;go_wp2_with (first|(go_at_call 102;(with_reducible refine (strings_HasPrefix.calls a0 (⟨#[47]⟩:ByteArray) true _ A4.out).mono ?_);rintro e w8 ⟨rfl,hb⟩;have dH:=m_ (dV ay hb);clear HB;have HB:=dH;clear dH;(try clear hb))|(go_at_call 104;(with_reducible refine (strings_Contains.calls a0 (⟨#[47,47]⟩:ByteArray) aK _ (jg.below HD.out ay) A7.out).mono ?_);rintro e w9 ⟨rfl,hb⟩;have dH:=m_ (dV ay hb);clear HB;have HB:=dH;clear dH;(try clear hb)))
   go_meet
   case rel=>exact ⟨_,(aK),bC,H',⟨lM⟩,⟨ay⟩⟩
  have af:=fZ c6;have ag:=f_ c6;obtain ⟨ax,b3,H⟩:=bd_ H;by_cases ai:ax=true
  ·subst ai;rw [if_pos rfl] at H;have H':=m_ H;clear H;go_wp2_with (first|(go_at_call 102;(with_reducible refine (strings_HasPrefix.calls a0 (⟨#[47]⟩:ByteArray) true _ A4.out).mono ?_);rintro e bb ⟨rfl,hb⟩;have dH:=m_ (dV ay hb);clear HB;have HB:=dH;clear dH;(try clear hb))|(go_at_call 103;(with_reducible refine (strings_HasSuffix.calls a0 (⟨#[47]⟩:ByteArray) true _ b3.out).mono ?_);rintro e bc ⟨rfl,hb⟩;have dH:=m_ (dV ay hb);clear HB;have HB:=dH;clear dH;(try clear hb)))
   go_meet
   case rel=>exact ⟨_,(true),bC,H',⟨lM⟩,⟨ay⟩⟩
  replace ai:=Bool.eq_false_iff.mpr ai;subst ai;rw [if_neg iF] at H;obtain ⟨aH,b6,H⟩:=bd_ H;have H':=m_ H;clear H;go_wp2_with (first|(go_at_call 102;(with_reducible refine (strings_HasPrefix.calls a0 (⟨#[47]⟩:ByteArray) true _ A4.out).mono ?_);rintro e bd ⟨rfl,hb⟩;have dH:=m_ (dV ay hb);clear HB;have HB:=dH;clear dH;(try clear hb))|(go_at_call 103;(with_reducible refine (strings_HasSuffix.calls a0 (⟨#[47]⟩:ByteArray) false _ b3.out).mono ?_);rintro e be ⟨rfl,hb⟩;have dH:=m_ (dV ay hb);clear HB;have HB:=dH;clear dH;(try clear hb))|(go_at_call 104;(with_reducible refine (strings_Contains.calls a0 (⟨#[47,47]⟩:ByteArray) aH _ (jg.below HD.out ay) b6.out).mono ?_);rintro e fA ⟨rfl,hb⟩;have dH:=m_ (dV ay hb);clear HB;have HB:=dH;clear dH;(try clear hb)))
  go_meet
  case rel=>exact ⟨_,(aH),bC,H',⟨lM⟩,⟨ay⟩⟩
 case rest =>
 clear av;obtain ⟨kq,a6,rfl,HA,uj,HB⟩:=hcut;cases kq with
 | zero=>exact absurd HA.out (by simp [mY.j0])
 | succ Bv =>
 obtain ⟨H⟩:=HA;simp only [mY.j0] at H
 by_cases aq:a6=true
 ·subst aq;rw [if_pos rfl] at H;simp only [gV] at H
  obtain ⟨rfl,rfl⟩:=H;go_wp2
  go_ret2
  exact ⟨_,bK,lH,ay⟩
 replace aq:=Bool.eq_false_iff.mpr aq;subst aq;rw [if_neg iF] at H;obtain ⟨aO,b7,H⟩:=bd_ H;have al:=m_ H;clear H;go_upto_if 26 with (first|((with_reducible refine cu 105 ?_);refine cO (some 26) rfl rfl func105 aC rfl #[.string a0,.func (.func 106) #[] #[]] rfl bJ ?_;(with_reducible refine (strings_ContainsFunc.calls a0 () aO _ b7.out).mono ?_);rintro e dL ⟨rfl,hb⟩;refine ⟨_,rfl,?_⟩;have dH:=m_ (dV ay hb);clear HB;have HB:=dH;clear dH;(try clear hb)))
 (try simp only [fM])
 obtain ⟨H⟩:=al;by_cases ar:aO=true
 ·subst ar;rw [if_pos rfl] at H;simp only [gV] at H
  obtain ⟨rfl,rfl⟩:=H;go_wp2
  go_ret2
  exact ⟨_,bK,lH,ay⟩
 replace ar:=Bool.eq_false_iff.mpr ar;subst ar;rw [if_neg iF] at H;revert H;refine eU (fun ab H=>?_) fun ab H=>?_
 ·have a5:=fU ab;have am:=fV ab;clear ab;try simp only [aV,aZ,a5]
  obtain ⟨bD,a9⟩:∃ y_:List ByteArray,y_=(([]:List ByteArray)):=⟨_,rfl⟩;rw [← a9] at H;have aa:=m_ a9;clear a9;simp only [gV] at H
  obtain ⟨rfl,rfl⟩:=H;go_wp2_with (first|((with_reducible refine dJ 29 ?_);refine Kd.AZ Kd.string _ 9 ?hg (N:=29) ?hd (xs:=([]:List ByteArray)) (inner:=[]) (ok:=fun _=>True) (jG:=fun _=>True) ?hr ?hp (fun _ hk=>hk) trivial (Below.refl _ _) (Nat.le_refl _) (by simp) ?_;(case hd=>rfl);(case hg=>rfl);(case hr=>first|(go_simp;done)|(go_simp;rfl));(case hp=>exact (gu.none _ _));intro aCL bh LH hb mF mG;clear mF mG;(first|rw [← aa.out] at LH|(simp only [Int.reduceToNat] at LH;rw [← aa.out] at LH));obtain ⟨an,HB⟩:=p_ (Kd.dR LH (bU ay)) <| a_ (dV ay hb);clear hb LH))
  go_ret2
  exact ⟨_,bK,(aN an),ay⟩
 have a5:=fZ ab;have am:=f_ ab;try simp only [aV,aZ,a5]
 obtain ⟨b4,b5,H⟩:=jF H;obtain ⟨ac,b8,H⟩:=bd_ H;obtain ⟨ao,b9,H⟩:=bd_ H;have ap:=m_ H;clear H;go_upto_if 34 with (first|((with_reducible refine cu 108 ?_);refine cO (some 32) rfl rfl func108 aC rfl #[.string (a0.extract 1 a0.size),.string (⟨#[47]⟩:ByteArray)] rfl bJ ?_;(with_reducible refine (strings_Split.calls (a0.extract 1 a0.size) (⟨#[47]⟩:ByteArray) ac _ (jg.below HD.out ay) b8.out).mono ?_);rintro e bi ⟨v124,rfl,ho0,hb⟩;refine ⟨_,rfl,?_⟩;obtain ⟨a7,HB⟩:=p_ (Kd.dR ho0 (bU ay)) <| a_ (dV ay hb);(try clear hb);(try clear hk);(try clear ho0);obtain ⟨b0,b1,b2⟩:=Kd.dN a7.out;subst b2)|((with_reducible refine cu 109 ?_);refine cO (some 34) rfl rfl func109 aC rfl #[.slice b0 ac.length b1,.func (.func 110) #[] #[]] rfl bJ ?_;(with_reducible refine (FY.calls Bv _ _ ac () ao _ ?jW ((Kd.dn a7.out).2.1) b9.out).mono ?_);(case jW=>repeat (first|exact (Kd.dn a7.out).2.2|(with_reducible refine Kd.kM ?_ _)|(with_reducible refine Kd.kR ?_ _)|(with_reducible refine Kd.kQ ?_)));rintro e w' ⟨rfl,⟨nd,rfl⟩⟩;refine ⟨_,rfl,?_⟩))
 (try simp only [fM])
 obtain ⟨H⟩:=ap;by_cases aT:ao=true
 rotate_left
 ·replace aT:=Bool.eq_false_iff.mpr aT;subst aT;rw [if_neg iF] at H;simp only [gV] at H
  obtain ⟨rfl,rfl⟩:=H;go_wp2
  go_ret2
  exact ⟨_,bK,(aN a7),ay⟩
 subst aT;rw [if_pos rfl] at H;simp only [gV] at H
 obtain ⟨rfl,rfl⟩:=H;go_wp2
 go_ret2
 exact ⟨_,bK,lH,ay⟩

def strings_Join.f (l0:List ByteArray) (a1:ByteArray):Option (ByteArray):=if l0.length≤140737488355328∧(Lib.join (l0.map (·.data.toList)) a1.data.toList).length≤140737488355328 then some ⟨(Lib.join (l0.map (·.data.toList)) a1.data.toList).toArray⟩ else none
theorem strings_Join.calls (A0:Option Addr) (c0:Nat) (l0:List ByteArray) (a1:ByteArray) (r:ByteArray) (w:World) (hr0:Kd.C Kd.string w A0 l0.length l0) (hc0:l0.length≤c0) (h:strings_Join.f l0 a1=some r) :
  Calls Tryz.prog 121 #[.slice A0 l0.length c0,.string a1] w fun e w'=>e=.returned (.string r)∧Below w.heap.size w w':=by
 unfold strings_Join.f at h
 split at h
 case isFalse=>cases h
 case isTrue hc =>
  obtain ⟨h1,h2⟩:=hc;obtain rfl:=bQ h;rcases Nat.eq_zero_or_pos l0.length with hz|hz
  ·have hn:=List.eq_nil_of_length_eq_zero hz;subst hn;refine (Tryz.strings_Join_none A0 c0 a1 w).mono ?_;rintro e w' ⟨rfl,rfl⟩;exact ⟨rfl,Below.refl _ _⟩
  ·obtain ⟨ad,rfl,hcell⟩:=hr0.2.2 hz;have cells:∀ (j:Nat) x,l0[j]?=some x→w.cell? (ad.add j)=some (.string x):=by
    intro j x hx;obtain ⟨c,_,rfl,hc⟩:=hcell j x hx;have:=hc 0 _ rfl;rw [show j * (Kd.string).sz+0=j from Nat.mul_one j] at this;exact this
   have h0:=cells 0 _ (List.getElem?_eq_getElem hz);have hsp:ad.spot=none:=by
    have h0':w.cell? ad=some (.string l0[0]):=h0;unfold World.cell? at h0'
    split at h0'
    ·split at h0'
     ·cases h0'
     ·simpa using ‹¬ ad.spot.isSome=true›
    ·cases h0'
   obtain ⟨bk,o,sp⟩:=ad;cases hsp;refine Tryz.strings_Join bk o c0 l0 a1 w (fun j x hx=>?_) (World.block_lt_of_cell? w _ h0) h1 hc0 h2;have:=cells j x hx;rw [Addr.add_lit] at this;exact this

def Ai.f (l0:List ByteArray):Option (ByteArray):=if (l0.length:Int)=0 then (some (⟨#[47]⟩:ByteArray)) else ((strings_Join.f l0 (⟨#[47]⟩:ByteArray)).bind fun a5=>(if 1+a5.size≤9223372036854775807 then (some ((⟨#[47]⟩:ByteArray)++a5)) else (none)))
theorem Ai.calls (A0:Option Addr) (c0:Nat) (l0:List ByteArray) (r:ByteArray) (w:World) (hr0:Kd.C Kd.string w A0 l0.length l0) (hc0:l0.length≤c0) (h:Ai.f l0=some r) :
  Calls Tryz.prog 70 #[.slice A0 l0.length c0] w fun e w'=>e=.returned (.string r)∧Below w.heap.size w w':=by
 have HR0:=m_ hr0;have a8:=m_ hc0;clear hr0 hc0;have HB:=m_ (Below.refl w.heap.size w);unfold Ai.f at h
 have H:=h;clear h;revert H;refine eU (fun c2 H=>?_) fun c2 H=>?_
 ·have a6:=fU c2;have a7:=fV c2;clear c2;obtain rfl:=bQ H;go_enter func70,ntmps70
  go_wp2
  go_ret
  exact ⟨bK,ay⟩
 have a6:=fZ c2;have a7:=f_ c2;have a9:¬ (l0=[]):=fun bI=>c2 (by rw [bI];rfl);obtain ⟨a5,A3,H⟩:=bd_ H;obtain ⟨c4,H⟩:=lT H;have aa:=eq_true c4;have ab:=nJ c4;try have ac:(9223372036854775807 < 1+a5.size)=False:=eq_false (Nat.not_lt.2 c4)
 obtain rfl:=bQ H;go_enter func70,ntmps70
 go_wp2_with (first|((with_reducible refine cu 121 ?_);refine cO (some 7) rfl rfl func121 aC rfl #[.slice A0 l0.length c0,.string (⟨#[47]⟩:ByteArray)] rfl bJ ?_;(with_reducible refine (strings_Join.calls _ _ l0 (⟨#[47]⟩:ByteArray) a5 _ adK a8.out A3.out).mono ?_);rintro e w5 ⟨rfl,hb⟩;refine ⟨_,rfl,?_⟩;have dH:=m_ (dV ay hb);clear HB;have HB:=dH;clear dH;(try clear hb)))
 go_ret
 exact ⟨bK,ay⟩

mutual
def qR.j0:Nat→ByteArray→Bool→List (aF)→Option (Int)
 | 0,_,_,_=>none
 | k+1,x1,a7,a6=>if a7=true then (some 0) else ((mY.f k x1).bind fun a5=>(if a5.2=0 then (qR.l0 k a5.1 1 a6) else (some a5.2)))
def qR.l0:Nat→List ByteArray→Int→List (aF)→Option (Int)
 | 0,_,_,_=>none
 | k+1,x5,x7,a5=>if x7 < (x5.length:Int) then (if 0≤x7 then (if x7≤(x5.length:Int) then ((Ai.f (x5.take (x7:Int).toNat)).bind fun a7=>((uy.f a5 a7).bind fun a6=>(if a6 < 0 then (some 3) else (if 0≤a6 then (if a6 < (a5.length:Int) then (if ((aB a5 a6).f1=true) then (qR.l0 k x5 (wrap64 (x7+1)) a5) else (some 4)) else (none)) else (none))))) else (none)) else (none)) else (some 3)
end
def qR.f (k:Nat) (a5:List (aF)) (a1:ByteArray):Option (Int):=if a1.toList=([47]:List UInt8) then (qR.j0 k a1 true a5) else ((uy.f a5 a1).bind fun a6=>(qR.j0 k a1 (decide (a6 ≥ 0)) a5))
theorem qR.calls (k:Nat) (aK:Option Addr) (ai:Nat) (aI:List (aF)) (a1:ByteArray) (r:Int) (w:World) (kN:jg w) (aq:Kd.C aS w aK aI.length aI) (ar:aI.length≤ai) (h:qR.f k aI a1=some r) :
  Calls Tryz.prog 25 #[.agg #[.slice aK aI.length ai],.string a1] w fun e w'=>e=.returned (ah r)∧Below w.heap.size w w':=by
 have nT:=underlying28;have lg:=m_ aq;have aT:=m_ ar;clear aq ar;have HD:=m_ kN;clear kN;have HB:=m_ (Below.refl w.heap.size w);unfold qR.f at h
 have H:=h;clear h;have be:=m_ H;clear H;go_enter func25,ntmps25
 go_upto_region 1 with (first|((with_reducible refine dJ 2 ?_);refine dO 2 (cs:=#[.slice aK aI.length ai]) 28 ?_;intro al hg w4 hbox hb;obtain ⟨HB,a5,bl,bm⟩:=jR ay hb hbox hg;clear hb hbox hg))
 (try simp only [fM])
 go_cut [16] (fun v16 wc=>∃ (kq:Nat) (aO:Bool),v16=.bool aO∧aA (qR.j0 kq a1 aO aI=some r)∧aA (kq≤k)∧aA (wc.heap[al]?=some (.cells #[(.slice aK aI.length ai)] 28))∧aA (Below w.heap.size w wc))
 case first =>
  obtain ⟨H⟩:=be;revert H;refine eU (fun c5 H=>?_) fun c5 H=>?_
  ·have aH:=fU c5;have bD:=fV c5;clear c5;try simp only [aV,aZ,aH]
   have H':=m_ H;clear H;go_wp2
   go_meet
   case rel=>exact ⟨_,(true),bC,H',⟨lM⟩,⟨(au a5)⟩,⟨ay⟩⟩
  have aH:=fZ c5;have bD:=f_ c5;try simp only [aV,aZ,aH]
  obtain ⟨b5,A6,H⟩:=bd_ H;have H':=m_ H;clear H;have Xt:=bZ a5.out;go_wp2_with (first|(go_at_call 17;(with_reducible refine (uy.calls _ _ aI a1 b5 _ qp aT.out A6.out).mono ?_);rintro e w8 ⟨rfl,hb⟩;obtain ⟨a5,HB⟩:=qA (au a5) ay hb;(try clear hb)))
  go_meet
  case rel=>exact ⟨_,(decide (b5 ≥ 0)),bC,H',⟨lM⟩,⟨(au a5)⟩,⟨ay⟩⟩
 case rest =>
 clear be;obtain ⟨kq,aO,rfl,HA,HJ2,a5,HB⟩:=hcut;cases kq with
 | zero=>exact absurd HA.out (by simp [qR.j0])
 | succ Md =>
 obtain ⟨H⟩:=HA;simp only [qR.j0] at H
 by_cases c9:aO=true
 ·subst c9;rw [if_pos rfl] at H;obtain rfl:=bQ H;go_wp2
  go_ret
  exact ⟨bK,ay⟩
 replace c9:=Bool.eq_false_iff.mpr c9;subst c9;rw [if_neg iF] at H;obtain ⟨⟨a7,b6⟩,bx,H⟩:=bd_ H;have b7:=m_ H;clear H;go_upto_if 23 with (first|((with_reducible refine cu 57 ?_);refine cO (some 19) rfl rfl func57 aC rfl #[.string a1] rfl bJ ?_;(with_reducible refine (mY.calls Md a1 a7 b6 _ (jg.below HD.out ay) bx.out).mono ?_);rintro e cc ⟨aoF,rfl,ho0,hb⟩;refine ⟨_,rfl,?_⟩;obtain ⟨b8,a5,HB⟩:=p_ (Kd.dR ho0 (bU ay)) <| qA (au a5) ay hb;(try clear hb);(try clear ho0)))
 (try simp only [fM])
 obtain ⟨H⟩:=b7;revert H;refine eU (fun av H=>?_) fun av H=>?_;rotate_left
 ·have aa:=fZ av;have aw:=f_ av;try simp only [aV,aZ,aa]
  obtain rfl:=bQ H;go_wp2
  go_ret
  exact ⟨bK,ay⟩
 have aa:=fU av;have aw:=fV av;clear av;try simp only [aV,aZ,aa]
 have H':=m_ H;clear H;go_wp2
 go_loopg [7] Md (fun kq v7 w'=>∃ (a8:Int),v7=ah a8∧aA (qR.l0 kq a7 a8 aI=some r)∧aA (kq≤Md)∧aA (Kd.R Kd.string 9 w' w.heap.size (fun _=>True) aoF a7)∧aA (w'.heap[al]?=some (.cells #[(.slice aK aI.length ai)] 28))∧aA (Below w.heap.size w w'))
 case atStart=>exact ⟨(1),bC,H',⟨Nat.le_refl _⟩,⟨(aN b8)⟩,⟨(au a5)⟩,⟨ay⟩⟩
 case round =>
 clear H';try clear c9;try clear av;try clear aa;try clear aw
 obtain ⟨a8,rfl,HA,kS,a6,a5,HB⟩:=hrel;cases gk with
 | zero=>exact absurd HA.out (by simp [qR.l0])
 | succ k2 =>
 obtain ⟨H⟩:=HA;simp only [qR.l0] at H
 have b9:=m_ H;clear H;obtain ⟨az,ap,fA⟩:=Kd.dN a6.out;subst fA;go_upto_if 28 with (fail)
 obtain ⟨H⟩:=b9;revert H;refine fB (fun af H=>?_) fun af H=>?_;rotate_left
 ·try simp only [aV,aZ,af]
  obtain rfl:=bQ H;go_wp2
  go_ret
  exact ⟨bK,ay⟩
 try simp only [aV,aZ,af]
 obtain ⟨fG,bo,H⟩:=jF H;obtain ⟨bp,bq,H⟩:=jF H;obtain ⟨am,an⟩:∃ y_:List ByteArray,y_=(a7.take (a8:Int).toNat):=⟨_,rfl⟩;rw [← an] at H;have ax:=m_ an;clear an;obtain ⟨ao,bz,H⟩:=bd_ H;obtain ⟨a9,ca,H⟩:=bd_ H;have ba:=m_ H;clear H;try go_wp2
 obtain ⟨a6,a5,HB⟩:=p_ (Kd.bH a6.out) <| afZ a5 HB;have bi:(a8:Int)≤((a7.length:Int):Int):=aX aY;obtain ⟨aCr,aaD,_,alP,_⟩:=info_parts info9;have aaO:a7.length≤ap:=(Kd.dn a6.out).2.1;have Zl:Kd.C Kd.string _ az a7.length a7:=(Kd.dn a6.out).2.2;have agF:=EP (P:=Tryz.prog) 38 9 .i64 underlying38 aaD az a7.length ap a8 (aX aY) bi aaO;have VA:=Kd.yx (m:=(a8:Int).toNat) Zl (by omega);have b0:am.length=(a8:Int).toNat:=(by rw [ax.out,List.length_take];omega);rw [← ax.out] at VA;rw [← b0] at agF;have KA:=m_ VA;have bb:=m_ (show am.length≤ap from by omega);clear VA Zl aaO aaD alP;have aqd:=m_ b0;clear b0;have aqa:=m_ (show (a8:Int).toNat≤a7.length from by omega);replace bi:=eq_true bi;refine iU (n:=7) (S:=fun w'=>w'.cell? ⟨al,0,none⟩=some (.slice aK aI.length ai)) (ds:=[]) N9 aC rfl rfl ((aQ a5.out 0).trans rfl) (fun hH=>?_);generalize wr.drew=cd at a6 a5 HB KA hH ⊢;refine uF (i:=1) (N:=some 32) #[F_,aj,F_,F_,F_,F_,F_] aC ?_;refine uF (i:=2) (N:=some 33) #[F_,aj,aj,F_,F_,F_,F_] aC ?_;refine uF (i:=3) (N:=some 34) #[F_,aj,aj,aj,F_,F_,F_] aC ?_;refine qX (i:=0) (N:=some 31) (v:=?_) (a':=?_) #[aj,aj,aj,aj,F_,F_,F_] rfl rfl aC (fun _ _ _ h=>h) (Or.inl ⟨(by rfl),?_⟩) hH ?_ ?_;rotate_left
 ·intro w' s0;go_simp
  with_reducible rfl
 rotate_left
 ·simp only [fM,aV,aZ]
  rfl
 refine iy (i:=4) (N:=some 35) N_ rfl rfl aC (by decide) (fun K hK=>?_);refine jw func70 aC rfl #[.slice az am.length ap] (by rfl) rfl rfl bJ ?_
 with_reducible refine (Ai.calls _ _ am ao _ ?jW bb.out bz.out).mono ?_
 (case jW=>repeat (first|exact WX|(with_reducible refine Kd.kM ?_ _)|(with_reducible refine Kd.kR ?_ _)|(with_reducible refine Kd.kQ ?_)))
 rintro e ce ⟨rfl,hb⟩;refine ⟨_,rfl,?_⟩;obtain ⟨a6,a5,KA,HB⟩:=p_ (Kd.bG (aN a6) hb) <| p_ (aU (au a5) hb) <| p_ (Kd.qP WX hb) <| a_ (dV ay hb);(try clear hb)
 refine hK.out _ _ ((aQ a5.out 0).trans rfl) (fun hH=>?_);clear hK K;refine gY (some 35) ?_;refine iy (i:=5) (N:=some 36) Oa rfl rfl aC (by decide) (fun K hK=>?_);refine jw func17 aC rfl #[.agg #[.slice aK aI.length ai],.string ao] (by rfl) rfl rfl bJ ?_
 with_reducible refine (uy.calls _ _ aI ao a9 _ qp aT.out ca.out).mono ?_
 rintro e cf ⟨rfl,hb⟩;refine ⟨_,rfl,?_⟩;obtain ⟨a6,a5,KA,HB⟩:=p_ (Kd.bG (aN a6) hb) <| p_ (aU (au a5) hb) <| p_ (Kd.qP WX hb) <| a_ (dV ay hb);(try clear hb)
 refine hK.out _ _ ((aQ a5.out 0).trans rfl) (fun hH=>?_);clear hK K;refine gY (some 36) ?_;refine uF (i:=6) (N:=some 8) Ob aC ?_;refine jd aC ?_;go_upto_if 37 with (fail)
 obtain ⟨H⟩:=ba;revert H;refine fB (fun ag H=>?_) fun ag H=>?_
 ·try simp only [aV,aZ,ag]
  obtain rfl:=bQ H;go_wp2
  go_ret
  exact ⟨bK,ay⟩
 try simp only [aV,aZ,ag]
 obtain ⟨bs,H⟩:=gI H;obtain ⟨bv,H⟩:=gI H;have bc:=m_ H;clear H;have QM:=bZ a5.out;have b1:0≤(a9:Int):=aX aY;have b2:a9 < (aI.length:Int):=aX aY;obtain ⟨bw,bj,ab,ac,ae⟩:=jV lg.out a9 b1 b2;cases bj;replace ab:=fF HB.out ab;replace ac:=fF HB.out ac;replace ae:=fF HB.out ae;replace b1:=eq_true b1;replace b2:=eq_true b2;go_upto_if 40 with (fail)
 (try clear QM)
 (try clear ab ac ae)
 obtain ⟨H⟩:=bc;obtain ⟨Yf,TF⟩:∃ KN:Bool,KN=((aB aI a9).f1):=⟨_,rfl⟩;replace H:(if (Yf=true) then (qR.l0 k2 a7 (wrap64 (a8+1)) aI) else (some 4))=some r:=by rw [← TF] at H;exact H
 have ae5:=m_ TF;clear TF;(try rw [← ae5.out])
 by_cases bd:(Yf=true)
 rotate_left
 ·replace bd:=Bool.eq_false_iff.mpr bd;subst bd;rw [if_neg iF] at H;obtain rfl:=bQ H;go_wp2
  go_ret
  exact ⟨bK,ay⟩
 subst bd;rw [if_pos rfl] at H;have H':=m_ H;clear H;go_wp2
 go_roundg k2
 case measure=>have:=HJ2.out;have:=kS.out;omega
 case rel=>exact ⟨(wrap64 (a8+1)),bC,H',⟨(by have:=HJ2.out;have:=kS.out;omega)⟩,⟨(aN a6)⟩,⟨(au a5)⟩,⟨ay⟩⟩

theorem ql:Flat.xP aS lD:=⟨fun w base ok x=>qU w base ok x,fun w x cs h=>Mc h⟩
theorem afY (p:aF→Bool) (g:Nat) (lb:Array Value) (eg:∀ args w,(callFunc g args).run Tryz.prog w=.ok (.enter g args) w) (gb:Nat) (ob:Obj)
  (hp:∀ (x:aF) (W:World),W.heap[gb]?=some ob→Calls Tryz.prog g (#[.agg (lD x).toArray]++lb) W fun e w'=>e=.returned (.bool (p x))∧Below W.heap.size W w')
  (dA:Nat→Prop) (gX:Value) (l0:List aF) (w0 w:World) (hB:Below w0.heap.size w0 w) (ho0:Kd.R aS 43 w w0.heap.size dA gX l0) (hbig:l0.length≤9223372036854775807) (hcl:w.heap[gb]?=some ob) (hne:some gb≠gX.ownBlock) :
  Calls Tryz.prog 111 #[gX,.func (.func g) #[] lb] w fun e w'=>∃ fC:Value,e=.returned fC∧Kd.R aS 43 w' w0.heap.size (fun ak=>(dA ak∨w.heap.size≤ak)) fC (l0.filter fun y=>!p y)∧Below w0.heap.size w0 w'∧Kept w w' (fun ak=>dA ak):=by
 obtain ⟨A,c,rfl,hnc,hC⟩:=Kd.NQ ho0;have hIF:=Po p g lb eg A c l0 w hC hbig (fun W x hW=>(hp x W (aU hcl hW)).mono fun e w' hq=>⟨hq.1,hW.trans (hq.2.mono hW.size)⟩);have HB:=m_ hB;have HO:=m_ ho0;have tX:=underlying43;rcases Flat.abd p default l0 0 with ⟨e1,hall⟩|⟨a,b,c',hl,e1,hb,ha⟩
 ·have e2:Lib.idxBy (fun _ y=>p y) l0 default = -1:=e1;rw [e2] at hIF;rw [hall];clear e1 e2 hall hC ho0 hp hB hcl hne;go_enter func111,ntmps111
  go_wp2_with (go_at_call 60;refine hIF.mono ?_;rintro e w1 ⟨rfl,hb⟩)
  go_ret
  exact ⟨_,rfl,Kd.bF (Kd.bG HO.out hb) (fun _ h=>.inl h),dV HB.out hb,Kept.of_below hb _⟩
 ·have e2:Lib.idxBy (fun _ y=>p y) l0 default=((a.length:Nat):Int):=e1.trans (by rw [Nat.zero_add]);rw [e2] at hIF;have hpos:0 < l0.length:=by rw [hl];simp;omega
  have hst:=Flat.xJ.start (c:=c') hb ha;rw [← hl] at hst;obtain ⟨g0,cap,hv,hbg,hlt,cells,hh⟩:=Kd.xQ ho0 hpos
  injection hv with hv1 _ hv2
  subst hv1;subst hv2;have alx:gb≠g0:=fun e=>hne (by rw [e];rfl);have HST:=m_ hst;have Xz:=m_ hcl;have HP:=m_ hp;have XA:=m_ (ho0.1 g0 rfl);have hne1:(((a.length:Nat):Int) == -1)=false:=beq_eq_false_iff_ne.2 (by omega);have hal:a.length < l0.length:=by rw [hl];simp
  have HL:=m_ hal;clear e1 e2 hl hb ha hp hst hC hcl hB ho0 hh hne;go_enter func111,ntmps111
  go_wp2_with (go_at_call 60;refine hIF.mono ?_;rintro e w1 ⟨rfl,hb⟩)
  go_loopg [5,6,7] l0.length (fun gg s5 s6 _ wr=>∃ (i j:Nat) (l:List aF),s5=ah i∧s6=ah j∧l0.length - j≤gg∧aA (Flat.xJ p l0 i j l)∧aA (Kd.R aS 43 wr w0.heap.size (fun ak=>(dA ak∨w.heap.size≤ak)) (.slice (some ⟨g0,0,none⟩) l0.length c) l)∧aA (Below w0.heap.size w0 wr)∧aA (Kept w wr (fun ak=>dA ak))∧aA (wr.heap[gb]?=some ob))
  case atStart=>exact ⟨a.length,a.length+1,l0,rfl,(by have:=HL.out;go_num),(by omega),HST,⟨Kd.bF (Kd.bG HO.out hb) (fun _ h=>.inl h)⟩,⟨dV HB.out hb⟩,⟨Kept.of_below hb _⟩,⟨aU Xz.out hb⟩⟩
  case round =>
  obtain ⟨i,j,l,rfl,rfl,hgg,HI,HR,HB1,HK,QO⟩:=hrel;have hij:=HI.out.lt;have hjn:=HI.out.le;have hll:=HI.out.len;clear HST Xz HO HB;by_cases hjl:j < l0.length
  rotate_left
  ·have hjz:¬ ((j:Int) < (l0.length:Int)):=by omega
   have hje:j=l0.length:=by omega
   have hci:¬ (c=i):=by omega
   have hin:i≤l0.length:=by omega
   have hcl:∀ ty,(Builtin.clear_ #[26] ty #[.slice (some ⟨g0,i * 3,none⟩) (l0.length - i) (c - i)]).run Tryz.prog wr=.ok (.tuple #[]) (wr.setCells g0 (i * 3) ((List.replicate (l0.length - i) z43).flatMap lD)):=fun ty=>Flat.anC ql (by decide) HR.out 26 ty _ z43 rfl underlying26 Tryz.zeroValue43 i (l0.length - i) (c - i) (by omega) (by omega);go_wp2
   go_ret
   have hS:=Flat.XU ql HR.out i (List.replicate (l0.length - i) z43) (by rw [List.length_replicate];omega);have hT:=Kd.afd (m:=i) hS.1 (by simp [List.length_take,List.length_drop];omega);rw [List.append_assoc,List.take_left' (by simp [List.length_take];omega)] at hT;have hD:=HI.out;rw [hje] at hD;rw [hD.done] at hT;refine ⟨_,rfl,hT,ab8 HB1.out (some g0) HB1.out.size hS.2 (fun k hk=>?_),Kept.CQ hS.2 HK.out (fun k hk=>?_)⟩
   ·obtain rfl:=bQ hk;exact hbg
   ·obtain rfl:=bQ hk;exact .inl XA.out
  have hjz:(j:Int) < (l0.length:Int):=by omega
  have hx:=HI.out.at_ hjl (by omega);have hR:=HR.out;obtain ⟨x,hxe⟩:∃ x,x=l0[j]:=⟨_,rfl⟩;have aqo:wr.cell? ⟨g0,j * 3,none⟩=some (.string x.f0):=by rw [hxe,← hx];exact Flat.Dq ql hR j (by omega) 0 _ rfl
  have aqp:wr.cell? ⟨g0,j * 3+1,none⟩=some (.bool x.f1):=by rw [hxe,← hx];exact Flat.Dq ql hR j (by omega) 1 _ rfl
  have aqr:wr.cell? ⟨g0,j * 3+2,none⟩=some (.string x.f2):=by rw [hxe,← hx];exact Flat.Dq ql hR j (by omega) 2 _ rfl
  have hcall:∀ W',Below wr.heap.size wr W'→W'.heap[wr.heap.size]?=some (.cells #[.string x.f0,.bool x.f1,.string x.f2] 43)→Calls Tryz.prog g (#[.agg #[.string x.f0,.bool x.f1,.string x.f2]]++lb) W' fun e w'=>e=.returned (.bool (p x))∧Below wr.heap.size wr w'∧w'.heap[wr.heap.size]?=some (.cells #[.string x.f0,.bool x.f1,.string x.f2] 43):=fun W' hW hx=>(HP.out x W' (aU QO.out hW)).mono fun e w' hq=>⟨hq.1,RH hW hW.size hq.2,aU hx hq.2⟩;have Rj:=m_ hxe;clear hxe hx hR;cases hq:p x with
  | false =>
   rw [hq] at hcall;go_wp2_with (go_at_fn g;refine (hcall _ ?hbl ?hbx).mono ?_;(case hbl=>exact sK (Below.refl _ _) _);(case hbx=>exact heap_alloc_new ..);rintro e w1 ⟨rfl,hb1,hbx⟩;have hv0:w1.cell? ⟨wr.heap.size,0,none⟩=some (.string x.f0):=(aQ hbx 0).trans rfl;have hv1:w1.cell? ⟨wr.heap.size,1,none⟩=some (.bool x.f1):=(aQ hbx 1).trans rfl;have hv2:w1.cell? ⟨wr.heap.size,2,none⟩=some (.string x.f2):=(aQ hbx 2).trans rfl;have HR1:=m_ (Kd.bG HR.out hb1);have HB2:=m_ hb1;have hi0:=Flat.Dq ql HR1.out i (by omega) 0 _ rfl;have hi1:=Flat.Dq ql HR1.out i (by omega) 1 _ rfl;have hi2:=Flat.Dq ql HR1.out i (by omega) 2 _ rfl;have hf0:=Flat.Ru ql HR1.out (i * 3);have hf1:=Flat.Ru ql HR1.out (i * 3+1);have hf2:=Flat.Ru ql HR1.out (i * 3+2);clear hbx hb1;(try simp only [show aS.sz=3 from rfl,Nat.add_zero] at hi0 hi1 hi2))
   go_roundg (l0.length - (j+1))
   case measure=>omega
   case rel =>
   have hS:=Flat.XU ql HR1.out i [x] (by show i+1≤l.length;omega);refine ⟨i+1,j+1,l.take i++[x]++l.drop (i+1),(by go_num),(by go_num),(by omega),⟨?_⟩,⟨hS.1⟩,⟨ab8 (RH HB1.out HB1.out.size HB2.out) (some g0) (Nat.le_trans HB1.out.size HB2.out.size) hS.2 (fun k hk=>?_)⟩,⟨Kept.CQ hS.2 (Kept.below HK.out HB2.out) (fun k hk=>?_)⟩,⟨iT (aU QO.out HB2.out) hS.2 (fun e=>alx (bQ e))⟩⟩
   ·rw [Rj.out];exact HI.out.keep hjl (by rw [← Rj.out];exact hq)
   ·obtain rfl:=bQ hk;exact hbg
   ·obtain rfl:=bQ hk;exact .inl XA.out
  | true =>
   rw [hq] at hcall;go_wp2_with (go_at_fn g;refine (hcall _ ?hbl ?hbx).mono ?_;(case hbl=>exact sK (Below.refl _ _) _);(case hbx=>exact heap_alloc_new ..);rintro e w1 ⟨rfl,hb1,hbx⟩;have HB2:=m_ hb1;clear hbx hb1)
   go_roundg (l0.length - (j+1))
   case measure=>omega
   case rel=>exact ⟨i,j+1,l,rfl,(by go_num),(by omega),⟨HI.out.skip hjl (by rw [← Rj.out];exact hq)⟩,⟨Kd.bG HR.out HB2.out⟩,⟨dV HB1.out HB2.out⟩,⟨Kept.below HK.out HB2.out⟩,⟨aU QO.out HB2.out⟩⟩
def JR.f (l0:List aF) (rQ:ByteArray):Option (List aF):=if l0.length≤9223372036854775807 then some (l0.filter fun y=>!BR.p rQ y) else none
theorem JR.calls (dA:Nat→Prop) (gX:Value) (l0:List aF) (a6:Nat) (a5:ByteArray) (r:List aF) (w0 w:World) (hB:Below w0.heap.size w0 w) (ho0:Kd.R aS 43 w w0.heap.size dA gX l0) (a7:w.heap[a6]?=some (.cells #[.string a5] 9)) (h:JR.f l0 a5=some r) :
  Calls Tryz.prog 111 #[gX,.func (.func 112) #[] #[.pointer (some ⟨a6,0,none⟩)]] w fun e w'=>∃ fC:Value,e=.returned fC∧Kd.R aS 43 w' w0.heap.size (fun ak=>(dA ak∨w.heap.size≤ak)) fC r∧Below w0.heap.size w0 w'∧Kept w w' (fun ak=>dA ak):=by
 unfold JR.f at h
 split at h
 case isFalse=>cases h
 case isTrue hl =>
 obtain rfl:=bQ h;exact afY (fun y=>BR.p a5 y) 112 #[.pointer (some ⟨a6,0,none⟩)] (fun args W=>ER func112 rfl rfl args W) a6 (.cells #[.string a5] 9) (fun x W hx=>BR x a6 a5 W hx) dA gX l0 w0 w hB ho0 hl a7 (Kd.fD ho0 a7 (by decide))

def u_.f (a5:List (aF)) (a1:ByteArray):Option ((List (aF))):=(BI.f a5).bind fun a6=>((JR.f a6 a1).bind fun a7=>(some a7))
theorem u_.calls (aK:Option Addr) (ai:Nat) (aI:List (aF)) (a1:ByteArray) (r:List (aF)) (w:World) (aH:Kd.C aS w aK aI.length aI) (aO:aI.length≤ai) (h:u_.f aI a1=some r) :
  Calls Tryz.prog 64 #[.agg #[.slice aK aI.length ai],.string a1] w fun e w'=>∃ fC:Value,e=.returned (.agg #[fC])∧Kd.R aS 43 w' w.heap.size (fun _=>True) fC r∧Below w.heap.size w w':=by
 have nT:=underlying28;have lg:=m_ aH;have ap:=m_ aO;clear aH aO;have HB:=m_ (Below.refl w.heap.size w);unfold u_.f at h
 have H:=h;clear h;obtain ⟨ag,A3,H⟩:=bd_ H;obtain ⟨aq,A4,H⟩:=bd_ H;obtain rfl:=bQ H;go_enter func64,ntmps64
 go_wp2_with (first|((with_reducible refine dJ 2 ?_);refine dO 2 (cs:=#[.slice aK aI.length ai]) 28 ?_;intro b5 hg w5 hbox hb;obtain ⟨HB,a5,b6,ar⟩:=jR ay hb hbox hg;clear hb hbox hg)|((with_reducible refine dJ 3 ?_);refine dO 3 (cs:=#[.string a1]) 9 ?_;intro al hg w6 hbox hb;obtain ⟨a5,HB,a6,b7,aT,a9,aa⟩:=oO (au a5) ay hb hbox hg;clear hb hbox hg)|((with_reducible refine dJ 4 ?_);refine dO 4 (cs:=#[.slice none 0 0]) 28 ?_;intro av hg w7 hbox hb;obtain ⟨a5,a6,HB,a7,b8,aw,ab,ac,ae,af⟩:=rP (au a5) (au a6) ay hb hbox hg;clear hb hbox hg;obtain ⟨ax,bD,b9,ba⟩:=iD a9 aa ab ac;have Xn:=bZ a5.out)|((with_reducible refine cu 94 ?_);refine cO (some 7) rfl rfl func94 aC rfl #[.slice aK aI.length ai] rfl bJ ?_;(with_reducible refine (BI.calls _ _ aI ag _ qp ap.out A3.out).mono ?_);rintro e bb ⟨v145,rfl,ho0,hb⟩;refine ⟨_,rfl,?_⟩;obtain ⟨a8,a5,a6,a7,HB⟩:=p_ (Kd.dR ho0 (bU ay)) <| mP (au a5) (au a6) (au a7) ay hb;(try clear hb);(try clear ho0);obtain ⟨an,ao,b1⟩:=Kd.dN a8.out;subst b1)|((with_reducible refine cu 111 ?_);refine cO (some 9) rfl rfl func111 aC rfl #[.slice an ag.length ao,.func (.func 112) #[] #[.pointer (some ⟨al,0,none⟩)]] rfl bJ ?_;(with_reducible refine (JR.calls (fun ak=>some ak=(.slice an ag.length ao:Value).ownBlock) (.slice an ag.length ao) ag al a1 aq w _ ?jW (Kd.rH rfl a8.out) ?rV A4.out).mono ?_);(case jW=>repeat (first|(with_reducible first|exact HB.out|apply sK|apply xB|apply nZ|refine jy ?_ ar.out|refine jy ?_ aT.out|refine jy ?_ aw.out)|exact HB.out));(case rV=>(with_reducible repeat (first|refine fO ?_ _|refine dQ ?_|refine eP ?_ _));exact a6.out);rintro e bc ⟨v148,rfl,ho0,hb,hkp⟩;refine ⟨_,rfl,?_⟩;obtain ⟨a5,a6,a7,am,HB⟩:=p_ (mO (au a5) hkp (fun hs_=>(fun e_=>(Kd.fD a8.out a5.out (by decide)) e_) hs_)) <| p_ (mO (au a6) hkp (fun hs_=>(fun e_=>(Kd.fD a8.out a6.out (by decide)) e_) hs_)) <| p_ (mO (au a7) hkp (fun hs_=>(fun e_=>(Kd.fD a8.out a7.out (by decide)) e_) hs_)) <| p_ (Kd.bF (ok':=fun ak=>True) ho0 (fun ak gQ=>trivial)) <| a_ (hb);(try clear hb);(try clear hkp);(try clear ho0);obtain ⟨b2,b3,b4⟩:=Kd.dN am.out;subst b4;obtain ⟨az,b0⟩:=gy af ae;have QI:=bZ a7.out))
 refine bodyPost_ret (results_cell_row rfl _ _ av 28 #[.slice b2 aq.length b3] (0,0) _ rfl bf underlying28 rfl aC) rfl ?_;exact ⟨_,bK,(by (with_reducible repeat (first|apply Kd.bW|apply Kd.bY|apply Kd.bH));exact Kd.bF (aJ (Kd.bV am.out a7.out (by decide))) (fun _ hk=>trivial)),ay⟩

theorem al9 (dA:Nat→Prop) (gX:Value) (l0:List aF) (qQ:Nat→Prop) (vb vc:Nat) (y:aF) (w0 w:World) (hB:Below w0.heap.size w0 w) (ho0:Kd.R aS 43 w w0.heap.size dA gX l0) (ho2:Kd.R aS 43 w w0.heap.size qQ (.slice (some ⟨vb,0,none⟩) 1 vc) [y]) (hbig:(l0.length+1) * 40≤140737488355328) :
  Calls Tryz.prog 66 #[gX,ah l0.length,.slice (some ⟨vb,0,none⟩) 1 vc] w fun e w'=>∃ fC:Value,e=.returned fC∧Kd.R aS 43 w' w0.heap.size (fun ak=>((dA ak∨qQ ak)∨w.heap.size≤ak)) fC (l0++[y])∧Below w0.heap.size w0 w'∧Kept w w' (fun ak=>dA ak∨qQ ak):=by
 have XI:=m_ (Kd.dn ho2).2.2;have HO:=m_ (Kd.bF (ok':=fun ak=>((dA ak∨qQ ak)∨w.heap.size≤ak)) ho0 (fun k h=>.inl (.inl h)));have HG:=m_ ho0.1;have HB:=m_ hB;have HL:=m_ hbig;rcases Flat.XV ho0 with ⟨rfl,hn⟩|⟨g,c,rfl,hnc,hcm⟩
 ·obtain rfl:=List.eq_nil_of_length_eq_zero hn;clear ho0 ho2 hB hbig hn;go_enter func66,ntmps66
  go_wp2_with ((with_reducible refine zu (b:=.append) (xs:=#[.tmp 23,.tmp 24]) rfl ?_);at_builtin;refine Kd.GK aS (w0:=w0) w0.heap.size rfl (.tmp 23) (.tmp 24) 26 43 (.agg #[(.string ⟨#[]⟩),(.bool false),(.string ⟨#[]⟩)]) 40 rfl underlying26 q_ rfl (by decide) (by omega) _ [] [y] _ _ _ _ (fun _=>False) rfl rfl HO.out XI.out ?aM (fun _ h=>h.elim) (fun k h=>.inr h) HB.out HB.out.size HL.out ?_;(case aM=>intro x cs h;have h:=Mc h;subst h;exact qU _ _ _ x);intro v1 w1 hR hB1 hg hat)
  go_ret
  exact ⟨_,rfl,hR,hB1,Kept.CQ hg (Kept.refl _ _) (fun k hk=>.inl (.inl (HG.out k hk)))⟩
 ·clear ho0 ho2 hB hbig;go_enter func66,ntmps66
  go_wp2_with ((with_reducible refine zu (b:=.append) (xs:=#[.tmp 23,.tmp 24]) rfl ?_);at_builtin;refine Kd.GK aS (w0:=w0) w0.heap.size rfl (.tmp 23) (.tmp 24) 26 43 (.agg #[(.string ⟨#[]⟩),(.bool false),(.string ⟨#[]⟩)]) 40 rfl underlying26 q_ rfl (by decide) (by omega) _ l0 [y] _ _ _ _ (fun _=>False) rfl rfl HO.out XI.out ?aM (fun _ h=>h.elim) (fun k h=>.inr h) HB.out HB.out.size HL.out ?_;(case aM=>intro x cs h;have h:=Mc h;subst h;exact qU _ _ _ x);intro v1 w1 hR hB1 hg hat)
  all_goals (go_ret;exact ⟨_,rfl,hR,hB1,Kept.CQ hg (Kept.refl _ _) (fun k hk=>.inl (.inl (HG.out k hk)))⟩)
theorem al' (g c i vb vc n:Nat) (l0:List aF) (y:aF) (w0 w:World) (dA qQ:Nat→Prop) (hn:l0.length=n) (hi:i < n) (hroom:n+1≤c) (hvb:vb≠g) (hB:Below w0.heap.size w0 w) (ho0:Kd.R aS 43 w w0.heap.size dA (.slice (some ⟨g,0,none⟩) n c) l0) (ho2:Kd.R aS 43 w w0.heap.size qQ (.slice (some ⟨vb,0,none⟩) 1 vc) [y]) :
  Calls Tryz.prog 66 #[.slice (some ⟨g,0,none⟩) n c,ah i,.slice (some ⟨vb,0,none⟩) 1 vc] w fun e w'=>∃ fC:Value,e=.returned fC∧Kd.R aS 43 w' w0.heap.size (fun ak=>((dA ak∨qQ ak)∨w.heap.size≤ak)) fC (l0.take i++[y]++l0.drop i)∧Below w0.heap.size w0 w'∧Kept w w' (fun ak=>dA ak∨qQ ak):=by
 obtain ⟨hbg,hok,_,hnc,hcm,cur,hh,hcs,ht⟩:=Flat.KH ql ho0;obtain ⟨hbv,_,_,alV,alW,BN,Cb,VI,hvt⟩:=Flat.KH ql ho2
 change cur.size=c * 3 at hcs
 change BN.size=vc * 3 at VI
 change cur.toList.take (n * 3)=_ at ht
 change BN.toList.take (1 * 3)=lD y++[] at hvt
 rw [List.append_nil] at hvt;have hc63:c≤9223372036854775807:=by simp only [maxLen] at hcm;omega
 have mixed:Tryz.prog.follows .mixedOrders=true:=by kernel_rfl
 have hsz:(Tryz.prog.info? 43).map (·.size)=some 3:=by
  obtain ⟨i0,hi0,h0,h1,h2⟩:=info_parts q_;rw [hi0];simp [h1]
 have hYl:(lD y).length=3:=rfl;have hDl:((l0.drop i).flatMap lD).length=(n - i) * 3:=by rw [Flat.Ae ql.len,List.length_drop,hn];rfl
 have hDe:=Flat.Zg (enc:=lD) (sz:=3) ql.len l0 i (by omega);have hone:∀ (xs:List aF),∀ v ∈ xs.flatMap lD,v.oneCell'=true:=fun xs v hv=>by
  obtain ⟨x,_,hx⟩:=List.mem_flatMap.1 hv;exact ql.one x v hx
 have hcell:∀ (W:World),W.heap[g]?=some (.cells cur 43 (0,0))→∀ j v,((l0.drop i).flatMap lD)[j]?=some v→W.cell? ((⟨g,i * 3,none⟩:Addr).add j)=some v:=fun W hW j v hj=>by
  rw [Addr.add_lit,aQ hW,← Array.getElem?_toList];rw [hDe,← ht,List.getElem?_drop,List.getElem?_take] at hj
  split at hj
  ·exact hj
  ·cases hj
 have hsome:∀ j,j < c * 3→(w.cell? ⟨g,j,none⟩).isSome=true:=fun j hj=>by
  rw [aQ hh];simp;omega
 have hfz:∀ j,w.frozen? ⟨g,j,none⟩=false:=fun j=>cZ hh j;have LW:∀ (W:World),W.heap[vb]?=some (.cells BN 43 (0,0))→∀ j v,(lD y)[j]?=some v→W.cell? ((⟨vb,0,none⟩:Addr).add j)=some v:=fun W hW j v hj=>by
  rw [Addr.add_lit,Nat.zero_add,aQ hW,← Array.getElem?_toList];rw [← hvt,List.getElem?_take] at hj
  split at hj
  ·exact hj
  ·cases hj
 have hov:∀ lb cb,(callFunc 113 #[.slice (some ⟨vb,0,none⟩) 1 vc,.slice (some ⟨g,(i+1) * 3,none⟩) lb cb]).run Tryz.prog w=.ok (.value (.bool false)) w:=fun lb cb=>by
  rw [run_callFunc_extern func113 aC aC aC (e:=Extern.SlicesOverlaps.overlaps #[26,26] #[4]) aC,
   Lib.run_overlaps_apart w 26 4 43 underlying26 3 Tryz.sizeOf43 ⟨vb,0,none⟩ ⟨g,(i+1) * 3,none⟩ 1 vc lb cb hvb 43 43 BN.size cur.size (by simp [World.shape?,Cb]) (by simp [World.shape?,hh]) (by omega) (cZ Cb _) (cZ Cb _)]
  rfl
 have hz1:¬ ((1:Int)=0):=by omega
 have hz2:¬ ((i:Int)=(n:Int)):=by omega
 have hw1:IntKind.i64.wrap ((i:Int)+(1:Int))=(i:Int)+(1:Int):=by rw [IntKind.wrap_i64];omega
 have hw2:IntKind.i64.wrap ((n:Int)+(1:Int))=(n:Int)+(1:Int):=by rw [IntKind.wrap_i64];omega
 have hb1:(0:Int)≤(i:Int)+(1:Int):=by omega
 have hin:i≤n:=by omega
 have htn:((i:Int)+(1:Int)).toNat=i+1:=by omega
 have hb2:¬ (c=i+1):=by omega
 have hb3:(i:Int)≤(n:Int)+(1:Int):=by omega
 have hb4:¬ (c=i):=by omega
 have hcp1:∀ ty dc sc,(Builtin.copy_ #[26,26] ty #[.slice (some ⟨g,(i+1) * 3,none⟩) (n - i) dc,.slice (some ⟨g,i * 3,none⟩) (n+1 - i) sc]).run Tryz.prog w.drew=.ok (goInt ((n - i:Nat):Int)) (w.drew.setCells g ((i+1) * 3) ((l0.drop i).flatMap lD)):=fun ty dc sc =>
  Flat.Qa w.drew 26 26 ty 43 g ((i+1) * 3) (n - i) dc ⟨g,i * 3,none⟩ (n+1 - i) sc 3 (n - i) _ underlying26 hsz (by simp only [Nat.min_def];split <;> omega) hDl
   (hcell w.drew hh) (fun j hj=>hsome _ (by omega)) (fun j hj=>hfz _) (hone _)
 obtain ⟨W1,hW1⟩:∃ W1,W1=w.drew.setCells g ((i+1) * 3) ((l0.drop i).flatMap lD):=⟨_,rfl⟩;obtain ⟨KY,h1,s1,_⟩:=CV ((l0.drop i).flatMap lD) ((i+1) * 3) w.drew cur hh (by rw [hDl];omega);rw [← hW1] at h1;have hv1:W1.heap[vb]?=some (.cells BN 43 (0,0)):=by rw [hW1,FX _ _ _ hvb];exact Cb
 have hcp2:∀ (W:World),(∀ x,W.cell? x=W1.cell? x)→(∀ x,W.frozen? x=W1.frozen? x)→∀ ty dc,(Builtin.copy_ #[26,26] ty #[.slice (some ⟨g,i * 3,none⟩) (n+1 - i) dc,.slice (some ⟨vb,0,none⟩) 1 vc]).run Tryz.prog W=.ok (goInt ((1:Nat):Int)) (W.setCells g (i * 3) (lD y)):=fun W hWc hWf ty dc =>
  Flat.Qa W 26 26 ty 43 g (i * 3) (n+1 - i) dc ⟨vb,0,none⟩ 1 vc 3 1 _ underlying26 hsz (by simp only [Nat.min_def];split <;> omega) hYl
   (fun j v hj=>by rw [hWc];exact LW W1 hv1 j v hj) (fun j hj=>by rw [hWc,aQ h1];rw [hYl] at hj;simp;omega) (fun j hj=>by rw [hWf];exact cZ h1 _) (ql.one y)
 have HI:=m_ (Flat.amd ql hn (W:=w.drew) hh hcs ht i (by omega) hroom y);have HW:=m_ hW1;have HH:=m_ (And.intro hB (And.intro hbg (And.intro hok (And.intro hcm hn))));rw [← hW1] at hcp1;clear hh Cb ht hvt hcell LW hsome hfz ho0 ho2 hone hDe h1 hv1 hW1 hsz hB;go_enter func66,ntmps66
 go_wp2_with (simp only [hov])
 go_region_law_o (refine step_copy_runI rfl _ _ 26 26 rfl _ _ (by simp [Act.eval,Act.put]) (by simp [Act.eval,Act.put]) (hcp1 _ _ _) ?_)
 go_wp2_with (at_builtin;refine wpList_copy_runI _ rfl _ _ 26 26 rfl _ _ rfl rfl (hcp2 _ (fun _=>rfl) (fun _=>rfl) _ _) ?_)
 go_ret
 obtain ⟨yF,h2,s2,t2⟩:=HI.out;obtain ⟨hB,hbg,hok,hcm,hn⟩:=HH.out;rw [HW.out];refine ⟨_,rfl,Flat.XZ ql hbg (.inl (.inl hok)) (by simp [List.length_take,List.length_drop];omega) hroom hcm h2 s2 t2,?_,?_⟩
 ·exact Flat.NZ (Flat.NZ hB.drew hbg _ _) hbg _ _
 ·exact Flat.PE (Flat.PE (Kept.drew (Kept.refl _ _)) (.inl (.inl hok)) _ _) (.inl (.inl hok)) _ _
theorem al_ (g c i vb vc n:Nat) (l0:List aF) (y:aF) (w0 w:World) (dA qQ:Nat→Prop) (hn:l0.length=n) (hi:i < n) (hroom:c < n+1) (hbig:(n+1) * 40≤140737488355328) (hB:Below w0.heap.size w0 w) (ho0:Kd.R aS 43 w w0.heap.size dA (.slice (some ⟨g,0,none⟩) n c) l0) (ho2:Kd.R aS 43 w w0.heap.size qQ (.slice (some ⟨vb,0,none⟩) 1 vc) [y]) :
  Calls Tryz.prog 66 #[.slice (some ⟨g,0,none⟩) n c,ah i,.slice (some ⟨vb,0,none⟩) 1 vc] w fun e w'=>∃ fC:Value,e=.returned fC∧Kd.R aS 43 w' w0.heap.size (fun ak=>((dA ak∨qQ ak)∨w.heap.size≤ak)) fC (l0.take i++[y]++l0.drop i)∧Below w0.heap.size w0 w'∧Kept w w' (fun ak=>dA ak∨qQ ak):=by
 obtain ⟨hbg,hok,_,hnc,hcm,cur,hh,hcs,ht⟩:=Flat.KH ql ho0;obtain ⟨hbv,_,_,alV,alW,BN,Cb,VI,hvt⟩:=Flat.KH ql ho2
 change cur.size=c * 3 at hcs
 change BN.size=vc * 3 at VI
 change cur.toList.take (n * 3)=_ at ht
 change BN.toList.take (1 * 3)=lD y++[] at hvt
 rw [List.append_nil] at hvt;have hc63:c≤9223372036854775807:=by simp only [maxLen] at hcm;omega
 have mixed:Tryz.prog.follows .mixedOrders=true:=by kernel_rfl
 obtain ⟨i0,hi0,hz0,hzs,hzb⟩:=info_parts q_;have hsz:(Tryz.prog.info? 43).map (·.size)=some 3:=by rw [hi0];simp [hzs]
 have hYl:(lD y).length=3:=rfl;have hDl:((l0.drop i).flatMap lD).length=(n - i) * 3:=by rw [Flat.Ae ql.len,List.length_drop,hn];rfl
 have hDe:=Flat.Zg (enc:=lD) (sz:=3) ql.len l0 i (by omega);have hTe:=Flat.Zh (enc:=lD) (sz:=3) ql.len l0 i (by omega);have hTl:((l0.take i).flatMap lD).length=i * 3:=by rw [Flat.Ae ql.len,List.length_take,hn,Nat.min_eq_left (by omega)];rfl
 have hone:∀ (xs:List aF),∀ v ∈ xs.flatMap lD,v.oneCell'=true:=fun xs v hv=>by
  obtain ⟨x,_,hx⟩:=List.mem_flatMap.1 hv;exact ql.one x v hx
 have hcell:∀ (W:World),W.heap[g]?=some (.cells cur 43 (0,0))→∀ j v,((l0.drop i).flatMap lD)[j]?=some v→W.cell? ((⟨g,i * 3,none⟩:Addr).add j)=some v:=fun W hW j v hj=>by
  rw [Addr.add_lit,aQ hW,← Array.getElem?_toList];rw [hDe,← ht,List.getElem?_drop,List.getElem?_take] at hj
  split at hj
  ·exact hj
  ·cases hj
 have hcellT:∀ j v,((l0.take i).flatMap lD)[j]?=some v→w.cell? ((⟨g,0,none⟩:Addr).add j)=some v:=fun j v hj=>by
  rw [Addr.add_lit,Nat.zero_add,aQ hh,← Array.getElem?_toList];rw [hTe,← ht,List.getElem?_take] at hj
  split at hj
  ·rw [List.getElem?_take] at hj
   split at hj
   ·exact hj
   ·cases hj
  ·cases hj
 have LW:∀ (W:World),W.heap[vb]?=some (.cells BN 43 (0,0))→∀ j v,(lD y)[j]?=some v→W.cell? ((⟨vb,0,none⟩:Addr).add j)=some v:=fun W hW j v hj=>by
  rw [Addr.add_lit,Nat.zero_add,aQ hW,← Array.getElem?_toList];rw [← hvt,List.getElem?_take] at hj
  split at hj
  ·exact hj
  ·cases hj
 have hbw:g < w.heap.size:=jT hh;have hvw:vb < w.heap.size:=jT Cb;have hkk:(n:Int)+(1:Int) - (i:Int)=((n+1 - i:Nat):Int):=by omega
 have hik:i+(n+1 - i)=n+1:=by omega
 have hold:(Builtin.firstCells i0.size i (.slice (some ⟨g,0,none⟩) i c)).run Tryz.prog w.drew=.ok ((l0.take i).flatMap lD).toArray w.drew:=by
  rw [hzs];exact run_firstCells_some w.drew 3 i ⟨g,0,none⟩ i c _ hTl (fun j v hj=>hcellT j v hj)
 have hrz:∀ ty,(Builtin.append_ #[26,3] ty #[.slice (some ⟨g,0,none⟩) i c,ah ((n:Int)+(1:Int) - (i:Int))]).run Tryz.prog w =
   .ok (.slice (some ⟨w.heap.size,0,none⟩) (n+1) (grownCap w (n+1) c 43)) (w.drew.alloc (.cells (((l0.take i).flatMap lD).toArray++Builtin.zeroCells ((.agg #[(.string ⟨#[]⟩),(.bool false),(.string ⟨#[]⟩)]):Value).cells (n+1 - i)++Builtin.zeroCells ((.agg #[(.string ⟨#[]⟩),(.bool false),(.string ⟨#[]⟩)]):Value).cells (grownCap w (n+1) c 43 - (n+1))) 43)):=fun ty=>by
  have h:=Lib.run_append_grow_zeros w 26 3 ty 43 i0 _ .i64 .i64 underlying26 underlying3 hi0 hz0 (some ⟨g,0,none⟩) i c _ hold (n+1 - i) (by omega) (by omega) (by omega) (by omega) (by rw [hzb];omega) (by rw [hzb,hik];exact growslice_fits hroom hbig);rw [hik] at h;rw [hkk];exact h
 obtain ⟨G,hG⟩:∃ G,G=grownCap w (n+1) c 43:=⟨_,rfl⟩;obtain ⟨ROW,hROW⟩:∃ ROW:Array Value,ROW=((l0.take i).flatMap lD).toArray++Builtin.zeroCells ((.agg #[(.string ⟨#[]⟩),(.bool false),(.string ⟨#[]⟩)]):Value).cells (n+1 - i)++Builtin.zeroCells ((.agg #[(.string ⟨#[]⟩),(.bool false),(.string ⟨#[]⟩)]):Value).cells (G - (n+1)):=⟨_,rfl⟩;rw [← hG] at hrz;rw [← hROW] at hrz;have hGn:n+1≤G:=by rw [hG];exact grownCap_ge w _ _ _
 have Ox:G≤maxLen:=by rw [hG];exact grownCap_le_maxLen w (n+1) c 43 (by unfold maxLen;omega)
 have hG63:G≤9223372036854775807:=by unfold maxLen at Ox;omega
 have hRs:ROW.size=G * 3:=by
  rw [hROW];simp [Builtin.zeroCells,Value.cells,hTl]
  omega
 have Zt:ROW.toList.take (i * 3)=(l0.take i).flatMap lD:=by
  rw [hROW];simp only [Array.toList_append,List.append_assoc]
  rw [List.take_left' (by rw [← hTl])]
 obtain ⟨W1,hW1⟩:∃ W1,W1=w.drew.alloc (.cells ROW 43):=⟨_,rfl⟩;rw [← hW1] at hrz;have hN:W1.heap[w.heap.size]?=some (.cells ROW 43 (0,0)):=by rw [hW1];exact heap_alloc_new w.drew _
 have Zr:W1.heap[g]?=some (.cells cur 43 (0,0)):=by rw [hW1];exact eP (w:=w.drew) hh _
 have hOv:W1.heap[vb]?=some (.cells BN 43 (0,0)):=by rw [hW1];exact eP (w:=w.drew) Cb _
 have hcpA:∀ (W:World),(∀ x,W.cell? x=W1.cell? x)→(∀ x,W.frozen? x=W1.frozen? x)→∀ ty dc,(Builtin.copy_ #[26,26] ty #[.slice (some ⟨w.heap.size,i * 3,none⟩) (n+1 - i) dc,.slice (some ⟨vb,0,none⟩) 1 vc]).run Tryz.prog W=.ok (goInt ((1:Nat):Int)) (W.setCells w.heap.size (i * 3) (lD y)):=fun W hWc hWf ty dc =>
  Flat.Qa W 26 26 ty 43 w.heap.size (i * 3) (n+1 - i) dc ⟨vb,0,none⟩ 1 vc 3 1 _ underlying26 hsz (by simp only [Nat.min_def];split <;> omega) hYl
   (fun j v hj=>by rw [hWc];exact LW W1 hOv j v hj) (fun j hj=>by rw [hWc,aQ hN];rw [hYl] at hj;simp;omega) (fun j hj=>by rw [hWf];exact cZ hN _) (ql.one y)
 obtain ⟨KY,h1,s1,_⟩:=CV (lD y) (i * 3) W1 ROW hN (by rw [hYl];omega);have hbN:g≠w.heap.size:=by omega
 have Zq:(W1.setCells w.heap.size (i * 3) (lD y)).heap[g]?=some (.cells cur 43 (0,0)):=by rw [FX _ _ _ hbN];exact Zr
 have hcpB:∀ (W:World),(∀ x,W.cell? x=(W1.setCells w.heap.size (i * 3) (lD y)).cell? x)→(∀ x,W.frozen? x=(W1.setCells w.heap.size (i * 3) (lD y)).frozen? x)→∀ ty dc sc,(Builtin.copy_ #[26,26] ty #[.slice (some ⟨w.heap.size,(i+1) * 3,none⟩) (n - i) dc,.slice (some ⟨g,i * 3,none⟩) (n - i) sc]).run Tryz.prog W=.ok (goInt ((n - i:Nat):Int)) (W.setCells w.heap.size ((i+1) * 3) ((l0.drop i).flatMap lD)):=fun W hWc hWf ty dc sc =>
  Flat.Qa W 26 26 ty 43 w.heap.size ((i+1) * 3) (n - i) dc ⟨g,i * 3,none⟩ (n - i) sc 3 (n - i) _ underlying26 hsz (by simp only [Nat.min_def];split <;> omega) hDl
   (fun j v hj=>by rw [hWc];exact hcell _ Zq j v hj) (fun j hj=>by rw [hWc,aQ h1];rw [hDl] at hj;simp;omega) (fun j hj=>by rw [hWf];exact cZ h1 _) (hone _)
 have HI:=m_ (Flat.amc ql hn (W:=W1) hN hRs i (by omega) Zt hGn y);have hGi:¬ (G=i):=by omega
 have hGim:¬ (G=i+1):=by omega
 have hci:¬ (c=i):=by omega
 subst hW1;have hE1:∀ x,((w.alloc (.cells ROW 43)).drew).cell? x=(w.drew.alloc (.cells ROW 43)).cell? x:=fun x=>rfl;have hE2:∀ x,((w.alloc (.cells ROW 43)).drew).frozen? x=(w.drew.alloc (.cells ROW 43)).frozen? x:=fun x=>rfl;have hF1:∀ x,(((w.alloc (.cells ROW 43)).drew.setCells w.heap.size (i * 3) (lD y)).drew).cell? x=((w.drew.alloc (.cells ROW 43)).setCells w.heap.size (i * 3) (lD y)).cell? x:=fun x=>rfl;have hF2:∀ x,(((w.alloc (.cells ROW 43)).drew.setCells w.heap.size (i * 3) (lD y)).drew).frozen? x=((w.drew.alloc (.cells ROW 43)).setCells w.heap.size (i * 3) (lD y)).frozen? x:=fun x=>rfl;have hz1:¬ ((1:Int)=0):=by omega
 have hz2:¬ ((i:Int)=(n:Int)):=by omega
 have hz3:(c:Int) < (n:Int)+(1:Int):=by omega
 have hw1:IntKind.i64.wrap ((i:Int)+(1:Int))=(i:Int)+(1:Int):=by rw [IntKind.wrap_i64];omega
 have hw2:IntKind.i64.wrap ((n:Int)+(1:Int))=(n:Int)+(1:Int):=by rw [IntKind.wrap_i64];omega
 have hb1:(0:Int)≤(i:Int)+(1:Int):=by omega
 have hin:i≤n:=by omega
 have htn:((i:Int)+(1:Int)).toNat=i+1:=by omega
 have hb3:(i:Int)≤(n:Int):=by omega
 have HH:=m_ (And.intro hB (And.intro Ox hn));clear hkk hik hold hROW hG Zt hRs hN Zr hOv h1 Zq s1 hcell hcellT LW hone hDe hTe hTl hh Cb ht hvt hsz ho0 ho2 hB;go_enter func66,ntmps66
 go_wp2_with (first
  | (at_builtin;refine Lib.wpList_append_run _ rfl _ _ _ _ rfl _ _ rfl rfl _ _ (hrz _) ?_)
  | (at_builtin;refine wpList_copy_runI _ rfl _ _ 26 26 rfl _ _ rfl rfl (hcpA _ hE1 hE2 _ _) ?_)
  | (at_builtin;refine wpList_copy_runI _ rfl _ _ 26 26 rfl _ _ rfl rfl (hcpB _ (fun _=>rfl) (fun _=>rfl) _ _ _) ?_))
 go_region_law_o (refine step_copy_runI rfl _ _ 26 26 rfl (.slice (some ⟨w.heap.size,(i+1) * 3,none⟩) (n - i) (G - (i+1))) (.slice (some ⟨g,i * 3,none⟩) (n - i) (c - i)) (by simp [Act.eval,Act.put]) (by simp [Act.eval,Act.put]) (hcpB _ hF1 hF2 3 (G - (i+1)) (c - i)) ?_)
 go_wp2
 go_ret
 obtain ⟨yF,h2,s2,t2⟩:=HI.out;obtain ⟨hB,Ox,hn⟩:=HH.out;have hE:((w.alloc (.cells ROW 43)).drew.setCells w.heap.size (i * 3) (lD y)).drew.setCells w.heap.size ((i+1) * 3) ((l0.drop i).flatMap lD)=(((w.drew.alloc (.cells ROW 43)).setCells w.heap.size (i * 3) (lD y)).setCells w.heap.size ((i+1) * 3) ((l0.drop i).flatMap lD)).drew:=(drew_setCells _ _ _ _).symm;rw [hE];refine ⟨_,rfl,Kd.bH (Flat.XZ ql hB.size (.inr (Nat.le_refl _)) (by simp [List.length_take,List.length_drop];omega) (by omega) Ox h2 s2 t2),?_,?_⟩
 ·exact (Flat.NZ (Flat.NZ (hB.drew.alloc hB.size _) hB.size _ _) hB.size _ _).drew
 ·exact Kept.drew (Flat.PE (Flat.PE (Kept.alloc (Kept.drew (Kept.refl _ _)) _) (.inr (Nat.le_refl _)) _ _) (.inr (Nat.le_refl _)) _ _)
theorem al8 (dA:Nat→Prop) (gX:Value) (l0:List aF) (i:Nat) (qQ:Nat→Prop) (Gi:Value) (y:aF) (w0 w:World) (hB:Below w0.heap.size w0 w) (ho0:Kd.R aS 43 w w0.heap.size dA gX l0) (Vx:∀ ak,dA ak→¬ qQ ak) (ho2:Kd.R aS 43 w w0.heap.size qQ Gi [y]) (hi:i≤l0.length) (hbig:(l0.length+1) * 40≤140737488355328) :
  Calls Tryz.prog 66 #[gX,ah i,Gi] w fun e w'=>∃ fC:Value,e=.returned fC∧Kd.R aS 43 w' w0.heap.size (fun ak=>((dA ak∨qQ ak)∨w.heap.size≤ak)) fC (l0.take i++[y]++l0.drop i)∧Below w0.heap.size w0 w'∧Kept w w' (fun ak=>dA ak∨qQ ak):=by
 obtain ⟨vb,vc,hv,_,_,_⟩:=Kd.xQ ho2 (by simp);have hv2:Gi=.slice (some ⟨vb,0,none⟩) 1 vc:=hv;subst hv2;by_cases hin:i=l0.length
 ·subst hin;rw [List.take_length,List.drop_length,List.append_nil];exact al9 dA gX l0 qQ vb vc y w0 w hB ho0 ho2 hbig
 rcases Flat.XV ho0 with ⟨_,hn⟩|⟨g,c,rfl,hnc,hcm⟩
 ·omega
 by_cases hroom:l0.length+1≤c
 ·exact al' g c i vb vc l0.length l0 y w0 w dA qQ rfl (by omega) hroom (fun e=>Vx g (ho0.1 g rfl) (e ▸ ho2.1 vb rfl)) hB ho0 ho2
 ·exact al_ g c i vb vc l0.length l0 y w0 w dA qQ rfl (by omega) (by omega) hbig hB ho0 ho2
def CW.f (l0:List aF) (a1:Int) (l2:List aF):Option (List aF):=if (0≤a1∧a1≤(l0.length:Int))∧l2.length=1∧(l0.length+1) * 40≤140737488355328 then some (l0.take a1.toNat++l2++l0.drop a1.toNat) else none
theorem CW.calls (dA:Nat→Prop) (gX:Value) (l0:List aF) (a1:Int) (qQ:Nat→Prop) (Gi:Value) (l2:List aF) (r:List aF) (w0 w:World) (hB:Below w0.heap.size w0 w) (ho0:Kd.R aS 43 w w0.heap.size dA gX l0) (Vx:∀ ak,dA ak→¬ qQ ak) (ho2:Kd.R aS 43 w w0.heap.size qQ Gi l2) (aAP:∀ ak,qQ ak→¬ dA ak) (h:CW.f l0 a1 l2=some r) :
  Calls Tryz.prog 66 #[gX,ah a1,Gi] w fun e w'=>∃ fC:Value,e=.returned fC∧Kd.R aS 43 w' w0.heap.size (fun ak=>((dA ak∨qQ ak)∨w.heap.size≤ak)) fC r∧Below w0.heap.size w0 w'∧Kept w w' (fun ak=>dA ak∨qQ ak):=by
 unfold CW.f at h
 split at h
 case isFalse=>cases h
 case isTrue hc =>
 obtain ⟨⟨h0,h1⟩,h2,h3⟩:=hc;obtain rfl:=bQ h;obtain ⟨y,rfl⟩:=List.length_eq_one_iff.1 h2;obtain ⟨c,rfl⟩:=Int.eq_ofNat_of_zero_le h0;exact al8 dA gX l0 c qQ Gi y w0 w hB ho0 Vx ho2 (by omega) h3

def zB.f (aa:List (aF)) (a5:ByteArray) (a7:Bool) (a8:ByteArray):Option ((List (aF))):=(u_.f aa a5).bind fun a6=>((JV.f a6 a5 a7 a8).bind fun a9=>(if a9 < 0 then ((CW.f a6 (a6.length:Int) (([(⟨a5,a7,a8⟩:aF)]:List (aF)))).bind fun ab=>(some ab)) else ((CW.f a6 a9 (([(⟨a5,a7,a8⟩:aF)]:List (aF)))).bind fun ac=>(some ac))))
theorem zB.calls (b4:Option Addr) (b5:Nat) (aI:List (aF)) (iW:ByteArray) (iC:Bool) (iM:ByteArray) (r:List (aF)) (w:World) (dL:Kd.C aS w b4 aI.length aI) (bh:aI.length≤b5) (h:zB.f aI iW iC iM=some r) :
  Calls Tryz.prog 21 #[.agg #[.slice b4 aI.length b5],.agg #[.string iW,.bool iC,.string iM]] w fun e w'=>∃ fC:Value,e=.returned (.agg #[fC])∧Kd.R aS 43 w' w.heap.size (fun _=>True) fC r∧Below w.heap.size w w':=by
 have nT:=underlying28;have tX:=underlying43;have lg:=m_ dL;have bq:=m_ bh;clear dL bh;have HB:=m_ (Below.refl w.heap.size w);unfold zB.f at h
 have H:=h;clear h;obtain ⟨a9,A3,H⟩:=bd_ H;obtain ⟨b6,A4,H⟩:=bd_ H;have ce:=m_ H;clear H;go_enter func21,ntmps21
 go_upto_if 16 with (first|((with_reducible refine dJ 2 ?_);refine dO 2 (cs:=#[.slice b4 aI.length b5]) 28 ?_;intro br hg w6 hbox hb;obtain ⟨HB,a5,cf,apW⟩:=jR ay hb hbox hg;clear hb hbox hg)|((with_reducible refine dJ 3 ?_);refine dO 3 (cs:=#[.string iW,.bool iC,.string iM]) 43 ?_;intro aa hg w7 hbox hb;obtain ⟨a5,HB,a6,cg,apX,ag,aK⟩:=oO (au a5) ay hb hbox hg;clear hb hbox hg)|((with_reducible refine dJ 4 ?_);refine dO 4 (cs:=#[.slice none 0 0]) 28 ?_;intro b7 hg w8 hbox hb;obtain ⟨a5,a6,HB,a7,ch,apY,ai,aH,aO,al⟩:=rP (au a5) (au a6) ay hb hbox hg;clear hb hbox hg;obtain ⟨cj,ck,ap,aq⟩:=iD ag aK ai aH;have Nj:=bZ a5.out;obtain ⟨ar,aT⟩:=gy aO al;have bs:=qj a6.out)|((with_reducible refine cu 64 ?_);refine cO (some 10) rfl rfl func64 aC rfl #[.agg #[.slice b4 aI.length b5],.string iW] rfl bJ ?_;(with_reducible refine (u_.calls _ _ aI iW a9 _ ?jW ?xC A3.out).mono ?_);(case jW=>exact qp);(case xC=>exact bq.out);rintro e cp ⟨v154,rfl,ho0,hb⟩;refine ⟨_,rfl,?_⟩;obtain ⟨qH,a5,a6,a7,HB⟩:=p_ (Kd.dR (Kd.wL ho0 (g:=aa) (o:=.cells #[.string iW,.bool iC,.string iM] 43) (au a6)) (bU ay)) <| mP (au a5) (au a6) (au a7) ay hb;(try clear hb);(try clear ho0))|((with_reducible refine dJ 5 ?_);refine dO 5 (cs:=#[.slice none 0 0]) 28 ?_;intro bu hg cq hbox hb;obtain ⟨qH,a5,a6,a7,HB,rZ,ci,apZ,ab,am,a8,an,ac,ao⟩:=p_ (Kd.bG (aN qH) hb) <| zl (au a5) (au a6) (au a7) ay hb hbox hg;clear hb hbox hg;obtain ⟨b2,b1,bv⟩:=Kd.dN qH.out;subst bv;obtain ⟨av,aw,ax,bD,az,b0⟩:=lU am ab an a8 ao ac;have Nk:=bZ rZ.out)|((with_reducible refine cu 60 ?_);refine cO (some 14) rfl rfl func60 aC rfl #[.slice b2 a9.length b1,.func (.func 65) #[] #[.pointer (some ⟨aa,0,none⟩)]] rfl bJ ?_;(with_reducible refine (JV.calls _ _ a9 aa iW iC iM b6 _ ?jW ?xC ?rV A4.out).mono ?_);(case jW=>refine (Kd.dn (e:=43) (base:=w.heap.size) (ok:=fun ak=>(True∧ak≠aa)) (n:=a9.length) (c:=b1) ?_).2.2;exact adk);(case xC=>exact (Kd.dn qH.out).2.1);(case rV=>(with_reducible repeat (first|refine fO ?_ _|refine dQ ?_|refine eP ?_ _));refine kX ?_ a8.out _;(with_reducible repeat (first|refine fO ?_ _|refine dQ ?_|refine eP ?_ _));exact a6.out);rintro e cr ⟨rfl,hb⟩;refine ⟨_,rfl,?_⟩;obtain ⟨qH,a5,a6,a7,rZ,HB⟩:=p_ (Kd.bG adk hb) <| p_ (aU (g:=br) (o:=.cells #[.slice b4 aI.length b5] 28) (qK a5.out ab.out) hb) <| p_ (aU (g:=aa) (o:=.cells #[.string iW,.bool iC,.string iM] 43) (qK a6.out a8.out) hb) <| p_ (aU (g:=b7) (o:=.cells #[.slice none 0 0] 28) (qK a7.out ac.out) hb) <| p_ (aU (g:=bu) (o:=.cells #[.slice b2 a9.length b1] 28) (DV rZ.out) hb) <| a_ (dV ay hb);(try clear hb);(try clear hk)))
 (try simp only [fM])
 (try clear ap aw ar bD aq aT b0 av ax az)
 (try clear Nj)
 (try clear bs)
 (try clear Nk)
 (try clear Nj)
 (try clear Nk)
 obtain ⟨H⟩:=ce;revert H;refine fB (fun b3 H=>?_) fun b3 H=>?_;rotate_left
 ·try simp only [aV,aZ,b3]
  obtain ⟨b8,b9⟩:∃ y_:List (aF),y_=(([(⟨iW,iC,iM⟩:aF)]:List (aF))):=⟨_,rfl⟩;rw [← b9] at H;have bi:=m_ b9;clear b9;obtain ⟨be,cl,H⟩:=bd_ H;obtain rfl:=bQ H;obtain ⟨av,aw,ax,bD,az,b0⟩:=lU am ab an a8 ao ac;have aEG:=bZ rZ.out;obtain ⟨ba,bb,ar,aT⟩:=iD aK ag aO al;have cm:=qj a6.out;go_wp2_with (first|((with_reducible refine dJ 24 ?_);refine Kd.AZ aS _ 43 ?hg (N:=24) ?hd (xs:=([(⟨iW,iC,iM⟩:aF)]:List (aF))) (inner:=[.string iW,.bool iC,.string iM]) (ok:=fun _=>True) (jG:=fun _=>True) ?hr ?hp (fun _ hk=>hk) trivial (Below.refl _ _) (Nat.le_refl _) (by simp) ?_;(case hd=>rfl);(case hg=>rfl);(case hr=>first|(go_simp;done)|(go_simp;rfl));(case hp=>exact adt);intro aCM ct Jr hb mF mG;clear mF mG;(first|rw [← bi.out] at Jr|(simp only [Int.reduceToNat] at Jr;rw [← bi.out] at Jr));obtain ⟨qH,ae,a5,a6,a7,rZ,HB⟩:=p_ (Kd.jP (aN qH) (Kd.iY Jr) hb) <| p_ (Kd.dR (Kd.wL (Kd.jQ Jr (Kd.jl (aN qH))) (g:=aa) (o:=.cells #[.string iW,.bool iC,.string iM] 43) (au a6)) (bU ay)) <| Oj (au a5) (au a6) (au a7) (au rZ) ay hb;clear hb Jr;obtain ⟨nN,iO,bw⟩:=Kd.dN ae.out;subst bw)|((with_reducible refine cu 66 ?_);refine cO (some 25) rfl rfl func66 aC rfl #[.slice b2 a9.length b1,ah b6,.slice nN b8.length iO] rfl bJ ?_;(with_reducible refine (CW.calls (fun ak=>some ak=(.slice b2 a9.length b1:Value).ownBlock) (.slice b2 a9.length b1) a9 b6 (fun ak=>some ak=(.slice nN b8.length iO:Value).ownBlock) (.slice nN b8.length iO) b8 be w _ ?jW ?xC ?rV ?Wu ?Wv cl.out).mono ?_);(case jW=>exact ay);(case xC=>exact Kd.rH rfl qH.out);(case rV=>exact fun ak e_=>(qH.out.1 ak e_.symm).2);(case Wu=>exact Kd.rH rfl ae.out);(case Wv=>exact fun ak e_=>(ae.out.1 ak e_.symm).1.2);rintro e fE ⟨v168,rfl,ho0,hb,hkp⟩;refine ⟨_,rfl,?_⟩;have ji:=p_ (mO (au a5) hkp (fun hs_=>Or.elim hs_ (fun e_=>(fun e_=>(Kd.fD qH.out a5.out (by decide)) e_) e_) (fun e_=>(fun e_=>(Kd.fD ae.out a5.out (by decide)) e_) e_))) <| p_ (mO (au a6) hkp (fun hs_=>Or.elim hs_ (fun e_=>(fun e_=>(Kd.sJ qH.out (fun _ hk=>hk.1.2)) e_) e_) (fun e_=>(fun e_=>(Kd.sJ ae.out (fun _ hk=>hk.2)) e_) e_))) <| p_ (mO (au a7) hkp (fun hs_=>Or.elim hs_ (fun e_=>(fun e_=>(Kd.fD qH.out a7.out (by decide)) e_) e_) (fun e_=>(fun e_=>(Kd.fD ae.out a7.out (by decide)) e_) e_))) <| p_ (mO (au rZ) hkp (fun hs_=>Or.elim hs_ (fun e_=>(fun e_=>(Kd.fD qH.out rZ.out (by decide)) e_) e_) (fun e_=>(fun e_=>(Kd.fD ae.out rZ.out (by decide)) e_) e_))) <| p_ (Kd.bF (ok':=fun ak=>ak≠aa) ho0 (fun ak gQ=>Or.elim gQ (fun hs_=>Or.elim hs_ (fun hs_=>fun e_=>(Kd.sJ qH.out (fun _ hk=>hk.1.2)) (by rw [← e_];exact hs_)) (fun hs_=>fun e_=>(Kd.sJ ae.out (fun _ hk=>hk.2)) (by rw [← e_];exact hs_))) (fun nS=>(Kd.uO (g:=aa) (o:=.cells #[.string iW,.bool iC,.string iM] 43) (au a6) ak nS)))) <| a_ (hb);clear a5 a6 a7 rZ HB qH ae;obtain ⟨a5,a6,a7,rZ,bj,HB⟩:=ji;(try clear hb);(try clear hkp);(try clear ho0);obtain ⟨bx,bz,ca⟩:=Kd.dN bj.out;subst ca;have aEI:=bZ rZ.out;obtain ⟨aq,ap⟩:=gy aH ai;have aEK:=bZ a7.out))
  refine bodyPost_ret (results_cell_row rfl _ _ b7 28 #[.slice bx be.length bz] (0,0) _ rfl bf underlying28 rfl aC) rfl ?_;exact ⟨_,bK,(by (with_reducible repeat (first|apply Kd.bW|apply Kd.bY|apply Kd.bH));exact Kd.bF (aJ (aJ (Kd.bV (Kd.bV bj.out rZ.out (by decide)) a7.out (by decide)) (fun _ hk=>hk.1.2))) (fun _ hk=>trivial)),ay⟩
 try simp only [aV,aZ,b3]
 obtain ⟨bc,bd⟩:∃ y_:List (aF),y_=(([(⟨iW,iC,iM⟩:aF)]:List (aF))):=⟨_,rfl⟩;rw [← bd] at H;have bl:=m_ bd;clear bd;obtain ⟨fA,cn,H⟩:=bd_ H;obtain rfl:=bQ H;obtain ⟨av,aw,ax,bD,az,b0⟩:=lU am ab an a8 ao ac;have Xp:=bZ rZ.out;obtain ⟨ba,bb,ar,aT⟩:=iD aK ag aO al;have co:=qj a6.out;go_wp2_with (first|((with_reducible refine dJ 24 ?_);refine Kd.AZ aS _ 43 ?hg (N:=24) ?hd (xs:=([(⟨iW,iC,iM⟩:aF)]:List (aF))) (inner:=[.string iW,.bool iC,.string iM]) (ok:=fun _=>True) (jG:=fun _=>True) ?hr ?hp (fun _ hk=>hk) trivial (Below.refl _ _) (Nat.le_refl _) (by simp) ?_;(case hd=>rfl);(case hg=>rfl);(case hr=>first|(go_simp;done)|(go_simp;rfl));(case hp=>exact adt);intro v159 cv Jq hb mF mG;clear mF mG;(first|rw [← bl.out] at Jq|(simp only [Int.reduceToNat] at Jq;rw [← bl.out] at Jq));obtain ⟨qH,af,a5,a6,a7,rZ,HB⟩:=p_ (Kd.jP (aN qH) (Kd.iY Jq) hb) <| p_ (Kd.dR (Kd.wL (Kd.jQ Jq (Kd.jl (aN qH))) (g:=aa) (o:=.cells #[.string iW,.bool iC,.string iM] 43) (au a6)) (bU ay)) <| Oj (au a5) (au a6) (au a7) (au rZ) ay hb;clear hb Jq;obtain ⟨fG,bo,cc⟩:=Kd.dN af.out;subst cc)|((with_reducible refine cu 66 ?_);refine cO (some 25) rfl rfl func66 aC rfl #[.slice b2 a9.length b1,ah (a9.length:Int),.slice fG bc.length bo] rfl bJ ?_;(with_reducible refine (CW.calls (fun ak=>some ak=(.slice b2 a9.length b1:Value).ownBlock) (.slice b2 a9.length b1) a9 (a9.length:Int) (fun ak=>some ak=(.slice fG bc.length bo:Value).ownBlock) (.slice fG bc.length bo) bc fA w _ ?jW ?xC ?rV ?Wu ?Wv cn.out).mono ?_);(case jW=>exact ay);(case xC=>exact Kd.rH rfl qH.out);(case rV=>exact fun ak e_=>(qH.out.1 ak e_.symm).2);(case Wu=>exact Kd.rH rfl af.out);(case Wv=>exact fun ak e_=>(af.out.1 ak e_.symm).1.2);rintro e cw ⟨v162,rfl,ho0,hb,hkp⟩;refine ⟨_,rfl,?_⟩;have ji:=p_ (mO (au a5) hkp (fun hs_=>Or.elim hs_ (fun e_=>(fun e_=>(Kd.fD qH.out a5.out (by decide)) e_) e_) (fun e_=>(fun e_=>(Kd.fD af.out a5.out (by decide)) e_) e_))) <| p_ (mO (au a6) hkp (fun hs_=>Or.elim hs_ (fun e_=>(fun e_=>(Kd.sJ qH.out (fun _ hk=>hk.1.2)) e_) e_) (fun e_=>(fun e_=>(Kd.sJ af.out (fun _ hk=>hk.2)) e_) e_))) <| p_ (mO (au a7) hkp (fun hs_=>Or.elim hs_ (fun e_=>(fun e_=>(Kd.fD qH.out a7.out (by decide)) e_) e_) (fun e_=>(fun e_=>(Kd.fD af.out a7.out (by decide)) e_) e_))) <| p_ (mO (au rZ) hkp (fun hs_=>Or.elim hs_ (fun e_=>(fun e_=>(Kd.fD qH.out rZ.out (by decide)) e_) e_) (fun e_=>(fun e_=>(Kd.fD af.out rZ.out (by decide)) e_) e_))) <| p_ (Kd.bF (ok':=fun ak=>ak≠aa) ho0 (fun ak gQ=>Or.elim gQ (fun hs_=>Or.elim hs_ (fun hs_=>fun e_=>(Kd.sJ qH.out (fun _ hk=>hk.1.2)) (by rw [← e_];exact hs_)) (fun hs_=>fun e_=>(Kd.sJ af.out (fun _ hk=>hk.2)) (by rw [← e_];exact hs_))) (fun nS=>(Kd.uO (g:=aa) (o:=.cells #[.string iW,.bool iC,.string iM] 43) (au a6) ak nS)))) <| a_ (hb);clear a5 a6 a7 rZ HB qH af;obtain ⟨a5,a6,a7,rZ,bm,HB⟩:=ji;(try clear hb);(try clear hkp);(try clear ho0);obtain ⟨kG,kH,cd⟩:=Kd.dN bm.out;subst cd;have apE:=bZ rZ.out;obtain ⟨aq,ap⟩:=gy aH ai;have aEE:=bZ a7.out))
 refine bodyPost_ret (results_cell_row rfl _ _ b7 28 #[.slice kG fA.length kH] (0,0) _ rfl bf underlying28 rfl aC) rfl ?_;exact ⟨_,bK,(by (with_reducible repeat (first|apply Kd.bW|apply Kd.bY|apply Kd.bH));exact Kd.bF (aJ (aJ (Kd.bV (Kd.bV bm.out rZ.out (by decide)) a7.out (by decide)) (fun _ hk=>hk.1.2))) (fun _ hk=>trivial)),ay⟩

end Go.Proofs.YthejdhjpbpamoaaGreatDoor.pU
