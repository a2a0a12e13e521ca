/- What the printed texts of this law say often, told once: arrays of Bools, and lemmas whose argument a tactic fills in. Conditions: none. -/
import Derived.Test.YthejdhjpbpamoaaGreatDoorProg
import Derived.Below
import Derived.Deep.Draws
import Derived.Deep.AppendLies
import Derived.Maps.AppendAt
import Derived.OwnWalk
import Derived.Laws.BytesArg
import Derived.Laws.MakeOwn
import Derived.Laws.OwnMore
import Derived.Deep.OwnRows
import Derived.Tactics
import Derived.Lib.ConvBytes
import Derived.Laws.Slices
import Derived.WalkKit
import Derived.KernelRfl
import Derived.RowKit3
import Derived.Deep.LoopGhost
import Derived.Deep.QuietTactic
import Derived.BigQuiet
import Derived.WideLaws
import Derived.Deep.DeepCutAuto
import Derived.Deep.CutBlock
import Derived.Deep.RegionHeld3
import Derived.Laws.Rows
import Derived.Lib.AppendStr
import Derived.ArgAppend
import Derived.Laws.IdiomCopy
import Derived.OrdersHeld
import Derived.Laws.BitsLemmas
import Derived.RowKit
import Derived.Lib.SliceRun
import Derived.Test.YthejdhjpbpamoaaGreatDoorShelf
import Derived.Shelf.SlicesQ.IndexFunc
import Derived.Laws.Cover1
import Derived.Test.YthejdhjpbpamoaaGreatDoorFlat
import Derived.Shelf.Spec.SlicesInsert
import Derived.Lib.AppendZerosOnto
import Derived.Laws.NewBlocks
import Derived.Test.YthejdhjpbpamoaaGreatDoorDoor
import Derived.Test.YthejdhjpbpamoaaGreatDoorWWords
import Derived.Test.YthejdhjpbpamoaaGreatDoorWLast
import Derived.Test.YthejdhjpbpamoaaGreatDoorWTab
import Derived.Test.YthejdhjpbpamoaaGreatDoorWFour
import Derived.Test.YthejdhjpbpamoaaGreatDoorWQPut
import Derived.Test.YthejdhjpbpamoaaGreatDoorWApart
import Derived.Test.YthejdhjpbpamoaaGreatDoorWArr
import Derived.Test.YthejdhjpbpamoaaGreatDoorWZeros
import Derived.Test.YthejdhjpbpamoaaGreatDoorWFoot
import Derived.Test.YthejdhjpbpamoaaGreatDoorWKept
import Derived.Test.YthejdhjpbpamoaaGreatDoorWShare
import Derived.Test.YthejdhjpbpamoaaGreatDoorWN
import Derived.Test.YthejdhjpbpamoaaGreatDoorWFootNe
import Derived.Test.YthejdhjpbpamoaaGreatDoorWAt
import Derived.Test.YthejdhjpbpamoaaGreatDoorWEqStruct
import Derived.Test.YthejdhjpbpamoaaGreatDoorWRepsOne
import Derived.Test.YthejdhjpbpamoaaGreatDoorWInv
import Derived.Test.YthejdhjpbpamoaaGreatDoorWInvWords
import Derived.Test.YthejdhjpbpamoaaGreatDoorWGuard
import Derived.Test.YthejdhjpbpamoaaGreatDoorWNEv
import Derived.Test.YthejdhjpbpamoaaGreatDoorWMore
namespace Go.Proofs.YthejdhjpbpamoaaGreatDoor.pU
open Go.RowKit Go.Proofs.YthejdhjpbpamoaaGreatDoorW.jk Go.Proofs.YthejdhjpbpamoaaGreatDoorW.qI Go.Proofs.YthejdhjpbpamoaaGreatDoorW.vV
theorem fM:(∀ (a:Act) (d:Tmp) (v:Value),a.put (some d) v={ a with tmps:=a.tmps.setIfInBounds d v })∧(∀ (a:Act) (v:Value),a.put none v=a)∧(∀ {α:Type} (l:List α) (i:Nat) (v:α),l.toArray.setIfInBounds i v=(l.set i v).toArray)∧(∀ {α:Type} (x:α) (xs:List α) (v:α),(x :: xs).set 0 v=v :: xs)∧(∀ {α:Type} (x:α) (xs:List α) (i:Nat) (v:α),(x :: xs).set (i+1) v=x :: xs.set i v):=⟨fun _ _ _=>rfl,fun _ _=>rfl,fun _ _ _=>List.setIfInBounds_toArray ..,fun _ _ _=>rfl,fun _ _ _ _=>rfl⟩
theorem gV:(∀ {α:Type} {a b:α},(some a=some b)=(a=b))∧(∀ {α β:Type} {a c:α} {b d:β},((a,b)=(c,d))=(a=c∧b=d)):=⟨Option.some.injEq ..,Prod.mk.injEq ..⟩
abbrev ah (x:Int):Value:=.int .i64 x
abbrev jE (w:World) (g:Nat) (v0:Value) (R:Prop):Prop:=w.cell? ⟨g,0,none⟩=some v0∧R
abbrev aej (w:World) (g:Nat) (v0:Value):Prop:=w.cell? ⟨g,0,none⟩=some v0
abbrev Nl (w:World) (g:Nat) (v0 v1 v2:Value) (R:Prop):Prop:=w.cell? ⟨g,0,none⟩=some v0∧w.cell? ⟨g,1,none⟩=some v1∧w.cell? ⟨g,2,none⟩=some v2∧R
abbrev Di (w:World) (g:Nat) (v0 v1 v2:Value):Prop:=w.cell? ⟨g,0,none⟩=some v0∧w.cell? ⟨g,1,none⟩=some v1∧w.cell? ⟨g,2,none⟩=some v2
abbrev qw (w:World) (g:Nat) (v0 v1 v2 v3:Value) (R:Prop):Prop:=w.cell? ⟨g,0,none⟩=some v0∧w.cell? ⟨g,1,none⟩=some v1∧w.cell? ⟨g,2,none⟩=some v2∧w.cell? ⟨g,3,none⟩=some v3∧R
abbrev aep (w:World) (g:Nat) (v0 v1 v2 v3:Value):Prop:=w.cell? ⟨g,0,none⟩=some v0∧w.cell? ⟨g,1,none⟩=some v1∧w.cell? ⟨g,2,none⟩=some v2∧w.cell? ⟨g,3,none⟩=some v3
abbrev Xv (w:World) (g:Nat) (v0 v1 v2 v3 v4:Value):Prop:=w.cell? ⟨g,0,none⟩=some v0∧w.cell? ⟨g,1,none⟩=some v1∧w.cell? ⟨g,2,none⟩=some v2∧w.cell? ⟨g,3,none⟩=some v3∧w.cell? ⟨g,4,none⟩=some v4
abbrev oZ (w:World) (g:Nat) (v0 v1 v2 v3 v4 v5:Value):Prop:=w.cell? ⟨g,0,none⟩=some v0∧w.cell? ⟨g,1,none⟩=some v1∧w.cell? ⟨g,2,none⟩=some v2∧w.cell? ⟨g,3,none⟩=some v3∧w.cell? ⟨g,4,none⟩=some v4∧w.cell? ⟨g,5,none⟩=some v5
abbrev Dh (w:World) (g:Nat) (v0 v1 v2 v3 v4 v5 v6 v7 v8 v9 v10 v11 v12 v13:Value):Prop:=w.cell? ⟨g,0,none⟩=some v0∧w.cell? ⟨g,1,none⟩=some v1∧w.cell? ⟨g,2,none⟩=some v2∧w.cell? ⟨g,3,none⟩=some v3∧w.cell? ⟨g,4,none⟩=some v4∧w.cell? ⟨g,5,none⟩=some v5∧w.cell? ⟨g,6,none⟩=some v6∧w.cell? ⟨g,7,none⟩=some v7∧w.cell? ⟨g,8,none⟩=some v8∧w.cell? ⟨g,9,none⟩=some v9∧w.cell? ⟨g,10,none⟩=some v10∧w.cell? ⟨g,11,none⟩=some v11∧w.cell? ⟨g,12,none⟩=some v12∧w.cell? ⟨g,13,none⟩=some v13
abbrev Kq (w:World) (a:Addr) (v0 v1 v2:Value) (R:Prop):Prop:=w.cell? a=some v0∧w.cell? ⟨a.block,a.off+1,none⟩=some v1∧w.cell? ⟨a.block,a.off+2,none⟩=some v2∧R
abbrev uS (w:World) (a:Addr) (v0 v1 v2:Value):Prop:=w.cell? a=some v0∧w.cell? ⟨a.block,a.off+1,none⟩=some v1∧w.cell? ⟨a.block,a.off+2,none⟩=some v2
abbrev NU (w:World) (g o:Nat) (v0 v1 v2:Value) (R:Prop):Prop:=w.cell? ⟨g,o,none⟩=some v0∧w.cell? ⟨g,o+1,none⟩=some v1∧w.cell? ⟨g,o+2,none⟩=some v2∧R
abbrev NV (w:World) (g o:Nat) (v0 v1 v2:Value):Prop:=w.cell? ⟨g,o,none⟩=some v0∧w.cell? ⟨g,o+1,none⟩=some v1∧w.cell? ⟨g,o+2,none⟩=some v2
set_option linter.unusedVariables false

abbrev aj:Bool:=true
abbrev F_:Bool:=false
theorem aC {p:Prop} (h:p:=by kernel_rfl):p:=h
theorem aX {p:Prop} [Decidable p] (h:decide p=true):p:=of_decide_eq_true h
theorem nJ {p:Prop} [Decidable p] (h:p):decide p=true:=decide_eq_true h
theorem wQ {p:Prop} [Decidable p] (h:¬ p):decide p=false:=decide_eq_false h
theorem bQ {α:Type} {a b:α} (h:some a=some b):a=b:=Option.some.inj h
theorem fU {α:Type} [BEq α] [LawfulBEq α] {a b:α} (h:a=b):(a == b)=true:=beq_iff_eq.mpr h
theorem fV {α:Type} [BEq α] [LawfulBEq α] {a b:α} (h:a=b):(a != b)=false:=bne_eq_false_iff_eq.mpr h
theorem fZ {α:Type} [BEq α] [LawfulBEq α] {a b:α} (h:a≠b):(a == b)=false:=beq_eq_false_iff_ne.mpr h
theorem f_ {α:Type} [BEq α] [LawfulBEq α] {a b:α} (h:a≠b):(a != b)=true:=bne_iff_ne.mpr h
theorem m_ {p:Prop} (h:p):aA p:=⟨h⟩
abbrev G9:Array Bool:=#[aj,aj,aj,aj,aj,aj,aj,aj,aj,aj,aj,aj,F_,F_]
abbrev afy:Array Bool:=#[aj,aj,aj,aj,aj,aj,aj,aj,aj,aj,aj,F_,F_]
abbrev afF:Array Bool:=#[aj,aj,aj,aj,aj,aj,aj,aj,aj,aj,aj,F_,F_,F_]
abbrev Dx:Array Bool:=#[aj,aj,aj,aj,aj,aj,aj,aj,F_,F_]
abbrev BP:Array Bool:=#[F_,F_,F_,F_]
abbrev N8:Array Bool:=#[aj,F_,F_,F_]
abbrev Oc:Array Bool:=#[aj,aj,F_,F_]
abbrev Oh:Array Bool:=#[aj,aj,aj,F_]
abbrev Oi:Array Bool:=#[aj,aj,aj,aj]
abbrev Dw:Array Bool:=#[F_,F_,F_,F_,F_,F_,F_,F_,F_,F_,F_,F_,F_]
abbrev afz:Array Bool:=#[aj,F_,F_,F_,F_,F_,F_,F_,F_,F_,F_,F_,F_]
abbrev afA:Array Bool:=#[aj,aj,aj,aj,aj,aj,aj,aj,aj,aj,aj,aj,F_]
abbrev afB:Array Bool:=#[aj,aj,aj,aj,aj,aj,aj,aj,aj,aj,aj,aj,aj]
abbrev Yk:Array Bool:=#[aj,aj,aj,aj,aj,aj,aj,aj,aj,aj,F_,aj,F_,F_]
abbrev EK:Array Bool:=#[F_,F_,F_,F_,F_,F_,F_,F_,F_,F_,F_]
abbrev afG:Array Bool:=#[aj,aj,aj,aj,aj,aj,aj,aj,aj,aj,F_,F_,F_,F_]
abbrev EL:Array Bool:=#[F_,F_,F_,F_,F_]
abbrev EM:Array Bool:=#[aj,aj,aj,aj,F_]
abbrev EN:Array Bool:=#[aj,aj,aj,aj,aj]
abbrev afH:Array Bool:=#[aj,aj,aj,aj,aj,aj,F_,F_,F_,F_,F_,aj,F_,F_]
abbrev EO:Array Bool:=#[F_,F_,F_,F_,F_,F_,F_,F_]
abbrev G_:Array Bool:=#[F_,F_,F_,F_,F_,F_,F_,F_,F_,F_,F_,F_,F_,F_]
abbrev afI:Array Bool:=#[aj,aj,aj,aj,aj,F_,F_,F_,F_,F_,F_,F_,F_,F_]
abbrev afJ:Array Bool:=#[aj,aj,aj,aj,aj,aj,F_,F_,F_,F_,F_,F_,F_,F_]
abbrev RY:Array Bool:=#[aj,aj,aj,aj,aj,aj,aj,aj,aj,aj,aj,aj,aj,F_]
abbrev RZ:Array Bool:=#[aj,aj,aj,aj,aj,aj,aj,aj,aj,aj,aj,aj,aj,aj]
abbrev He:Array Bool:=#[aj,aj,aj,F_,F_]
abbrev Hf:Array Bool:=#[aj,aj,aj,aj,aj,aj,aj,aj,aj,aj,aj,aj,aj,aj,F_,F_]
abbrev YR:Array Bool:=#[aj,F_,F_,F_,F_,F_,F_,F_,F_,F_,F_,F_,F_,F_]
abbrev KR:Array Bool:=#[F_,F_,F_,F_,F_,F_,F_,F_,F_]
abbrev YS:Array Bool:=#[aj,aj,aj,aj,aj,aj,aj,F_,F_]
abbrev YT:Array Bool:=#[aj,aj,aj,aj,aj,aj,aj,aj,F_]
abbrev YU:Array Bool:=#[aj,aj,aj,aj,aj,aj,aj,aj,aj]
abbrev KT:Array Bool:=#[aj,aj,F_,F_,F_]
abbrev N9:Array Bool:=#[F_,F_,F_,F_,F_,F_,F_]
abbrev N_:Array Bool:=#[aj,aj,aj,aj,aj,F_,F_]
abbrev Oa:Array Bool:=#[aj,aj,aj,aj,aj,aj,F_]
abbrev Ob:Array Bool:=#[aj,aj,aj,aj,aj,aj,aj]
abbrev afK:Array Bool:=#[aj,F_,aj,F_,F_,F_,F_,F_,F_,F_,F_,F_,F_]
abbrev afL:Array Bool:=#[aj,F_,aj,aj,F_,F_,F_,F_,F_,F_,F_,F_,F_]
abbrev Oe:Array Bool:=#[aj,aj,aj,aj,aj,F_,aj,aj,F_,F_]
abbrev Og:Array Bool:=#[F_,aj,F_,F_,F_]
abbrev YV:Array Bool:=#[aj,aj,aj,aj,aj,aj,aj,F_,F_,F_,F_,aj,F_,F_]
abbrev YW:Array Bool:=#[aj,aj,aj,aj,aj,aj,aj,aj,F_,F_,F_,aj,F_,F_]
abbrev YX:Array Bool:=#[aj,aj,aj,aj,aj,aj,aj,aj,aj,F_,F_,aj,F_,F_]
abbrev R_:Array Bool:=#[F_,F_,F_,F_,F_,F_,F_,F_,F_,F_,F_,F_,F_,F_,F_,F_,F_,F_]
abbrev RN:Array Bool:=#[F_,F_,F_,F_,F_,F_,F_,F_,F_,F_,F_,F_,F_,F_,F_,F_]
abbrev RP:Array Bool:=#[aj,aj,aj,aj,aj,aj,aj,F_,F_,F_,F_,F_,F_,F_,F_,F_]
abbrev RQ:Array Bool:=#[aj,aj,aj,aj,aj,aj,aj,aj,aj,aj,aj,aj,aj,F_,F_,F_]
abbrev RS:Array Bool:=#[aj,aj,aj,aj,aj,aj,aj,aj,aj,aj,aj,aj,aj,aj,aj,F_]
abbrev RU:Array Bool:=#[aj,aj,aj,aj,aj,aj,aj,aj,aj,aj,aj,aj,aj,aj,aj,aj]
abbrev RV:Array Bool:=#[F_,F_,F_,F_,F_,F_,F_,F_,F_,F_]
abbrev Yh:Array Bool:=#[aj,aj,aj,aj,aj,aj,aj,F_,F_,F_]
abbrev Yi:Array Bool:=#[aj,aj,aj,aj,aj,aj,aj,aj,aj,F_]
abbrev Yj:Array Bool:=#[aj,aj,aj,aj,aj,aj,aj,aj,aj,aj]
abbrev RX:Array Bool:=#[F_,F_,F_,F_,F_,F_,F_,F_,F_,F_,F_,F_,F_,F_,F_]
abbrev afC:Array Bool:=#[aj,aj,aj,aj,aj,aj,aj,F_,F_,F_,F_,F_,F_,F_]
abbrev afD:Array Bool:=#[aj,aj,aj,aj,aj,aj,aj,aj,F_,F_,F_,F_,F_,F_]
abbrev afE:Array Bool:=#[aj,aj,aj,aj,aj,aj,aj,aj,aj,F_,F_,F_,F_,F_]
abbrev Yl:Array Bool:=#[F_,F_,F_,F_,F_,F_,F_,F_,F_,F_,F_,F_,F_,F_,F_,F_,F_]
abbrev Ym:Array Bool:=#[aj,F_,F_,F_,F_,F_,F_,F_,F_,F_,F_,F_,F_,F_,F_,F_]
abbrev Yn:Array Bool:=#[aj,aj,F_,F_,F_,F_,F_,F_,F_,F_,F_,F_,F_,F_,F_,F_]
abbrev Yo:Array Bool:=#[aj,aj,aj,F_,F_,F_,F_,F_,F_,F_,F_,F_,F_,F_,F_,F_]
abbrev Yp:Array Bool:=#[aj,aj,aj,aj,F_,F_,F_,F_,F_,F_,F_,F_,F_,F_,F_,F_]
abbrev Yq:Array Bool:=#[aj,aj,aj,aj,aj,F_,F_,F_,F_,F_,F_,F_,F_,F_,F_,F_]
abbrev Yr:Array Bool:=#[aj,aj,aj,aj,aj,aj,F_,F_,F_,F_,F_,F_,F_,F_,F_,F_]
abbrev Yt:Array Bool:=#[aj,aj,aj,aj,aj,aj,aj,aj,F_,F_,F_,F_,F_,F_,F_,F_]
abbrev Yu:Array Bool:=#[aj,aj,aj,aj,aj,aj,aj,aj,aj,F_,F_,F_,F_,F_,F_,F_]
abbrev Yv:Array Bool:=#[aj,aj,aj,aj,aj,aj,aj,aj,aj,aj,F_,F_,F_,F_,F_,F_]
abbrev Yw:Array Bool:=#[aj,aj,aj,aj,aj,aj,aj,aj,aj,aj,aj,F_,F_,F_,F_,F_]
abbrev Yx:Array Bool:=#[aj,aj,aj,aj,aj,aj,aj,aj,aj,aj,aj,aj,F_,F_,F_,F_]
abbrev Yy:Array Bool:=#[F_,aj,F_,F_,F_,F_,F_,F_,F_,F_]
abbrev Yz:Array Bool:=#[F_,aj,F_,aj,F_,F_,F_,F_,F_,F_]
abbrev YA:Array Bool:=#[F_,aj,aj,aj,F_,F_,F_,F_,F_,F_]
abbrev YB:Array Bool:=#[F_,aj,aj,aj,aj,F_,F_,F_,F_,F_]
abbrev YC:Array Bool:=#[F_,aj,aj,aj,aj,F_,aj,F_,F_,F_]
abbrev YD:Array Bool:=#[aj,aj,aj,aj,aj,F_,aj,F_,F_,F_]
abbrev YE:Array Bool:=#[F_,aj,aj,aj,aj,F_,aj,aj,F_,F_]
abbrev YF:Array Bool:=#[F_,F_,aj,F_,F_,F_,F_,F_,F_]
abbrev YG:Array Bool:=#[F_,F_,aj,aj,F_,F_,F_,F_,F_]
abbrev YH:Array Bool:=#[F_,F_,aj,aj,aj,F_,F_,F_,F_]
abbrev YI:Array Bool:=#[F_,F_,aj,aj,aj,aj,F_,F_,F_]
abbrev YJ:Array Bool:=#[F_,F_,aj,aj,aj,aj,aj,F_,F_]
abbrev YK:Array Bool:=#[aj,F_,aj,aj,aj,aj,aj,F_,F_]
abbrev YL:Array Bool:=#[aj,aj,aj,aj,aj,aj,aj,aj,aj,F_,F_,F_,F_,aj,F_,F_]
abbrev YM:Array Bool:=#[aj,aj,aj,aj,aj,aj,aj,aj,aj,aj,F_,F_,F_,aj,F_,F_]
abbrev YN:Array Bool:=#[aj,aj,aj,aj,aj,aj,aj,aj,aj,aj,aj,F_,F_,aj,F_,F_]
abbrev YO:Array Bool:=#[aj,aj,aj,aj,aj,aj,aj,aj,aj,aj,aj,aj,F_,aj,F_,F_]
abbrev YP:Array Bool:=#[aj,F_,aj,F_,F_,F_,F_,F_,F_,F_,F_,F_,F_,F_]
abbrev YQ:Array Bool:=#[aj,F_,aj,F_,aj,F_,F_,F_,F_,F_,F_,F_,F_,F_]
section
variable {P:Program} {ops:Array Oper} {Q:Exit→Act→World→Prop} {md:Region.Mode} {S:World→Prop} {ds:List Nat}
theorem uF {i:Nat} {N:Option Tmp} {oi:Oper} {v:Value} {fuel:Nat} {l:Array Bool} {a:Act} {w:World} (l':Array Bool) (hc:KJ md ops l l' i=true) {a':Act}
 (h:ig P md ops Q S ds fuel l' a' w) (hi:ops[i]?=some oi:=by rfl) (hN:oi.dst=N:=by rfl) (hQ:∀ c a w,Q (.panic c) (a.put oi.dst v) w→Q (.panic c) a w:=by exact fun _ _ _ h=>h)
 (h1:Region.wanted oi (yielded ops a.tmps)=true:=by rfl) (h2:∀ w',(execOp a.eval oi).run P w'=.ok (.value v) w':=by (intro w';go_simp;with_reducible rfl))
 (ha:a.put N v=a':=by (simp only [Act.put,List.setIfInBounds_toArray,List.set_cons_zero,List.set_cons_succ,aV,aZ];rfl)):ig P md ops Q S ds (fuel+1) l a w :=
 JJ l' hi hN hc hQ (Or.inl ⟨h1,h2⟩) ha h
end

section
variable {P:Program} {ops:Array Oper} {Q:Exit→Act→World→Prop} {md:Region.Mode} {S:World→Prop} {ds:List Nat}
theorem gY (N:Option Tmp) {fuel:Nat} {l:Array Bool} {a0 a':Act} {v:Value} {w:World} (h:ig P md ops Q S ds fuel l a' w)
 (ha:a0.put N v=a':=by (simp only [Act.put,List.setIfInBounds_toArray,List.set_cons_zero,List.set_cons_succ,aV,aZ];rfl)):ig P md ops Q S ds fuel l (a0.put N v) w:=qN ha h
end

theorem a_ {p:Prop} (h:p):aA p:=⟨h⟩
theorem p_ {p q:Prop} (h:p) (k:q):aA p∧q:=⟨⟨h⟩,k⟩
theorem bT {p q:Prop} (h:p) (k:q):p∧q:=⟨h,k⟩
theorem tK {w:World} {g:Nat} {t:TypeId} {v0 v1 v2:Value} (h:w.heap[g]?=some (.cells #[v0,v1,v2] t (0,0))):w.cell? ⟨g,0,none⟩=some v0∧w.cell? ⟨g,1,none⟩=some v1∧w.cell? ⟨g,2,none⟩=some v2:=⟨(aQ h 0).trans rfl,(aQ h 1).trans rfl,(aQ h 2).trans rfl⟩
theorem NY {w:World} {g:Nat} {t:TypeId} {v0 v1 v2:Value} {R:Prop} (h:w.heap[g]?=some (.cells #[v0,v1,v2] t (0,0))) (r:R):w.cell? ⟨g,0,none⟩=some v0∧w.cell? ⟨g,1,none⟩=some v1∧w.cell? ⟨g,2,none⟩=some v2∧R:=⟨(aQ h 0).trans rfl,(aQ h 1).trans rfl,(aQ h 2).trans rfl,r⟩
theorem X9 {w:World} {g:Nat} {t:TypeId} {v0 v1 v2 v3:Value} (h:w.heap[g]?=some (.cells #[v0,v1,v2,v3] t (0,0))):w.cell? ⟨g,0,none⟩=some v0∧w.cell? ⟨g,1,none⟩=some v1∧w.cell? ⟨g,2,none⟩=some v2∧w.cell? ⟨g,3,none⟩=some v3:=⟨(aQ h 0).trans rfl,(aQ h 1).trans rfl,(aQ h 2).trans rfl,(aQ h 3).trans rfl⟩
theorem kW {w:World} {g:Nat} {t:TypeId} {v0 v1 v2 v3:Value} {R:Prop} (h:w.heap[g]?=some (.cells #[v0,v1,v2,v3] t (0,0))) (r:R):w.cell? ⟨g,0,none⟩=some v0∧w.cell? ⟨g,1,none⟩=some v1∧w.cell? ⟨g,2,none⟩=some v2∧w.cell? ⟨g,3,none⟩=some v3∧R:=⟨(aQ h 0).trans rfl,(aQ h 1).trans rfl,(aQ h 2).trans rfl,(aQ h 3).trans rfl,r⟩
theorem N7 {w:World} {g:Nat} {t:TypeId} {v0 v1 v2 v3 v4:Value} (h:w.heap[g]?=some (.cells #[v0,v1,v2,v3,v4] t (0,0))):w.cell? ⟨g,0,none⟩=some v0∧w.cell? ⟨g,1,none⟩=some v1∧w.cell? ⟨g,2,none⟩=some v2∧w.cell? ⟨g,3,none⟩=some v3∧w.cell? ⟨g,4,none⟩=some v4:=⟨(aQ h 0).trans rfl,(aQ h 1).trans rfl,(aQ h 2).trans rfl,(aQ h 3).trans rfl,(aQ h 4).trans rfl⟩
theorem jX {w:World} {g:Nat} {t:TypeId} {v0 v1 v2 v3 v4 v5:Value} (h:w.heap[g]?=some (.cells #[v0,v1,v2,v3,v4,v5] t (0,0))):w.cell? ⟨g,0,none⟩=some v0∧w.cell? ⟨g,1,none⟩=some v1∧w.cell? ⟨g,2,none⟩=some v2∧w.cell? ⟨g,3,none⟩=some v3∧w.cell? ⟨g,4,none⟩=some v4∧w.cell? ⟨g,5,none⟩=some v5:=⟨(aQ h 0).trans rfl,(aQ h 1).trans rfl,(aQ h 2).trans rfl,(aQ h 3).trans rfl,(aQ h 4).trans rfl,(aQ h 5).trans rfl⟩
theorem iG {w:World} {g:Nat} {t:TypeId} {v0 v1 v2 v3 v4 v5 v6 v7 v8 v9 v10 v11 v12 v13:Value} (h:w.heap[g]?=some (.cells #[v0,v1,v2,v3,v4,v5,v6,v7,v8,v9,v10,v11,v12,v13] t (0,0))):w.cell? ⟨g,0,none⟩=some v0∧w.cell? ⟨g,1,none⟩=some v1∧w.cell? ⟨g,2,none⟩=some v2∧w.cell? ⟨g,3,none⟩=some v3∧w.cell? ⟨g,4,none⟩=some v4∧w.cell? ⟨g,5,none⟩=some v5∧w.cell? ⟨g,6,none⟩=some v6∧w.cell? ⟨g,7,none⟩=some v7∧w.cell? ⟨g,8,none⟩=some v8∧w.cell? ⟨g,9,none⟩=some v9∧w.cell? ⟨g,10,none⟩=some v10∧w.cell? ⟨g,11,none⟩=some v11∧w.cell? ⟨g,12,none⟩=some v12∧w.cell? ⟨g,13,none⟩=some v13:=⟨(aQ h 0).trans rfl,(aQ h 1).trans rfl,(aQ h 2).trans rfl,(aQ h 3).trans rfl,(aQ h 4).trans rfl,(aQ h 5).trans rfl,(aQ h 6).trans rfl,(aQ h 7).trans rfl,(aQ h 8).trans rfl,(aQ h 9).trans rfl,(aQ h 10).trans rfl,(aQ h 11).trans rfl,(aQ h 12).trans rfl,(aQ h 13).trans rfl⟩
theorem fF {w w':World} {p:Addr} {v:Value} (hB:Below w.heap.size w w') (h:w.cell? p=some v):w'.cell? p=some v:=(hB.cell (World.block_lt_of_cell? w _ h)).trans h
theorem uD {g g':Nat} {W:World} (hg:g'=W.heap.size) (h:g < W.heap.size):g≠g':=by rw [hg];exact Nat.ne_of_lt h
theorem uw {g g':Nat} {W:World} (hg:g'=W.heap.size) (h:g < W.heap.size):g'≠g:=by rw [hg];exact Nat.ne_of_gt h
theorem xU {w W:World} {g:Nat} (hg:g=W.heap.size) (h:Below w.heap.size w W):w.heap.size≤g:=by rw [hg];exact bU h

section
variable {P:Program} {ops:Array Oper} {Q:Exit→Act→World→Prop} {md:Region.Mode} {S:World→Prop} {ds:List Nat} {T:Bool × List (List Nat × List Nat)}
theorem bM (i:Nat) {n:Nat} {oi:Oper} {v:Value} {fuel:Nat} {l:Array Bool} {a:Act} {w:World} {a':Act}
 (h:ig P md ops Q S ds fuel (l.setIfInBounds i true) a' w) (HT:aA (kZ md ops=T):=by with_reducible assumption) (hc:EF T l.toList (l.setIfInBounds i true).toList i=true:=by kernel_rfl) (hi:ops[i]?=some oi:=by rfl) (hN:oi.dst=some n:=by rfl) (hQ:∀ c a w,Q (.panic c) (a.put oi.dst v) w→Q (.panic c) a w:=by exact fun _ _ _ h=>h)
 (h1:Region.wanted oi (yielded ops a.tmps)=true:=by rfl) (h2:∀ w',(execOp a.eval oi).run P w'=.ok (.value v) w':=by (intro w';go_simp;with_reducible rfl))
 (ha:a.put (some n) v=a':=by (simp only [Act.put,List.setIfInBounds_toArray,List.set_cons_zero,List.set_cons_succ,aV,aZ];rfl)):ig P md ops Q S ds (fuel+1) l a w :=
 JJ _ hi hN (KL HT.out hc) hQ (Or.inl ⟨h1,h2⟩) ha h
theorem dF (i n:Nat) {oi:Oper} {v:Value} {fuel:Nat} {l:Array Bool} {a:Act} {w:World} (l':Array Bool) (HT:aA (kZ md ops=T)) {a':Act}
 (h:ig P md ops Q S ds fuel l' a' w) (hc:EF T l.toList l'.toList i=true:=by kernel_rfl) (hi:ops[i]?=some oi:=by rfl) (hN:oi.dst=some n:=by rfl) (hQ:∀ c a w,Q (.panic c) (a.put oi.dst v) w→Q (.panic c) a w:=by exact fun _ _ _ h=>h)
 (h1:Region.wanted oi (yielded ops a.tmps)=true:=by rfl) (h2:∀ w',(execOp a.eval oi).run P w'=.ok (.value v) w':=by (intro w';go_simp;with_reducible rfl))
 (ha:a.put (some n) v=a':=by (simp only [Act.put,List.setIfInBounds_toArray,List.set_cons_zero,List.set_cons_succ,aV,aZ];rfl)):ig P md ops Q S ds (fuel+1) l a w :=
 JJ l' hi hN (KL HT.out hc) hQ (Or.inl ⟨h1,h2⟩) ha h
theorem lN (i:Nat) {n:Nat} {oi:Oper} {fuel:Nat} {l:Array Bool} {a:Act} {w:World} {a':Act}
 (h:ig P md ops Q S ds fuel (l.setIfInBounds i true) a' w) (HT:aA (kZ md ops=T):=by with_reducible assumption) (hc:EF T l.toList (l.setIfInBounds i true).toList i=true:=by kernel_rfl) (hi:ops[i]?=some oi:=by rfl) (hN:oi.dst=some n:=by rfl) (hQ:∀ c a w,Q (.panic c) (a.put oi.dst undef) w→Q (.panic c) a w:=by exact fun _ _ _ h=>h)
 (h1:Region.wanted oi (yielded ops a.tmps)=false:=by rfl)
 (ha:a.put (some n) undef=a':=by (simp only [Act.put,List.setIfInBounds_toArray,List.set_cons_zero,List.set_cons_succ,aV,aZ];rfl)):ig P md ops Q S ds (fuel+1) l a w :=
 JJ (v:=undef) _ hi hN (KL HT.out hc) hQ (Or.inr ⟨h1,rfl⟩) ha h
theorem yZ (i n:Nat) {oi:Oper} {fuel:Nat} {l:Array Bool} {a:Act} {w:World} (l':Array Bool) (HT:aA (kZ md ops=T)) {a':Act}
 (h:ig P md ops Q S ds fuel l' a' w) (hc:EF T l.toList l'.toList i=true:=by kernel_rfl) (hi:ops[i]?=some oi:=by rfl) (hN:oi.dst=some n:=by rfl) (hQ:∀ c a w,Q (.panic c) (a.put oi.dst undef) w→Q (.panic c) a w:=by exact fun _ _ _ h=>h)
 (h1:Region.wanted oi (yielded ops a.tmps)=false:=by rfl)
 (ha:a.put (some n) undef=a':=by (simp only [Act.put,List.setIfInBounds_toArray,List.set_cons_zero,List.set_cons_succ,aV,aZ];rfl)):ig P md ops Q S ds (fuel+1) l a w :=
 JJ (v:=undef) l' hi hN (KL HT.out hc) hQ (Or.inr ⟨h1,rfl⟩) ha h
end

section
variable {P:Program} {ops:Array Oper} {Q:Exit→Act→World→Prop} {md:Region.Mode} {S:World→Prop} {ds:List Nat} {T:Bool × List (List Nat × List Nat)} {B:List Nat}
theorem kE (i:Nat) {n:Nat} {oi:Oper} {v:Value} {fuel:Nat} {l:Array Bool} {a:Act} {w:World} (hS:S w) {a':Act}
 (h:ig P md ops Q S ds fuel (l.setIfInBounds i true) a' w) (HT:aA (kZ md ops=T):=by with_reducible assumption) (HW:aA (vF T.2 B=true):=by with_reducible assumption) (hc:Qh T B ds l.toList (l.setIfInBounds i true).toList i=true:=by kernel_rfl) (hi:ops[i]?=some oi:=by rfl) (hN:oi.dst=some n:=by rfl) (hQ:∀ c a w,Q (.panic c) (a.put oi.dst v) w→Q (.panic c) a w:=by exact fun _ _ _ h=>h)
 (h1:Region.wanted oi (yielded ops a.tmps)=true:=by rfl) (h2:∀ w',S w'→(execOp a.eval oi).run P w'=.ok (.value v) w':=by (intro w' kD;(repeat (obtain ⟨_,kD⟩:=kD));go_simp;with_reducible rfl))
 (ha:a.put (some n) v=a':=by (simp only [Act.put,List.setIfInBounds_toArray,List.set_cons_zero,List.set_cons_succ,aV,aZ];rfl)):ig P md ops Q S ds (fuel+1) l a w :=
 qX _ hi hN (MS HT.out HW.out hc) hQ (Or.inl ⟨h1,h2⟩) hS ha h
theorem j_ (i n:Nat) {oi:Oper} {v:Value} {fuel:Nat} {l:Array Bool} {a:Act} {w:World} (l':Array Bool) (HT:aA (kZ md ops=T)) (HW:aA (vF T.2 B=true)) (hS:S w) {a':Act}
 (h:ig P md ops Q S ds fuel l' a' w) (hc:Qh T B ds l.toList l'.toList i=true:=by kernel_rfl) (hi:ops[i]?=some oi:=by rfl) (hN:oi.dst=some n:=by rfl) (hQ:∀ c a w,Q (.panic c) (a.put oi.dst v) w→Q (.panic c) a w:=by exact fun _ _ _ h=>h)
 (h1:Region.wanted oi (yielded ops a.tmps)=true:=by rfl) (h2:∀ w',S w'→(execOp a.eval oi).run P w'=.ok (.value v) w':=by (intro w' kD;(repeat (obtain ⟨_,kD⟩:=kD));go_simp;with_reducible rfl))
 (ha:a.put (some n) v=a':=by (simp only [Act.put,List.setIfInBounds_toArray,List.set_cons_zero,List.set_cons_succ,aV,aZ];rfl)):ig P md ops Q S ds (fuel+1) l a w :=
 qX l' hi hN (MS HT.out HW.out hc) hQ (Or.inl ⟨h1,h2⟩) hS ha h
end
theorem gy {p0 p1:Prop} (h0:aA p0) (h1:aA p1):p0∧p1:=⟨h0.out,h1.out⟩
theorem iD {p0 p1 p2 p3:Prop} (h0:aA p0) (h1:aA p1) (h2:aA p2) (h3:aA p3):p0∧p1∧p2∧p3:=⟨h0.out,h1.out,h2.out,h3.out⟩
theorem lU {p0 p1 p2 p3 p4 p5:Prop} (h0:aA p0) (h1:aA p1) (h2:aA p2) (h3:aA p3) (h4:aA p4) (h5:aA p5):p0∧p1∧p2∧p3∧p4∧p5:=⟨h0.out,h1.out,h2.out,h3.out,h4.out,h5.out⟩
theorem iq {p0 p1 p2 p3 p4 p5 p6 p7:Prop} (h0:aA p0) (h1:aA p1) (h2:aA p2) (h3:aA p3) (h4:aA p4) (h5:aA p5) (h6:aA p6) (h7:aA p7):p0∧p1∧p2∧p3∧p4∧p5∧p6∧p7:=⟨h0.out,h1.out,h2.out,h3.out,h4.out,h5.out,h6.out,h7.out⟩
theorem aG {W:World} {p a:Addr} {u:Value} {v:Option Value} (n:aA (a.block≠p.block)) (h:W.cell? a=v):(W.setCell p u).cell? a=v:=(cell_far n.out u).trans h
theorem aJ {α:Type} {d:Kd α} {e:TypeId} {w:World} {base:Nat} {ok:Nat→Prop} {v:Value} {xs:List α} (h:Kd.R d e w base ok v xs) {p:Addr} {u:Value} (hok:∀ k,ok k→k≠p.block:=by exact fun _ hk=>hk.2):Kd.R d e (w.setCell p u) base ok v xs:=Kd.ae_ h hok u
theorem aN {p q:Prop} (H:aA q) (h:q→p:=by (intro bI;(with_reducible repeat (first|apply Kd.bW|apply Kd.bY|apply Kd.bH));exact bI)):p:=h H.out
theorem ay {p:Prop} (h:p:=by (repeat (first|(with_reducible first|exact HB.out|apply sK|apply xB|apply nZ)|(with_reducible refine jy ?_ (aA.out (by assumption)))|exact HB.out))):p:=h
theorem au {p q:Prop} (H:aA q) (h:q→p:=by (intro bI;(with_reducible repeat (first|refine fO ?_ _|refine dQ ?_|refine eP ?_ _));exact bI)):p:=h H.out
theorem bf {p:Prop} (h:p:=by (repeat' (first|(with_reducible first|refine fO ?_ _|refine dQ ?_|refine eP ?_ _)|(with_reducible exact aA.out (by assumption))|(refine kX ?_ (aA.out (by with_reducible assumption)) _)|(refine sN (cs:=?_) ?_ _ _ ?_)|rfl))):p:=h
theorem dO {P:Program} {ops:Array Oper} {Q:Exit→Act→World→Prop} {rest:List Oper} {o:Oper} {a:Act} {W:World} (N:Tmp) {cs:Array Value} (t:TypeId)
 (h:∀ g,g=W.heap.size→∀ w1,w1.heap[g]?=some (.cells cs t (0,0))→Below W.heap.size W w1→wpList P ops Q rest (a.put o.dst (.pointer (some ⟨g,0,none⟩))) w1) (hgd:o.guard=none:=by rfl) (hd:o.dst=some N:=by rfl)
 (hrun:(execOp a.eval o).run P W=.ok (.value (.pointer (some ⟨W.heap.size,0,none⟩))) (W.alloc (.cells cs t (0,0))):=by first|(go_simp;done)|(go_simp;rfl)):wpList P ops Q (o :: rest) a W:=afx hgd hd hrun h
theorem qA {w W W':World} {g0:Nat} {o0:Obj} (h0:W.heap[g0]?=some o0) (hB:Below w.heap.size w W) (hb:Below W.heap.size W W'):aA (W'.heap[g0]?=some o0)∧aA (Below w.heap.size w W'):=⟨⟨aU h0 hb⟩,⟨dV hB hb⟩⟩
theorem Hl {w W W':World} {g0 g1:Nat} {o0 o1:Obj} (h0:W.heap[g0]?=some o0) (h1:W.heap[g1]?=some o1) (hB:Below w.heap.size w W) (hb:Below W.heap.size W W'):aA (W'.heap[g0]?=some o0)∧aA (W'.heap[g1]?=some o1)∧aA (Below w.heap.size w W'):=⟨⟨aU h0 hb⟩,⟨aU h1 hb⟩,⟨dV hB hb⟩⟩
theorem mP {w W W':World} {g0 g1 g2:Nat} {o0 o1 o2:Obj} (h0:W.heap[g0]?=some o0) (h1:W.heap[g1]?=some o1) (h2:W.heap[g2]?=some o2) (hB:Below w.heap.size w W) (hb:Below W.heap.size W W'):aA (W'.heap[g0]?=some o0)∧aA (W'.heap[g1]?=some o1)∧aA (W'.heap[g2]?=some o2)∧aA (Below w.heap.size w W'):=⟨⟨aU h0 hb⟩,⟨aU h1 hb⟩,⟨aU h2 hb⟩,⟨dV hB hb⟩⟩
theorem Oj {w W W':World} {g0 g1 g2 g3:Nat} {o0 o1 o2 o3:Obj} (h0:W.heap[g0]?=some o0) (h1:W.heap[g1]?=some o1) (h2:W.heap[g2]?=some o2) (h3:W.heap[g3]?=some o3) (hB:Below w.heap.size w W) (hb:Below W.heap.size W W'):aA (W'.heap[g0]?=some o0)∧aA (W'.heap[g1]?=some o1)∧aA (W'.heap[g2]?=some o2)∧aA (W'.heap[g3]?=some o3)∧aA (Below w.heap.size w W'):=⟨⟨aU h0 hb⟩,⟨aU h1 hb⟩,⟨aU h2 hb⟩,⟨aU h3 hb⟩,⟨dV hB hb⟩⟩
theorem qJ {w W W':World} {g0 g1 g2 g3 g4:Nat} {o0 o1 o2 o3 o4:Obj} (h0:W.heap[g0]?=some o0) (h1:W.heap[g1]?=some o1) (h2:W.heap[g2]?=some o2) (h3:W.heap[g3]?=some o3) (h4:W.heap[g4]?=some o4) (hB:Below w.heap.size w W) (hb:Below W.heap.size W W'):aA (W'.heap[g0]?=some o0)∧aA (W'.heap[g1]?=some o1)∧aA (W'.heap[g2]?=some o2)∧aA (W'.heap[g3]?=some o3)∧aA (W'.heap[g4]?=some o4)∧aA (Below w.heap.size w W'):=⟨⟨aU h0 hb⟩,⟨aU h1 hb⟩,⟨aU h2 hb⟩,⟨aU h3 hb⟩,⟨aU h4 hb⟩,⟨dV hB hb⟩⟩
theorem rO {w W W':World} {g0 g1 g2 g3 g4 g5:Nat} {o0 o1 o2 o3 o4 o5:Obj} (h0:W.heap[g0]?=some o0) (h1:W.heap[g1]?=some o1) (h2:W.heap[g2]?=some o2) (h3:W.heap[g3]?=some o3) (h4:W.heap[g4]?=some o4) (h5:W.heap[g5]?=some o5) (hB:Below w.heap.size w W) (hb:Below W.heap.size W W'):aA (W'.heap[g0]?=some o0)∧aA (W'.heap[g1]?=some o1)∧aA (W'.heap[g2]?=some o2)∧aA (W'.heap[g3]?=some o3)∧aA (W'.heap[g4]?=some o4)∧aA (W'.heap[g5]?=some o5)∧aA (Below w.heap.size w W'):=⟨⟨aU h0 hb⟩,⟨aU h1 hb⟩,⟨aU h2 hb⟩,⟨aU h3 hb⟩,⟨aU h4 hb⟩,⟨aU h5 hb⟩,⟨dV hB hb⟩⟩
theorem Y0 {w W W':World} {g0 g1 g2 g3 g4 g5 g6:Nat} {o0 o1 o2 o3 o4 o5 o6:Obj} (h0:W.heap[g0]?=some o0) (h1:W.heap[g1]?=some o1) (h2:W.heap[g2]?=some o2) (h3:W.heap[g3]?=some o3) (h4:W.heap[g4]?=some o4) (h5:W.heap[g5]?=some o5) (h6:W.heap[g6]?=some o6) (hB:Below w.heap.size w W) (hb:Below W.heap.size W W'):aA (W'.heap[g0]?=some o0)∧aA (W'.heap[g1]?=some o1)∧aA (W'.heap[g2]?=some o2)∧aA (W'.heap[g3]?=some o3)∧aA (W'.heap[g4]?=some o4)∧aA (W'.heap[g5]?=some o5)∧aA (W'.heap[g6]?=some o6)∧aA (Below w.heap.size w W'):=⟨⟨aU h0 hb⟩,⟨aU h1 hb⟩,⟨aU h2 hb⟩,⟨aU h3 hb⟩,⟨aU h4 hb⟩,⟨aU h5 hb⟩,⟨aU h6 hb⟩,⟨dV hB hb⟩⟩
theorem zk {w W W':World} {g0 g1 g2 g3 g4 g5 g6 g7:Nat} {o0 o1 o2 o3 o4 o5 o6 DT:Obj} (h0:W.heap[g0]?=some o0) (h1:W.heap[g1]?=some o1) (h2:W.heap[g2]?=some o2) (h3:W.heap[g3]?=some o3) (h4:W.heap[g4]?=some o4) (h5:W.heap[g5]?=some o5) (h6:W.heap[g6]?=some o6) (h7:W.heap[g7]?=some DT) (hB:Below w.heap.size w W) (hb:Below W.heap.size W W'):aA (W'.heap[g0]?=some o0)∧aA (W'.heap[g1]?=some o1)∧aA (W'.heap[g2]?=some o2)∧aA (W'.heap[g3]?=some o3)∧aA (W'.heap[g4]?=some o4)∧aA (W'.heap[g5]?=some o5)∧aA (W'.heap[g6]?=some o6)∧aA (W'.heap[g7]?=some DT)∧aA (Below w.heap.size w W'):=⟨⟨aU h0 hb⟩,⟨aU h1 hb⟩,⟨aU h2 hb⟩,⟨aU h3 hb⟩,⟨aU h4 hb⟩,⟨aU h5 hb⟩,⟨aU h6 hb⟩,⟨aU h7 hb⟩,⟨dV hB hb⟩⟩
theorem Si {w W W':World} {g0 g1 g2 g3 g4 g5 g6 g7 g8 g9:Nat} {o0 o1 o2 o3 o4 o5 o6 DT abR abS:Obj} (h0:W.heap[g0]?=some o0) (h1:W.heap[g1]?=some o1) (h2:W.heap[g2]?=some o2) (h3:W.heap[g3]?=some o3) (h4:W.heap[g4]?=some o4) (h5:W.heap[g5]?=some o5) (h6:W.heap[g6]?=some o6) (h7:W.heap[g7]?=some DT) (h8:W.heap[g8]?=some abR) (h9:W.heap[g9]?=some abS) (hB:Below w.heap.size w W) (hb:Below W.heap.size W W'):aA (W'.heap[g0]?=some o0)∧aA (W'.heap[g1]?=some o1)∧aA (W'.heap[g2]?=some o2)∧aA (W'.heap[g3]?=some o3)∧aA (W'.heap[g4]?=some o4)∧aA (W'.heap[g5]?=some o5)∧aA (W'.heap[g6]?=some o6)∧aA (W'.heap[g7]?=some DT)∧aA (W'.heap[g8]?=some abR)∧aA (W'.heap[g9]?=some abS)∧aA (Below w.heap.size w W'):=⟨⟨aU h0 hb⟩,⟨aU h1 hb⟩,⟨aU h2 hb⟩,⟨aU h3 hb⟩,⟨aU h4 hb⟩,⟨aU h5 hb⟩,⟨aU h6 hb⟩,⟨aU h7 hb⟩,⟨aU h8 hb⟩,⟨aU h9 hb⟩,⟨dV hB hb⟩⟩
theorem jR {w W W':World} {g':Nat} {o':Obj}  (hB:Below w.heap.size w W) (hb:Below W.heap.size W W') (hbox:W'.heap[g']?=some o') (hg:g'=W.heap.size):aA (Below w.heap.size w W')∧aA (W'.heap[g']?=some o')∧aA (w.heap.size≤g')∧aA (w.heap.size≤g'):=⟨⟨dV hB hb⟩,⟨hbox⟩,⟨xU hg hB⟩,⟨xU hg hB⟩⟩
theorem oO {w W W':World} {g':Nat} {o':Obj} {g0:Nat} {o0:Obj} (h0:W.heap[g0]?=some o0) (hB:Below w.heap.size w W) (hb:Below W.heap.size W W') (hbox:W'.heap[g']?=some o') (hg:g'=W.heap.size):aA (W'.heap[g0]?=some o0)∧aA (Below w.heap.size w W')∧aA (W'.heap[g']?=some o')∧aA (w.heap.size≤g')∧aA (w.heap.size≤g')∧aA (g0≠g')∧aA (g'≠g0):=⟨⟨aU h0 hb⟩,⟨dV hB hb⟩,⟨hbox⟩,⟨xU hg hB⟩,⟨xU hg hB⟩,⟨uD hg (jT h0)⟩,⟨uw hg (jT h0)⟩⟩
theorem rP {w W W':World} {g':Nat} {o':Obj} {g0 g1:Nat} {o0 o1:Obj} (h0:W.heap[g0]?=some o0) (h1:W.heap[g1]?=some o1) (hB:Below w.heap.size w W) (hb:Below W.heap.size W W') (hbox:W'.heap[g']?=some o') (hg:g'=W.heap.size):aA (W'.heap[g0]?=some o0)∧aA (W'.heap[g1]?=some o1)∧aA (Below w.heap.size w W')∧aA (W'.heap[g']?=some o')∧aA (w.heap.size≤g')∧aA (w.heap.size≤g')∧aA (g0≠g')∧aA (g'≠g0)∧aA (g1≠g')∧aA (g'≠g1):=⟨⟨aU h0 hb⟩,⟨aU h1 hb⟩,⟨dV hB hb⟩,⟨hbox⟩,⟨xU hg hB⟩,⟨xU hg hB⟩,⟨uD hg (jT h0)⟩,⟨uw hg (jT h0)⟩,⟨uD hg (jT h1)⟩,⟨uw hg (jT h1)⟩⟩
theorem zl {w W W':World} {g':Nat} {o':Obj} {g0 g1 g2:Nat} {o0 o1 o2:Obj} (h0:W.heap[g0]?=some o0) (h1:W.heap[g1]?=some o1) (h2:W.heap[g2]?=some o2) (hB:Below w.heap.size w W) (hb:Below W.heap.size W W') (hbox:W'.heap[g']?=some o') (hg:g'=W.heap.size):aA (W'.heap[g0]?=some o0)∧aA (W'.heap[g1]?=some o1)∧aA (W'.heap[g2]?=some o2)∧aA (Below w.heap.size w W')∧aA (W'.heap[g']?=some o')∧aA (w.heap.size≤g')∧aA (w.heap.size≤g')∧aA (g0≠g')∧aA (g'≠g0)∧aA (g1≠g')∧aA (g'≠g1)∧aA (g2≠g')∧aA (g'≠g2):=⟨⟨aU h0 hb⟩,⟨aU h1 hb⟩,⟨aU h2 hb⟩,⟨dV hB hb⟩,⟨hbox⟩,⟨xU hg hB⟩,⟨xU hg hB⟩,⟨uD hg (jT h0)⟩,⟨uw hg (jT h0)⟩,⟨uD hg (jT h1)⟩,⟨uw hg (jT h1)⟩,⟨uD hg (jT h2)⟩,⟨uw hg (jT h2)⟩⟩
theorem Ho {w W W':World} {g':Nat} {o':Obj} {g0 g1 g2 g3:Nat} {o0 o1 o2 o3:Obj} (h0:W.heap[g0]?=some o0) (h1:W.heap[g1]?=some o1) (h2:W.heap[g2]?=some o2) (h3:W.heap[g3]?=some o3) (hB:Below w.heap.size w W) (hb:Below W.heap.size W W') (hbox:W'.heap[g']?=some o') (hg:g'=W.heap.size):aA (W'.heap[g0]?=some o0)∧aA (W'.heap[g1]?=some o1)∧aA (W'.heap[g2]?=some o2)∧aA (W'.heap[g3]?=some o3)∧aA (Below w.heap.size w W')∧aA (W'.heap[g']?=some o')∧aA (w.heap.size≤g')∧aA (w.heap.size≤g')∧aA (g0≠g')∧aA (g'≠g0)∧aA (g1≠g')∧aA (g'≠g1)∧aA (g2≠g')∧aA (g'≠g2)∧aA (g3≠g')∧aA (g'≠g3):=⟨⟨aU h0 hb⟩,⟨aU h1 hb⟩,⟨aU h2 hb⟩,⟨aU h3 hb⟩,⟨dV hB hb⟩,⟨hbox⟩,⟨xU hg hB⟩,⟨xU hg hB⟩,⟨uD hg (jT h0)⟩,⟨uw hg (jT h0)⟩,⟨uD hg (jT h1)⟩,⟨uw hg (jT h1)⟩,⟨uD hg (jT h2)⟩,⟨uw hg (jT h2)⟩,⟨uD hg (jT h3)⟩,⟨uw hg (jT h3)⟩⟩
theorem BQ {w W W':World} {g':Nat} {o':Obj} {g0 g1 g2 g3 g4:Nat} {o0 o1 o2 o3 o4:Obj} (h0:W.heap[g0]?=some o0) (h1:W.heap[g1]?=some o1) (h2:W.heap[g2]?=some o2) (h3:W.heap[g3]?=some o3) (h4:W.heap[g4]?=some o4) (hB:Below w.heap.size w W) (hb:Below W.heap.size W W') (hbox:W'.heap[g']?=some o') (hg:g'=W.heap.size):aA (W'.heap[g0]?=some o0)∧aA (W'.heap[g1]?=some o1)∧aA (W'.heap[g2]?=some o2)∧aA (W'.heap[g3]?=some o3)∧aA (W'.heap[g4]?=some o4)∧aA (Below w.heap.size w W')∧aA (W'.heap[g']?=some o')∧aA (w.heap.size≤g')∧aA (w.heap.size≤g')∧aA (g0≠g')∧aA (g'≠g0)∧aA (g1≠g')∧aA (g'≠g1)∧aA (g2≠g')∧aA (g'≠g2)∧aA (g3≠g')∧aA (g'≠g3)∧aA (g4≠g')∧aA (g'≠g4):=⟨⟨aU h0 hb⟩,⟨aU h1 hb⟩,⟨aU h2 hb⟩,⟨aU h3 hb⟩,⟨aU h4 hb⟩,⟨dV hB hb⟩,⟨hbox⟩,⟨xU hg hB⟩,⟨xU hg hB⟩,⟨uD hg (jT h0)⟩,⟨uw hg (jT h0)⟩,⟨uD hg (jT h1)⟩,⟨uw hg (jT h1)⟩,⟨uD hg (jT h2)⟩,⟨uw hg (jT h2)⟩,⟨uD hg (jT h3)⟩,⟨uw hg (jT h3)⟩,⟨uD hg (jT h4)⟩,⟨uw hg (jT h4)⟩⟩
theorem afN {w W W':World} {g':Nat} {o':Obj} {g0 g1 g2 g3 g4 g5:Nat} {o0 o1 o2 o3 o4 o5:Obj} (h0:W.heap[g0]?=some o0) (h1:W.heap[g1]?=some o1) (h2:W.heap[g2]?=some o2) (h3:W.heap[g3]?=some o3) (h4:W.heap[g4]?=some o4) (h5:W.heap[g5]?=some o5) (hB:Below w.heap.size w W) (hb:Below W.heap.size W W') (hbox:W'.heap[g']?=some o') (hg:g'=W.heap.size):aA (W'.heap[g0]?=some o0)∧aA (W'.heap[g1]?=some o1)∧aA (W'.heap[g2]?=some o2)∧aA (W'.heap[g3]?=some o3)∧aA (W'.heap[g4]?=some o4)∧aA (W'.heap[g5]?=some o5)∧aA (Below w.heap.size w W')∧aA (W'.heap[g']?=some o')∧aA (w.heap.size≤g')∧aA (w.heap.size≤g')∧aA (g0≠g')∧aA (g'≠g0)∧aA (g1≠g')∧aA (g'≠g1)∧aA (g2≠g')∧aA (g'≠g2)∧aA (g3≠g')∧aA (g'≠g3)∧aA (g4≠g')∧aA (g'≠g4)∧aA (g5≠g')∧aA (g'≠g5):=⟨⟨aU h0 hb⟩,⟨aU h1 hb⟩,⟨aU h2 hb⟩,⟨aU h3 hb⟩,⟨aU h4 hb⟩,⟨aU h5 hb⟩,⟨dV hB hb⟩,⟨hbox⟩,⟨xU hg hB⟩,⟨xU hg hB⟩,⟨uD hg (jT h0)⟩,⟨uw hg (jT h0)⟩,⟨uD hg (jT h1)⟩,⟨uw hg (jT h1)⟩,⟨uD hg (jT h2)⟩,⟨uw hg (jT h2)⟩,⟨uD hg (jT h3)⟩,⟨uw hg (jT h3)⟩,⟨uD hg (jT h4)⟩,⟨uw hg (jT h4)⟩,⟨uD hg (jT h5)⟩,⟨uw hg (jT h5)⟩⟩
theorem afZ {b:Nat} {w W:World} {g0:Nat} {o0:Obj} (h0:aA (W.heap[g0]?=some o0)) (hB:aA (Below b w W)):aA (W.drew.heap[g0]?=some o0)∧aA (Below b w W.drew):=⟨⟨dQ h0.out⟩,⟨nZ hB.out⟩⟩
theorem Bf {b:Nat} {w W:World} {g0 g1 g2:Nat} {o0 o1 o2:Obj} (h0:aA (W.heap[g0]?=some o0)) (h1:aA (W.heap[g1]?=some o1)) (h2:aA (W.heap[g2]?=some o2)) (hB:aA (Below b w W)):aA (W.drew.heap[g0]?=some o0)∧aA (W.drew.heap[g1]?=some o1)∧aA (W.drew.heap[g2]?=some o2)∧aA (Below b w W.drew):=⟨⟨dQ h0.out⟩,⟨dQ h1.out⟩,⟨dQ h2.out⟩,⟨nZ hB.out⟩⟩
theorem yG {b:Nat} {w W:World} {g0 g1 g2 g3:Nat} {o0 o1 o2 o3:Obj} (h0:aA (W.heap[g0]?=some o0)) (h1:aA (W.heap[g1]?=some o1)) (h2:aA (W.heap[g2]?=some o2)) (h3:aA (W.heap[g3]?=some o3)) (hB:aA (Below b w W)):aA (W.drew.heap[g0]?=some o0)∧aA (W.drew.heap[g1]?=some o1)∧aA (W.drew.heap[g2]?=some o2)∧aA (W.drew.heap[g3]?=some o3)∧aA (Below b w W.drew):=⟨⟨dQ h0.out⟩,⟨dQ h1.out⟩,⟨dQ h2.out⟩,⟨dQ h3.out⟩,⟨nZ hB.out⟩⟩
theorem Ad {b:Nat} {w W:World} {g0 g1 g2 g3 g4:Nat} {o0 o1 o2 o3 o4:Obj} (h0:aA (W.heap[g0]?=some o0)) (h1:aA (W.heap[g1]?=some o1)) (h2:aA (W.heap[g2]?=some o2)) (h3:aA (W.heap[g3]?=some o3)) (h4:aA (W.heap[g4]?=some o4)) (hB:aA (Below b w W)):aA (W.drew.heap[g0]?=some o0)∧aA (W.drew.heap[g1]?=some o1)∧aA (W.drew.heap[g2]?=some o2)∧aA (W.drew.heap[g3]?=some o3)∧aA (W.drew.heap[g4]?=some o4)∧aA (Below b w W.drew):=⟨⟨dQ h0.out⟩,⟨dQ h1.out⟩,⟨dQ h2.out⟩,⟨dQ h3.out⟩,⟨dQ h4.out⟩,⟨nZ hB.out⟩⟩
theorem xR {b:Nat} {w W:World} {g0 g1 g2 g3 g4 g5:Nat} {o0 o1 o2 o3 o4 o5:Obj} (h0:aA (W.heap[g0]?=some o0)) (h1:aA (W.heap[g1]?=some o1)) (h2:aA (W.heap[g2]?=some o2)) (h3:aA (W.heap[g3]?=some o3)) (h4:aA (W.heap[g4]?=some o4)) (h5:aA (W.heap[g5]?=some o5)) (hB:aA (Below b w W)):aA (W.drew.heap[g0]?=some o0)∧aA (W.drew.heap[g1]?=some o1)∧aA (W.drew.heap[g2]?=some o2)∧aA (W.drew.heap[g3]?=some o3)∧aA (W.drew.heap[g4]?=some o4)∧aA (W.drew.heap[g5]?=some o5)∧aA (Below b w W.drew):=⟨⟨dQ h0.out⟩,⟨dQ h1.out⟩,⟨dQ h2.out⟩,⟨dQ h3.out⟩,⟨dQ h4.out⟩,⟨dQ h5.out⟩,⟨nZ hB.out⟩⟩
theorem Y8 {b:Nat} {w W:World} {g0 g1 g2 g3 g4 g5 g6:Nat} {o0 o1 o2 o3 o4 o5 o6:Obj} (h0:aA (W.heap[g0]?=some o0)) (h1:aA (W.heap[g1]?=some o1)) (h2:aA (W.heap[g2]?=some o2)) (h3:aA (W.heap[g3]?=some o3)) (h4:aA (W.heap[g4]?=some o4)) (h5:aA (W.heap[g5]?=some o5)) (h6:aA (W.heap[g6]?=some o6)) (hB:aA (Below b w W)):aA (W.drew.heap[g0]?=some o0)∧aA (W.drew.heap[g1]?=some o1)∧aA (W.drew.heap[g2]?=some o2)∧aA (W.drew.heap[g3]?=some o3)∧aA (W.drew.heap[g4]?=some o4)∧aA (W.drew.heap[g5]?=some o5)∧aA (W.drew.heap[g6]?=some o6)∧aA (Below b w W.drew):=⟨⟨dQ h0.out⟩,⟨dQ h1.out⟩,⟨dQ h2.out⟩,⟨dQ h3.out⟩,⟨dQ h4.out⟩,⟨dQ h5.out⟩,⟨dQ h6.out⟩,⟨nZ hB.out⟩⟩
theorem Y9 {b:Nat} {w W:World} {g0 g1 g2 g3 g4 g5 g6 g7:Nat} {o0 o1 o2 o3 o4 o5 o6 DT:Obj} (h0:aA (W.heap[g0]?=some o0)) (h1:aA (W.heap[g1]?=some o1)) (h2:aA (W.heap[g2]?=some o2)) (h3:aA (W.heap[g3]?=some o3)) (h4:aA (W.heap[g4]?=some o4)) (h5:aA (W.heap[g5]?=some o5)) (h6:aA (W.heap[g6]?=some o6)) (h7:aA (W.heap[g7]?=some DT)) (hB:aA (Below b w W)):aA (W.drew.heap[g0]?=some o0)∧aA (W.drew.heap[g1]?=some o1)∧aA (W.drew.heap[g2]?=some o2)∧aA (W.drew.heap[g3]?=some o3)∧aA (W.drew.heap[g4]?=some o4)∧aA (W.drew.heap[g5]?=some o5)∧aA (W.drew.heap[g6]?=some o6)∧aA (W.drew.heap[g7]?=some DT)∧aA (Below b w W.drew):=⟨⟨dQ h0.out⟩,⟨dQ h1.out⟩,⟨dQ h2.out⟩,⟨dQ h3.out⟩,⟨dQ h4.out⟩,⟨dQ h5.out⟩,⟨dQ h6.out⟩,⟨dQ h7.out⟩,⟨nZ hB.out⟩⟩
theorem jI {w:World} {g:Nat} {t:TypeId} {cs:Array Value} (h:w.heap[g]?=some (.cells cs t (0,0))):w.frozen? ⟨g,0,none⟩=false∧w.frozen? ⟨g,1,none⟩=false∧w.frozen? ⟨g,2,none⟩=false∧w.frozen? ⟨g,3,none⟩=false∧w.frozen? ⟨g,4,none⟩=false∧w.frozen? ⟨g,5,none⟩=false∧w.frozen? ⟨g,6,none⟩=false∧w.frozen? ⟨g,7,none⟩=false∧w.frozen? ⟨g,8,none⟩=false∧w.frozen? ⟨g,9,none⟩=false∧w.frozen? ⟨g,10,none⟩=false∧w.frozen? ⟨g,11,none⟩=false∧w.frozen? ⟨g,12,none⟩=false∧w.frozen? ⟨g,13,none⟩=false:=⟨cZ h 0,cZ h 1,cZ h 2,cZ h 3,cZ h 4,cZ h 5,cZ h 6,cZ h 7,cZ h 8,cZ h 9,cZ h 10,cZ h 11,cZ h 12,cZ h 13⟩
section
variable {p:Prop}
theorem bJ (h:p:=by ((try simp only [List.map_toArray,List.map_cons,List.map_nil]);first|done|rfl|(simp only [List.length_drop,List.length_take];rfl))):p:=h
theorem bK (h:p:=by (first|rfl|(simp [sS,sU] <;> rfl)|(simp [*,sS,sU] <;> rfl))):p:=h
theorem aY (h:p:=by (first|(with_reducible assumption)|assumption)):p:=h
theorem bC (h:p:=by (first|rfl|(simp;done)|(simp [*];done))):p:=h
theorem iw (h:p:=by (repeat (first|(with_reducible first|exact HK.out|apply Kept.alloc|apply Kept.drewN|apply Kept.drew)|exact HK.out))):p:=h
theorem lH (h:p:=by (first|exact Kd.KG _ _ _ _ _|exact Kd.ae3 _ _ _ _ _|exact Kd.afn _ _ _ _ _|exact Kd.ae6 _ _ _ _ _|exact Kd.afe _ _ _ _ _)):p:=h
theorem pK (h:p:=by (repeat (first|exact (Kd.qP xK.out HB.out)|(with_reducible refine Kd.kM ?_ _)|(with_reducible refine Kd.kR ?_ _)|(with_reducible refine Kd.kQ ?_)))):p:=h
theorem qp (h:p:=by (repeat (first|exact (Kd.qP lg.out HB.out)|(with_reducible refine Kd.kM ?_ _)|(with_reducible refine Kd.kR ?_ _)|(with_reducible refine Kd.kQ ?_)))):p:=h
theorem vK (h:p:=by (repeat (first|exact (Kd.qP Kz.out HB.out)|(with_reducible refine Kd.kM ?_ _)|(with_reducible refine Kd.kR ?_ _)|(with_reducible refine Kd.kQ ?_)))):p:=h
theorem MV (h:p:=by (first|exact Nat.ne_of_lt (Nat.lt_of_lt_of_le D_ y8.out)|(rw [add_block];exact Nat.ne_of_lt (Nat.lt_of_lt_of_le D_ y8.out))|(show (Addr.add _ _).block≠_;rw [add_block];exact Nat.ne_of_lt (Nat.lt_of_lt_of_le D_ y8.out))|(dsimp only;exact Nat.ne_of_lt (Nat.lt_of_lt_of_le D_ y8.out)))):p:=h
theorem MW (h:p:=by (first|exact Nat.ne_of_lt (Nat.lt_of_lt_of_le Ea y8.out)|(rw [add_block];exact Nat.ne_of_lt (Nat.lt_of_lt_of_le Ea y8.out))|(show (Addr.add _ _).block≠_;rw [add_block];exact Nat.ne_of_lt (Nat.lt_of_lt_of_le Ea y8.out))|(dsimp only;exact Nat.ne_of_lt (Nat.lt_of_lt_of_le Ea y8.out)))):p:=h
theorem MX (h:p:=by (first|exact Nat.ne_of_lt (Nat.lt_of_lt_of_le Eb y8.out)|(rw [add_block];exact Nat.ne_of_lt (Nat.lt_of_lt_of_le Eb y8.out))|(show (Addr.add _ _).block≠_;rw [add_block];exact Nat.ne_of_lt (Nat.lt_of_lt_of_le Eb y8.out))|(dsimp only;exact Nat.ne_of_lt (Nat.lt_of_lt_of_le Eb y8.out)))):p:=h
theorem Gh (h:p:=by ((with_reducible repeat (first|apply Kd.bW|apply Kd.bY|apply Kd.bH));exact Kd.bF (aJ (aJ (aJ (aJ (aJ (aJ (Kd.bV (Kd.bV jh.out eY.out (by decide)) dB.out (by decide)) (fun _ hk=>hk.1.2))))))) (fun _ hk=>trivial))):p:=h
theorem kL (h:p:=by (repeat (first|exact pO.refl _|apply pO.step))):p:=h
theorem JX (h:p:=by exact (gu.c3 (show Kd.M aS _ _ _ (⟨jL,((aB aI dw).f1),((aB aI dw).f2)⟩:aF) [.string jL,.bool ((aB aI dw).f1),.string ((aB aI dw).f2)] from (qU _ _ _ (⟨jL,((aB aI dw).f1),((aB aI dw).f2)⟩:aF) )) (gu.none _ _))):p:=h
theorem xG (h:p:=by ((with_reducible repeat (first|apply Kd.rJ|apply Kd.rM|apply Kd.oN));exact ku.out)):p:=h
theorem lM (h:p:=by (first|omega|exact Nat.le_refl _)):p:=h
theorem yt (h:p:=by ((with_reducible repeat (first|apply Kd.rJ|apply Kd.rM|apply Kd.oN));exact o9.out)):p:=h
theorem adM (h:p:=by ((with_reducible repeat (first|refine fO ?_ _|refine dQ ?_|refine eP ?_ _));refine sN (cs:=#[.int .i64 vU,.string wK,.int .i64 xF,.bool yj,.slice none 0 0]) ?_ 4 _ rfl;(with_reducible repeat (first|refine fO ?_ _|refine dQ ?_|refine eP ?_ _));refine sN (cs:=#[.int .i64 vU,.string wK,.int .i64 xF,.bool false,.slice none 0 0]) ?_ 3 _ rfl;(with_reducible repeat (first|refine fO ?_ _|refine dQ ?_|refine eP ?_ _));refine sN (cs:=#[.int .i64 vU,.string wK,.int .i64 0,.bool false,.slice none 0 0]) ?_ 2 _ rfl;(with_reducible repeat (first|refine fO ?_ _|refine dQ ?_|refine eP ?_ _));refine sN (cs:=#[.int .i64 vU,.string (⟨#[]⟩:ByteArray),.int .i64 0,.bool false,.slice none 0 0]) ?_ 1 _ rfl;(with_reducible repeat (first|refine fO ?_ _|refine dQ ?_|refine eP ?_ _));refine sN (cs:=#[.int .i64 0,.string (⟨#[]⟩:ByteArray),.int .i64 0,.bool false,.slice none 0 0]) ?_ 0 _ rfl;(with_reducible repeat (first|refine fO ?_ _|refine dQ ?_|refine eP ?_ _));refine kX ?_ XL.out _;(with_reducible repeat (first|refine fO ?_ _|refine dQ ?_|refine eP ?_ _));exact o7.out)):p:=h
theorem adN (h:p:=by ((with_reducible repeat (first|refine fO ?_ _|refine dQ ?_|refine eP ?_ _));refine sN (cs:=#[.int .i64 nM,.string nU,.int .i64 ou,.bool oJ,.slice none 0 0]) ?_ 4 _ rfl;(with_reducible repeat (first|refine fO ?_ _|refine dQ ?_|refine eP ?_ _));refine sN (cs:=#[.int .i64 nM,.string nU,.int .i64 ou,.bool false,.slice none 0 0]) ?_ 3 _ rfl;(with_reducible repeat (first|refine fO ?_ _|refine dQ ?_|refine eP ?_ _));refine sN (cs:=#[.int .i64 nM,.string nU,.int .i64 0,.bool false,.slice none 0 0]) ?_ 2 _ rfl;(with_reducible repeat (first|refine fO ?_ _|refine dQ ?_|refine eP ?_ _));refine sN (cs:=#[.int .i64 nM,.string (⟨#[]⟩:ByteArray),.int .i64 0,.bool false,.slice none 0 0]) ?_ 1 _ rfl;(with_reducible repeat (first|refine fO ?_ _|refine dQ ?_|refine eP ?_ _));refine sN (cs:=#[.int .i64 0,.string (⟨#[]⟩:ByteArray),.int .i64 0,.bool false,.slice none 0 0]) ?_ 0 _ rfl;(with_reducible repeat (first|refine fO ?_ _|refine dQ ?_|refine eP ?_ _));refine kX ?_ Gy.out _;(with_reducible repeat (first|refine fO ?_ _|refine dQ ?_|refine eP ?_ _));exact fQ.out)):p:=h
theorem JY (h:p:=by (repeat (first|(with_reducible exact xO.out)|(with_reducible refine Kd.kM ?_ _)|(with_reducible refine Kd.kR ?_ _)|(with_reducible refine Kd.kQ ?_)|exact xO.out))):p:=h
theorem JZ (h:p:=by (repeat (first|(with_reducible exact xM.out)|(with_reducible refine Kd.kM ?_ _)|(with_reducible refine Kd.kR ?_ _)|(with_reducible refine Kd.kQ ?_)|exact xM.out))):p:=h
theorem zS (h:p:=by simp only [lK,Act.put,List.setIfInBounds_toArray,List.set_cons_zero,List.set_cons_succ]):p:=h
theorem adO (h:p:=by ((with_reducible repeat (first|refine fO ?_ _|refine dQ ?_|refine eP ?_ _));refine sN (cs:=#[.string ((aB bg a2).f0),.bool ((aB bg a2).f1),.string ((aB bg a2).f2)]) ?_ 2 _ rfl;(with_reducible repeat (first|refine fO ?_ _|refine dQ ?_|refine eP ?_ _));refine sN (cs:=#[.string ((aB bg a2).f0),.bool ((aB bg a2).f1),.string (⟨#[]⟩:ByteArray)]) ?_ 2 _ rfl;(with_reducible repeat (first|refine fO ?_ _|refine dQ ?_|refine eP ?_ _));refine sN (cs:=#[.string ((aB bg a2).f0),.bool false,.string (⟨#[]⟩:ByteArray)]) ?_ 1 _ rfl;(with_reducible repeat (first|refine fO ?_ _|refine dQ ?_|refine eP ?_ _));refine sN (cs:=#[.string (⟨#[]⟩:ByteArray),.bool false,.string (⟨#[]⟩:ByteArray)]) ?_ 0 _ rfl;(with_reducible repeat (first|refine fO ?_ _|refine dQ ?_|refine eP ?_ _));exact uJ.out)):p:=h
theorem adP (h:p:=by ((with_reducible repeat (first|refine fO ?_ _|refine dQ ?_|refine eP ?_ _));refine kX ?_ Gz.out _;(with_reducible repeat (first|refine fO ?_ _|refine dQ ?_|refine eP ?_ _));refine kX ?_ Gz.out _;(with_reducible repeat (first|refine fO ?_ _|refine dQ ?_|refine eP ?_ _));refine kX ?_ Gz.out _;(with_reducible repeat (first|refine fO ?_ _|refine dQ ?_|refine eP ?_ _));refine kX ?_ Gz.out _;(with_reducible repeat (first|refine fO ?_ _|refine dQ ?_|refine eP ?_ _));refine kX ?_ Gz.out _;(with_reducible repeat (first|refine fO ?_ _|refine dQ ?_|refine eP ?_ _));refine sN (cs:=#[.slice none 0 0]) ?_ 0 _ rfl;(with_reducible repeat (first|refine fO ?_ _|refine dQ ?_|refine eP ?_ _));exact rF.out)):p:=h
theorem adQ (h:p:=by ((with_reducible repeat (first|refine fO ?_ _|refine dQ ?_|refine eP ?_ _));refine kX ?_ AV.out _;(with_reducible repeat (first|refine fO ?_ _|refine dQ ?_|refine eP ?_ _));refine kX ?_ AV.out _;(with_reducible repeat (first|refine fO ?_ _|refine dQ ?_|refine eP ?_ _));refine kX ?_ AV.out _;(with_reducible repeat (first|refine fO ?_ _|refine dQ ?_|refine eP ?_ _));refine kX ?_ AV.out _;(with_reducible repeat (first|refine fO ?_ _|refine dQ ?_|refine eP ?_ _));refine kX ?_ AV.out _;(with_reducible repeat (first|refine fO ?_ _|refine dQ ?_|refine eP ?_ _));refine sN (cs:=#[.slice none 0 0]) ?_ 0 _ rfl;(with_reducible repeat (first|refine fO ?_ _|refine dQ ?_|refine eP ?_ _));exact gB.out)):p:=h
theorem Qk (h:p:=by ((with_reducible repeat (first|apply Kd.bW|apply Kd.bY|apply Kd.bH));exact (Kd.bF (Kd.bF (aJ (aJ (aJ (aJ (aJ (aJ (Kd.bV (Kd.bV iI.out rF.out (by decide)) o7.out (by decide)) (fun _ hk=>hk.1.2))))))) (fun _ bI=>bI.1)) (fun _ bI=>bI.1)))):p:=h
theorem Ql (h:p:=by ((with_reducible repeat (first|apply Kd.bW|apply Kd.bY|apply Kd.bH));exact (Kd.bF (Kd.bF (aJ (aJ (aJ (aJ (aJ (aJ (Kd.bV (Kd.bV zW.out rF.out (by decide)) o7.out (by decide)) (fun _ hk=>hk.1.2))))))) (fun _ bI=>bI.1)) (fun _ bI=>bI.1)))):p:=h
theorem Qm (h:p:=by ((with_reducible repeat (first|apply Kd.bW|apply Kd.bY|apply Kd.bH));exact (Kd.bF (Kd.bF (aJ (aJ (aJ (aJ (aJ (aJ (Kd.bV (Kd.bV zV.out gB.out (by decide)) fQ.out (by decide)) (fun _ hk=>hk.1.2))))))) (fun _ bI=>bI.1)) (fun _ bI=>bI.1)))):p:=h
theorem Qn (h:p:=by ((with_reducible repeat (first|apply Kd.bW|apply Kd.bY|apply Kd.bH));exact (Kd.bF (Kd.bF (aJ (aJ (aJ (aJ (aJ (aJ (Kd.bV (Kd.bV nO.out gB.out (by decide)) fQ.out (by decide)) (fun _ hk=>hk.1.2))))))) (fun _ bI=>bI.1)) (fun _ bI=>bI.1)))):p:=h
theorem adR (h:p:=by ((with_reducible repeat (first|apply Kd.rJ|apply Kd.rM|apply Kd.oN));exact Kd.iZ (Kd.fJ (p:=⟨dY,4,none⟩) (Kd.fJ (p:=⟨dY,3,none⟩) (Kd.fJ (p:=⟨dY,2,none⟩) (Kd.fJ (p:=⟨dY,1,none⟩) (Kd.fJ (p:=⟨dY,0,none⟩) (Kd.fJ (p:=⟨qm,0,none⟩) (Kd.iZ (Kd.iZ uU.out (fun ak hk=>(⟨hk,hk.1.2⟩:_∧ak≠qm))) (fun ak hk=>(⟨hk,hk.1.2⟩:_∧ak≠dY))) (fun _ hk=>hk.1.2) (.slice kG oV.length kH)) (fun _ hk=>hk.2) (.int .i64 qo)) (fun _ hk=>hk.2) (.string qE)) (fun _ hk=>hk.2) (.int .i64 qF)) (fun _ hk=>hk.2) (.bool qG)) (fun _ hk=>hk.2) (.slice nN oK.length iO)) (fun _ hk=>⟨hk.1.1.1.1.1,⟨hk.1.1.1.1.2.1,⟨hk.1.1.1.1.2.2.1,⟨hk.1.1.1.1.2.2.2.1,⟨hk.1.1.1.1.2.2.2.2.1,⟨hk.1.1.1.1.2.2.2.2.2,⟨hk.1.1.1.2,hk.1.1.2⟩⟩⟩⟩⟩⟩⟩))):p:=h
theorem adS (h:p:=by ((with_reducible repeat (first|apply Kd.rJ|apply Kd.rM|apply Kd.oN));exact Kd.iZ (Kd.fJ (p:=⟨qL,4,none⟩) (Kd.fJ (p:=⟨qL,3,none⟩) (Kd.fJ (p:=⟨qL,2,none⟩) (Kd.fJ (p:=⟨qL,1,none⟩) (Kd.fJ (p:=⟨qL,0,none⟩) (Kd.fJ (p:=⟨zx,0,none⟩) (Kd.iZ (Kd.iZ ku.out (fun ak hk=>(⟨hk,hk.1.2⟩:_∧ak≠zx))) (fun ak hk=>(⟨hk,hk.1.2⟩:_∧ak≠qL))) (fun _ hk=>hk.1.2) (.slice dX bP.length dW)) (fun _ hk=>hk.2) (.int .i64 12)) (fun _ hk=>hk.2) (.string (⟨#[]⟩:ByteArray))) (fun _ hk=>hk.2) (.int .i64 0)) (fun _ hk=>hk.2) (.bool false)) (fun _ hk=>hk.2) (.slice none 0 0)) (fun _ hk=>⟨hk.1.1.1.1.1,zQ⟩))):p:=h
theorem Qo (h:p:=by exact (fun ak hk=>⟨Kd.EW (Kd.jl (aN eX)) ak hk,Kd.EW (Kd.jl (aN sF)) ak hk,Kd.uO (g:=gq) (o:=.cells #[.string jL,.bool ((aB aI dw).f1),.string ((aB aI dw).f2)] 43 (0,0)) (au d_) ak hk⟩)):p:=h
theorem Qp (h:p:=by exact (fun ak hk=>⟨Kd.EW (Kd.jl (aN eX)) ak hk,Kd.EW (Kd.jl (aN sD)) ak hk,Kd.uO (g:=gq) (o:=.cells #[.string jL,.bool ((aB aI dw).f1),.string ((aB aI dw).f2)] 43 (0,0)) (au d_) ak hk⟩)):p:=h
theorem oz (h:p:=by (have:=gG.out;omega)):p:=h
theorem D_ (h:p:=by (have:=World.block_lt_of_cell? _ _ VL;first|rwa [add_block] at this|exact this)):p:=h
theorem Ea (h:p:=by (have:=World.block_lt_of_cell? _ _ VK;first|rwa [add_block] at this|exact this)):p:=h
theorem Eb (h:p:=by (have:=World.block_lt_of_cell? _ _ VJ;first|rwa [add_block] at this|exact this)):p:=h
theorem aof (h:p:=by ((with_reducible repeat (first|apply Kd.bW|apply Kd.bY|apply Kd.bH));exact Kd.bF gU.out (fun _ hk=>⟨hk.1.1,⟨hk.2,⟨hk.1.2.1,hk.1.2.2⟩⟩⟩))):p:=h
theorem aog (h:p:=by ((with_reducible repeat (first|apply Kd.bW|apply Kd.bY|apply Kd.bH));exact Kd.bF g_.out (fun _ hk=>⟨hk.1.1,⟨hk.2,⟨hk.1.2.1,hk.1.2.2⟩⟩⟩))):p:=h
theorem aoh (h:p:=by ((with_reducible repeat (first|apply Kd.bW|apply Kd.bY|apply Kd.bH));exact Kd.bF iI.out (fun _ hk=>⟨hk.1.1,⟨hk.2,⟨hk.1.2.1,hk.1.2.2⟩⟩⟩))):p:=h
theorem Qq (h:p:=by (first|rfl|(simp [sS,sU] <;> rfl)|(simp only [← sW];first|rfl|(simp [sS,sU] <;> rfl))|(simp [*,sS,sU] <;> rfl))):p:=h
theorem aoi (h:p:=by ((with_reducible repeat (first|apply Kd.bW|apply Kd.bY|apply Kd.bH));exact Kd.bF zW.out (fun _ hk=>⟨hk.2,⟨hk.1.1.1.2,⟨hk.1.1.2,hk.1.2⟩⟩⟩))):p:=h
theorem aoj (h:p:=by ((with_reducible repeat (first|apply Kd.bW|apply Kd.bY|apply Kd.bH));exact Kd.bF uT.out (fun _ hk=>⟨hk.2,⟨hk.1.1,⟨hk.1.2.1,hk.1.2.2⟩⟩⟩))):p:=h
theorem Qr (h:p:=by ((with_reducible repeat (first|apply Kd.rJ|apply Kd.rM|apply Kd.oN));exact Kd.iZ ku.out (fun _ hk=>⟨hk.1.1.1,⟨hk.1.1.2,⟨hk.1.2,hk.2⟩⟩⟩))):p:=h
theorem Qs (h:p:=by (repeat (first|exact (Kd.dn gU.out).2.2|(with_reducible refine Kd.kM ?_ _)|(with_reducible refine Kd.kR ?_ _)|(with_reducible refine Kd.kQ ?_)))):p:=h
theorem Qu (h:p:=by (repeat (first|exact (Kd.wP o9.out).2.2|(with_reducible refine Kd.kM ?_ _)|(with_reducible refine Kd.kR ?_ _)|(with_reducible refine Kd.kQ ?_)))):p:=h
theorem aok (h:p:=by (repeat (first|exact (Kd.dn uT.out).2.2|(with_reducible refine Kd.kM ?_ _)|(with_reducible refine Kd.kR ?_ _)|(with_reducible refine Kd.kQ ?_)))):p:=h
theorem aol (h:p:=by (repeat (first|exact (Kd.dn o8.out).2.2|(with_reducible refine Kd.kM ?_ _)|(with_reducible refine Kd.kR ?_ _)|(with_reducible refine Kd.kQ ?_)))):p:=h
theorem aom (h:p:=by (repeat (first|exact (Kd.dn k_.out).2.2|(with_reducible refine Kd.kM ?_ _)|(with_reducible refine Kd.kR ?_ _)|(with_reducible refine Kd.kQ ?_)))):p:=h
theorem aon (h:p:=by ((with_reducible repeat (first|apply Kd.bW|apply Kd.bY|apply Kd.bH));exact Kd.bF gU.out (fun _ hk=>⟨hk.2,⟨hk.1.1,hk.1.2⟩⟩))):p:=h
theorem aoo (h:p:=by ((with_reducible repeat (first|apply Kd.bW|apply Kd.bY|apply Kd.bH));exact Kd.bF g_.out (fun _ hk=>⟨hk.2,⟨hk.1.1,hk.1.2⟩⟩))):p:=h
theorem aop (h:p:=by ((with_reducible repeat (first|apply Kd.bW|apply Kd.bY|apply Kd.bH));exact Kd.bF iI.out (fun _ hk=>⟨hk.2,⟨hk.1.1,hk.1.2⟩⟩))):p:=h
theorem Qv (h:p:=by ((with_reducible repeat (first|apply Kd.bW|apply Kd.bY|apply Kd.bH));exact Kd.bF eX.out (fun _ hk=>⟨⟨hk.2,hk.1.1⟩,hk.1.2⟩))):p:=h
theorem Qw (h:p:=by ((with_reducible repeat (first|apply Kd.bW|apply Kd.bY|apply Kd.bH));exact Kd.bF eX.out (fun _ hk=>⟨⟨hk.1.2,hk.1.1⟩,hk.2⟩))):p:=h
theorem Qx (h:p:=by ((with_reducible repeat (first|apply Kd.bW|apply Kd.bY|apply Kd.bH));exact Kd.bF eX.out (fun _ hk=>⟨hk.2,⟨hk.1.1,hk.1.2⟩⟩))):p:=h
theorem aoq (h:p:=by ((with_reducible repeat (first|apply Kd.bW|apply Kd.bY|apply Kd.bH));exact Kd.bF uT.out (fun _ hk=>⟨hk.1.1.2,⟨hk.1.2,hk.2⟩⟩))):p:=h
theorem aor (h:p:=by ((with_reducible repeat (first|apply Kd.bW|apply Kd.bY|apply Kd.bH));exact Kd.bF zV.out (fun _ hk=>⟨hk.1.2,⟨hk.2,hk.1.1.2⟩⟩))):p:=h
theorem aos (h:p:=by ((with_reducible repeat (first|apply Kd.bW|apply Kd.bY|apply Kd.bH));exact Kd.bF o8.out (fun _ hk=>⟨hk.1.1,⟨hk.2,hk.1.2⟩⟩))):p:=h
theorem aot (h:p:=by ((with_reducible repeat (first|apply Kd.bW|apply Kd.bY|apply Kd.bH));exact Kd.bF nO.out (fun _ hk=>⟨hk.1.1,⟨hk.2,hk.1.2⟩⟩))):p:=h
theorem aou (h:p:=by ((with_reducible repeat (first|apply Kd.bW|apply Kd.bY|apply Kd.bH));exact Kd.bF k_.out (fun _ hk=>⟨hk.1.1,⟨hk.1.2,hk.2⟩⟩))):p:=h
theorem adT (h:p:=by ((with_reducible repeat (first|apply Kd.rJ|apply Kd.rM|apply Kd.oN));exact (Kd.iZ (Kd.fJ (p:=⟨pV,13,none⟩) (Kd.fJ (p:=⟨pV,12,none⟩) (Kd.fJ (p:=⟨pV,11,none⟩) (Kd.iZ o9.out (fun ak hk=>(⟨hk,hk.2.1⟩:_∧ak≠pV))) (fun _ hk=>hk.2) (.string (⟨#[47]⟩:ByteArray))) (fun _ hk=>hk.2) (.bool true)) (fun _ hk=>hk.2) (.string (⟨#[]⟩:ByteArray))) (fun _ bI=>bI.1)))):p:=h
theorem aov (h:p:=by ((with_reducible repeat (first|apply Kd.bW|apply Kd.bY|apply Kd.bH));exact Kd.bF h_.out (fun _ hk=>⟨hk.2,hk.1⟩))):p:=h
theorem aow (h:p:=by ((with_reducible repeat (first|apply Kd.bW|apply Kd.bY|apply Kd.bH));exact Kd.bF i_.out (fun _ hk=>⟨hk.2,hk.1⟩))):p:=h
theorem aox (h:p:=by ((with_reducible repeat (first|apply Kd.bW|apply Kd.bY|apply Kd.bH));exact Kd.bF zX.out (fun _ hk=>⟨hk.1.2,hk.2⟩))):p:=h
theorem aoy (h:p:=by ((with_reducible repeat (first|apply Kd.bW|apply Kd.bY|apply Kd.bH));exact Kd.bF zf.out (fun _ hk=>hk.2))):p:=h
theorem aoz (h:p:=by ((with_reducible repeat (first|apply Kd.bW|apply Kd.bY|apply Kd.bH));exact Kd.bF nH.out (fun _ hk=>hk.2))):p:=h
theorem aoA (h:p:=by ((with_reducible repeat (first|apply Kd.bW|apply Kd.bY|apply Kd.bH));exact Kd.bF nO.out (fun _ hk=>hk.2))):p:=h
theorem aoB (h:p:=by ((with_reducible repeat (first|apply Kd.bW|apply Kd.bY|apply Kd.bH));exact Kd.bF k_.out (fun _ hk=>hk.2))):p:=h
theorem WW (h:p:=by (repeat (first|(with_reducible exact ND.out)|(with_reducible refine Kd.kM ?_ _)|(with_reducible refine Kd.kR ?_ _)|(with_reducible refine Kd.kQ ?_)|exact ND.out))):p:=h
theorem WX (h:p:=by (repeat (first|(with_reducible exact KA.out)|(with_reducible refine Kd.kM ?_ _)|(with_reducible refine Kd.kR ?_ _)|(with_reducible refine Kd.kQ ?_)|exact KA.out))):p:=h
theorem adU (h:p:=by ((try simp only [uZ]);(with_reducible repeat (first|refine fO ?_ _|refine dQ ?_|refine eP ?_ _));refine kX ?_ (by have bI:=Kd.fD lQ.out qy.out (by decide);intro e_;exact bI (by rw [e_];rfl)) _;(with_reducible repeat (first|refine fO ?_ _|refine dQ ?_|refine eP ?_ _));exact qy.out)):p:=h
theorem adV (h:p:=by ((try simp only [uZ]);(with_reducible repeat (first|refine fO ?_ _|refine dQ ?_|refine eP ?_ _));refine kX ?_ (by have bI:=Kd.fD lQ.out qx.out (by decide);intro e_;exact bI (by rw [e_];rfl)) _;(with_reducible repeat (first|refine fO ?_ _|refine dQ ?_|refine eP ?_ _));exact qx.out)):p:=h
theorem adW (h:p:=by ((try simp only [uZ]);(with_reducible repeat (first|refine fO ?_ _|refine dQ ?_|refine eP ?_ _));refine kX ?_ (by have bI:=Kd.fD lQ.out pY.out (by decide);intro e_;exact bI (by rw [e_];rfl)) _;(with_reducible repeat (first|refine fO ?_ _|refine dQ ?_|refine eP ?_ _));exact pY.out)):p:=h
theorem Qy (h:p:=by exact (fun ak hk=>Kd.uO (g:=vH) (o:=.cells #[.string iW,.bool iC,.string iM] 43 (0,0)) (au lI) ak hk)):p:=h
theorem WY (h:p:=by (repeat (first|exact (Kd.dn h_.out).2.2|(with_reducible refine Kd.kM ?_ _)|(with_reducible refine Kd.kR ?_ _)|(with_reducible refine Kd.kQ ?_)))):p:=h
theorem Qz (h:p:=by ((with_reducible repeat (first|apply Kd.rJ|apply Kd.rM|apply Kd.oN));exact sH.out)):p:=h
theorem QA (h:p:=by ((with_reducible repeat (first|apply Kd.rJ|apply Kd.rM|apply Kd.oN));exact uU.out)):p:=h
theorem WZ (h:p:=by ((with_reducible repeat (first|apply Kd.bW|apply Kd.bY|apply Kd.bH));exact Kd.bF yC.out (fun _ hk=>⟨hk.2.1,⟨hk.1,hk.2.2⟩⟩))):p:=h
theorem W9 (h:p:=by ((with_reducible repeat (first|apply Kd.bW|apply Kd.bY|apply Kd.bH));exact Kd.bF yB.out (fun _ hk=>⟨hk.2.1,⟨hk.1,hk.2.2⟩⟩))):p:=h
theorem W_ (h:p:=by ((try simp only [E5]);(try simp only [Jo]);(with_reducible repeat (first|apply Kd.bW|apply Kd.bY|apply Kd.bH));exact bn.out)):p:=h
theorem adX (h:p:=by ((with_reducible repeat (first|apply Kd.bW|apply Kd.bY|apply Kd.bH));exact (Kd.bF (Kd.bF (aJ (aJ (aJ (aJ (aJ (aJ (Kd.bV (Kd.bV h_.out rF.out (by decide)) o7.out (by decide)) (fun _ hk=>hk.1.2))))))) (fun _ bI=>bI.1)) (fun _ bI=>bI.1)))):p:=h
theorem adY (h:p:=by ((with_reducible repeat (first|apply Kd.bW|apply Kd.bY|apply Kd.bH));exact (Kd.bF (Kd.bF (aJ (aJ (aJ (aJ (aJ (aJ (Kd.bV (Kd.bV gU.out rF.out (by decide)) o7.out (by decide)) (fun _ hk=>hk.1.2))))))) (fun _ bI=>bI.1)) (fun _ bI=>bI.1)))):p:=h
theorem acY (h:p:=by ((with_reducible repeat (first|apply Kd.bW|apply Kd.bY|apply Kd.bH));exact (Kd.bF (Kd.bF (aJ (aJ (aJ (aJ (aJ (aJ (Kd.bV (Kd.bV g_.out rF.out (by decide)) o7.out (by decide)) (fun _ hk=>hk.1.2))))))) (fun _ bI=>bI.1)) (fun _ bI=>bI.1)))):p:=h
theorem acZ (h:p:=by ((with_reducible repeat (first|apply Kd.bW|apply Kd.bY|apply Kd.bH));exact (Kd.bF (Kd.bF (aJ (aJ (aJ (aJ (aJ (aJ (Kd.bV (Kd.bV i_.out rF.out (by decide)) o7.out (by decide)) (fun _ hk=>hk.1.2))))))) (fun _ bI=>bI.1)) (fun _ bI=>bI.1)))):p:=h
theorem ac0 (h:p:=by ((with_reducible repeat (first|apply Kd.bW|apply Kd.bY|apply Kd.bH));exact (Kd.bF (Kd.bF (aJ (aJ (aJ (aJ (aJ (aJ (Kd.bV (Kd.bV zX.out rF.out (by decide)) o7.out (by decide)) (fun _ hk=>hk.1.2))))))) (fun _ bI=>bI.1)) (fun _ bI=>bI.1)))):p:=h
theorem ac1 (h:p:=by ((with_reducible repeat (first|apply Kd.bW|apply Kd.bY|apply Kd.bH));exact (Kd.bF (Kd.bF (aJ (aJ (aJ (aJ (aJ (aJ (Kd.bV (Kd.bV uT.out rF.out (by decide)) o7.out (by decide)) (fun _ hk=>hk.1.2))))))) (fun _ bI=>bI.1)) (fun _ bI=>bI.1)))):p:=h
theorem ac2 (h:p:=by ((with_reducible repeat (first|apply Kd.bW|apply Kd.bY|apply Kd.bH));exact (Kd.bF (Kd.bF (aJ (aJ (aJ (aJ (aJ (aJ (Kd.bV (Kd.bV zf.out gB.out (by decide)) fQ.out (by decide)) (fun _ hk=>hk.1.2))))))) (fun _ bI=>bI.1)) (fun _ bI=>bI.1)))):p:=h
theorem ac3 (h:p:=by ((with_reducible repeat (first|apply Kd.bW|apply Kd.bY|apply Kd.bH));exact (Kd.bF (Kd.bF (aJ (aJ (aJ (aJ (aJ (aJ (Kd.bV (Kd.bV o8.out gB.out (by decide)) fQ.out (by decide)) (fun _ hk=>hk.1.2))))))) (fun _ bI=>bI.1)) (fun _ bI=>bI.1)))):p:=h
theorem ac4 (h:p:=by ((with_reducible repeat (first|apply Kd.bW|apply Kd.bY|apply Kd.bH));exact (Kd.bF (Kd.bF (aJ (aJ (aJ (aJ (aJ (aJ (Kd.bV (Kd.bV nH.out gB.out (by decide)) fQ.out (by decide)) (fun _ hk=>hk.1.2))))))) (fun _ bI=>bI.1)) (fun _ bI=>bI.1)))):p:=h
theorem ac5 (h:p:=by ((with_reducible repeat (first|apply Kd.bW|apply Kd.bY|apply Kd.bH));exact (Kd.bF (Kd.bF (aJ (aJ (aJ (aJ (aJ (aJ (Kd.bV (Kd.bV nO.out eG.out (by decide)) dZ.out (by decide)) (fun _ hk=>hk.1.2))))))) (fun _ bI=>bI.1)) (fun _ bI=>bI.1)))):p:=h
theorem ac6 (h:p:=by ((with_reducible repeat (first|apply Kd.bW|apply Kd.bY|apply Kd.bH));exact (Kd.bF (Kd.bF (aJ (aJ (aJ (aJ (aJ (aJ (Kd.bV (Kd.bV k_.out gB.out (by decide)) fQ.out (by decide)) (fun _ hk=>hk.1.2))))))) (fun _ bI=>bI.1)) (fun _ bI=>bI.1)))):p:=h
theorem ac7 (h:p:=by ((with_reducible repeat (first|apply Kd.bW|apply Kd.bY|apply Kd.bH));exact (Kd.bF (Kd.bF (aJ (aJ (aJ (aJ (aJ (aJ (Kd.bV (Kd.bV k_.out eG.out (by decide)) dZ.out (by decide)) (fun _ hk=>hk.1.2))))))) (fun _ bI=>bI.1)) (fun _ bI=>bI.1)))):p:=h
theorem Qi (h:p:=by (have:=y9.out;have:=kS.out;have:=Kw.out;have:=QS.out;have:=aeJ.out;omega)):p:=h
theorem WM (h:p:=by (repeat (first|exact JZ|(with_reducible refine Kd.kM ?_ _)|(with_reducible refine Kd.kR ?_ _)|(with_reducible refine Kd.kQ ?_)))):p:=h
theorem WO (h:p:=by (repeat (first|exact JY|(with_reducible refine Kd.kM ?_ _)|(with_reducible refine Kd.kR ?_ _)|(with_reducible refine Kd.kQ ?_)))):p:=h
theorem WQ (h:p:=by ((with_reducible repeat (first|apply Kd.bW|apply Kd.bY|apply Kd.bH));exact Kd.bF uK.out (fun _ hk=>trivial))):p:=h
theorem WR (h:p:=by ((with_reducible repeat (first|apply Kd.bW|apply Kd.bY|apply Kd.bH));exact Kd.bF Nv.out (fun _ hk=>hk.2))):p:=h
theorem WS (h:p:=by ((with_reducible repeat (first|apply Kd.bW|apply Kd.bY|apply Kd.bH));exact Kd.bF yA.out (fun _ hk=>hk.2))):p:=h
theorem ac8 (h:p:=by ((with_reducible repeat (first|apply Kd.bW|apply Kd.bY|apply Kd.bH));exact Kd.bF (aJ (aJ (aJ (aJ (aJ (aJ (Kd.bV (Kd.bV sG.out dU.out (by decide)) dh.out (by decide)) (fun _ hk=>hk.1.2))))))) (fun _ hk=>trivial))):p:=h
theorem aoe (h:p:=by ((with_reducible repeat (first|apply Kd.bW|apply Kd.bY|apply Kd.bH));exact Kd.bF (aJ (aJ (aJ (aJ (aJ (aJ (Kd.bV (Kd.bV nV.out jM.out (by decide)) iV.out (by decide)) (fun _ hk=>hk.1.2))))))) (fun _ hk=>trivial))):p:=h
theorem ac9 (h:p:=by ((with_reducible repeat (first|apply Kd.bW|apply Kd.bY|apply Kd.bH));exact Kd.bF (aJ (aJ (aJ (aJ (aJ (aJ (Kd.bV (Kd.bV um.out uH.out (by decide)) uI.out (by decide)) (fun _ hk=>hk.1.2))))))) (fun _ hk=>trivial))):p:=h
theorem WT (h:p:=by ((with_reducible repeat (first|apply Kd.bW|apply Kd.bY|apply Kd.bH));exact Kd.bF uK.out (fun _ hk=>hk.2))):p:=h
theorem zQ (h:p:=by simp [Value.ownBlock]):p:=h
theorem WU (h:p:=by (repeat (first|(with_reducible first|exact Below.refl _ _|apply sK)|exact Below.refl ..))):p:=h
theorem ac_ (h:p:=by exact (fun ak hk=>⟨Kd.EW (Kd.jl (aN eX)) ak hk,Kd.uO (g:=gq) (o:=.cells #[.string jL,.bool ((aB aI dw).f1),.string ((aB aI dw).f2)] 43 (0,0)) (au d_) ak hk⟩)):p:=h
theorem ac' (h:p:=by ((try simp only [pW]);(with_reducible repeat (first|apply Kd.bW|apply Kd.bY|apply Kd.bH));exact Kd.bF gU.out (fun _ hk=>⟨hk.2.2.1,⟨hk.2.2.2,hk.2.1⟩⟩))):p:=h
theorem ada (h:p:=by ((try simp only [pW]);(with_reducible repeat (first|apply Kd.bW|apply Kd.bY|apply Kd.bH));exact Kd.bF g_.out (fun _ hk=>⟨hk.2.2.1,⟨hk.2.2.2,hk.2.1⟩⟩))):p:=h
theorem adb (h:p:=by ((try simp only [pW]);(with_reducible repeat (first|apply Kd.bW|apply Kd.bY|apply Kd.bH));exact Kd.bF iI.out (fun _ hk=>⟨hk.2.2.1,⟨hk.2.2.2,hk.2.1⟩⟩))):p:=h
theorem ade (h:p:=by ((try simp only [pW]);(with_reducible repeat (first|apply Kd.bW|apply Kd.bY|apply Kd.bH));exact Kd.bF zW.out (fun _ hk=>⟨hk.2.1,⟨hk.2.2.1,hk.2.2.2⟩⟩))):p:=h
theorem adf (h:p:=by (repeat (first|(with_reducible exact Ri.out)|(with_reducible refine Kd.kM ?_ _)|(with_reducible refine Kd.kR ?_ _)|(with_reducible refine Kd.kQ ?_)|exact Ri.out))):p:=h
theorem adg (h:p:=by ((try simp only [pW]);(with_reducible repeat (first|apply Kd.bW|apply Kd.bY|apply Kd.bH));exact Kd.bF h_.out (fun _ hk=>⟨hk.2,hk.1⟩))):p:=h
theorem adh (h:p:=by ((try simp only [pW]);(with_reducible repeat (first|apply Kd.bW|apply Kd.bY|apply Kd.bH));exact Kd.bF i_.out (fun _ hk=>⟨hk.2,hk.1⟩))):p:=h
theorem adi (h:p:=by ((with_reducible repeat (first|apply Kd.bW|apply Kd.bY|apply Kd.bH));exact Kd.bF (aJ (Kd.bV sG.out qc.out (by decide))) (fun _ hk=>trivial))):p:=h
theorem adk (h:p:=by ((with_reducible repeat (first|apply Kd.bW|apply Kd.bY|apply Kd.bH));exact (Kd.bF (aJ (Kd.bV qH.out rZ.out (by decide))) (fun _ bI=>bI.1)))):p:=h
theorem adl (h:p:=by (repeat (first|(with_reducible first|exact HK.out|apply Kept.alloc|apply Kept.drewN|apply Kept.drew|refine Kept.setCell ?_ (.inr aeI.out) _)|exact HK.out))):p:=h
theorem adn (h:p:=by (repeat (first|(with_reducible first|exact HK.out|apply Kept.alloc|apply Kept.drewN|apply Kept.drew|refine Kept.setCell ?_ (.inr aeH.out) _)|exact HK.out))):p:=h
theorem ado (h:p:=by (repeat (first|exact (Kd.dn i_.out).2.2|(with_reducible refine Kd.kM ?_ _)|(with_reducible refine Kd.kR ?_ _)|(with_reducible refine Kd.kQ ?_)))):p:=h
theorem adp (h:p:=by (repeat (first|exact (Kd.dn iI.out).2.2|(with_reducible refine Kd.kM ?_ _)|(with_reducible refine Kd.kR ?_ _)|(with_reducible refine Kd.kQ ?_)))):p:=h
theorem adq (h:p:=by (repeat (first|exact (Kd.wP sH.out).2.2|(with_reducible refine Kd.kM ?_ _)|(with_reducible refine Kd.kR ?_ _)|(with_reducible refine Kd.kQ ?_)))):p:=h
theorem adr (h:p:=by ((with_reducible repeat (first|apply Kd.bW|apply Kd.bY|apply Kd.bH));exact Kd.bF eX.out (fun _ hk=>⟨⟨hk.2.1,hk.2.2⟩,hk.1⟩))):p:=h
theorem ads (h:p:=by ((with_reducible repeat (first|apply Kd.bW|apply Kd.bY|apply Kd.bH));exact Kd.bF eX.out (fun _ hk=>⟨hk.1.2,⟨hk.2,hk.1.1⟩⟩))):p:=h
theorem adt (h:p:=by exact (gu.c3 (show Kd.M aS _ _ _ (⟨iW,iC,iM⟩:aF) [.string iW,.bool iC,.string iM] from (qU _ _ _ (⟨iW,iC,iM⟩:aF) )) (gu.none _ _))):p:=h
theorem adu (h:p:=by ((with_reducible repeat (first|apply Kd.bW|apply Kd.bY|apply Kd.bH));exact Kd.bF sF.out (fun _ hk=>⟨hk.2,⟨hk.1.1,hk.1.2⟩⟩))):p:=h
theorem adv (h:p:=by ((with_reducible repeat (first|apply Kd.bW|apply Kd.bY|apply Kd.bH));exact Kd.bF sD.out (fun _ hk=>⟨hk.2,⟨hk.1.1,hk.1.2⟩⟩))):p:=h
theorem Qj (h:p:=by (have:=gG.out;first|omega|exact Nat.le_refl _)):p:=h
theorem adw (h:p:=by ((try simp only [pW]);(with_reducible repeat (first|refine fO ?_ _|refine dQ ?_|refine eP ?_ _));exact o7.out)):p:=h
theorem adx (h:p:=by ((try simp only [pW]);(with_reducible repeat (first|refine fO ?_ _|refine dQ ?_|refine eP ?_ _));exact rF.out)):p:=h
theorem ady (h:p:=by ((try simp only [pW]);(with_reducible repeat (first|refine fO ?_ _|refine dQ ?_|refine eP ?_ _));exact fQ.out)):p:=h
theorem adz (h:p:=by ((try simp only [pW]);(with_reducible repeat (first|refine fO ?_ _|refine dQ ?_|refine eP ?_ _));exact gB.out)):p:=h
theorem adA (h:p:=by ((try simp only [pW]);(with_reducible repeat (first|refine fO ?_ _|refine dQ ?_|refine eP ?_ _));exact eH.out)):p:=h
theorem adB (h:p:=by ((try simp only [pW]);(with_reducible repeat (first|refine fO ?_ _|refine dQ ?_|refine eP ?_ _));exact dZ.out)):p:=h
theorem adC (h:p:=by ((try simp only [pW]);(with_reducible repeat (first|refine fO ?_ _|refine dQ ?_|refine eP ?_ _));exact eG.out)):p:=h
theorem MZ (h:p:=by (have:=gG.out;have:=kS.out;omega)):p:=h
theorem adD (h:p:=by ((try simp only [pW]);(with_reducible repeat (first|refine fO ?_ _|refine dQ ?_|refine eP ?_ _));exact dK.out)):p:=h
theorem adE (h:p:=by ((try simp only [pW]);(with_reducible repeat (first|refine fO ?_ _|refine dQ ?_|refine eP ?_ _));exact dI.out)):p:=h
theorem adF (h:p:=by ((try simp only [pW]);(with_reducible repeat (first|refine fO ?_ _|refine dQ ?_|refine eP ?_ _));exact dG.out)):p:=h
theorem WV (h:p:=by (have:=gG.out;have:=Gs.out;have:=Nr.out;have:=Nu.out;omega)):p:=h
theorem adG (h:p:=by ((with_reducible repeat (first|apply Kd.bW|apply Kd.bY|apply Kd.bH));exact Kd.bF zV.out (fun _ hk=>⟨hk.1,hk.2.1⟩))):p:=h
theorem adH (h:p:=by ((with_reducible repeat (first|apply Kd.bW|apply Kd.bY|apply Kd.bH));exact Kd.bF o8.out (fun _ hk=>⟨hk.1,hk.2.1⟩))):p:=h
theorem adI (h:p:=by ((with_reducible repeat (first|apply Kd.bW|apply Kd.bY|apply Kd.bH));exact Kd.bF nO.out (fun _ hk=>⟨hk.1,hk.2.1⟩))):p:=h
theorem adJ (h:p:=by ((with_reducible repeat (first|apply Kd.bW|apply Kd.bY|apply Kd.bH));exact Kd.bF uK.out (fun _ hk=>⟨trivial,hk⟩))):p:=h
theorem adK (h:p:=by (repeat (first|exact HR0.out|(with_reducible refine Kd.kM ?_ _)|(with_reducible refine Kd.kR ?_ _)|(with_reducible refine Kd.kQ ?_)))):p:=h
theorem adL (h:p:=by ((try simp only [pW]);(with_reducible repeat (first|apply Kd.bW|apply Kd.bY|apply Kd.bH));exact zX.out)):p:=h
end

theorem qj {w:World} {g:Nat} {t:TypeId} {v0 v1 v2:Value} (h:w.heap[g]?=some (.cells #[v0,v1,v2] t (0,0))):w.cell? ⟨g,0,none⟩=some v0∧w.cell? ⟨g,1,none⟩=some v1∧w.cell? ⟨g,2,none⟩=some v2∧w.frozen? ⟨g,0,none⟩=false∧w.frozen? ⟨g,1,none⟩=false∧w.frozen? ⟨g,2,none⟩=false:=⟨(aQ h 0).trans rfl,(aQ h 1).trans rfl,(aQ h 2).trans rfl,cZ h 0,cZ h 1,cZ h 2⟩
theorem EI {w:World} {g:Nat} {t:TypeId} {v0 v1 v2 v3:Value} (h:w.heap[g]?=some (.cells #[v0,v1,v2,v3] t (0,0))):w.cell? ⟨g,0,none⟩=some v0∧w.cell? ⟨g,1,none⟩=some v1∧w.cell? ⟨g,2,none⟩=some v2∧w.cell? ⟨g,3,none⟩=some v3∧w.frozen? ⟨g,0,none⟩=false∧w.frozen? ⟨g,1,none⟩=false∧w.frozen? ⟨g,2,none⟩=false∧w.frozen? ⟨g,3,none⟩=false:=⟨(aQ h 0).trans rfl,(aQ h 1).trans rfl,(aQ h 2).trans rfl,(aQ h 3).trans rfl,cZ h 0,cZ h 1,cZ h 2,cZ h 3⟩
theorem jc {w:World} {g:Nat} {t:TypeId} {v0 v1 v2 v3 v4:Value} (h:w.heap[g]?=some (.cells #[v0,v1,v2,v3,v4] t (0,0))):w.cell? ⟨g,0,none⟩=some v0∧w.cell? ⟨g,1,none⟩=some v1∧w.cell? ⟨g,2,none⟩=some v2∧w.cell? ⟨g,3,none⟩=some v3∧w.cell? ⟨g,4,none⟩=some v4∧w.frozen? ⟨g,0,none⟩=false∧w.frozen? ⟨g,1,none⟩=false∧w.frozen? ⟨g,2,none⟩=false∧w.frozen? ⟨g,3,none⟩=false∧w.frozen? ⟨g,4,none⟩=false:=⟨(aQ h 0).trans rfl,(aQ h 1).trans rfl,(aQ h 2).trans rfl,(aQ h 3).trans rfl,(aQ h 4).trans rfl,cZ h 0,cZ h 1,cZ h 2,cZ h 3,cZ h 4⟩
theorem mg {w:World} {g:Nat} {t:TypeId} {v0 v1 v2 v3 v4 v5:Value} (h:w.heap[g]?=some (.cells #[v0,v1,v2,v3,v4,v5] t (0,0))):w.cell? ⟨g,0,none⟩=some v0∧w.cell? ⟨g,1,none⟩=some v1∧w.cell? ⟨g,2,none⟩=some v2∧w.cell? ⟨g,3,none⟩=some v3∧w.cell? ⟨g,4,none⟩=some v4∧w.cell? ⟨g,5,none⟩=some v5∧w.frozen? ⟨g,0,none⟩=false∧w.frozen? ⟨g,1,none⟩=false∧w.frozen? ⟨g,2,none⟩=false∧w.frozen? ⟨g,3,none⟩=false∧w.frozen? ⟨g,4,none⟩=false∧w.frozen? ⟨g,5,none⟩=false:=⟨(aQ h 0).trans rfl,(aQ h 1).trans rfl,(aQ h 2).trans rfl,(aQ h 3).trans rfl,(aQ h 4).trans rfl,(aQ h 5).trans rfl,cZ h 0,cZ h 1,cZ h 2,cZ h 3,cZ h 4,cZ h 5⟩
theorem afv {w:World} {g:Nat} {t:TypeId} {cs cs':Array Value} (h:w.heap[g]?=some (.cells cs t (0,0))) (e:cs=cs'):w.heap[g]?=some (.cells cs' t (0,0)):=e ▸ h
theorem DV {q p:Prop} (h:q) (k:q→p:=by (intro bI;apply afv;(repeat (first|(with_reducible first|exact bI|refine fO ?_ _|refine dQ ?_|refine eP ?_ _)|apply RJ));(try exact bI);exact rfl)):p:=k h
theorem qK {q r p:Prop} (h:q) (n:r) (k:q→r→p:=by (intro bI BF;(repeat (first|(with_reducible first|exact bI|refine fO ?_ _|refine dQ ?_|refine eP ?_ _)|refine kX ?_ BF _));(try exact bI))):p:=k h n
theorem oH {P:Program} {ops:Array Oper} {Q:Exit→Act→World→Prop} {md:Region.Mode} {S:World→Prop} {ds:List Nat} {T:Bool × List (List Nat × List Nat)} (i:Nat) {N:Option Tmp} {oi:Oper} {fuel:Nat} {l:Array Bool} {a:Act} {w:World} (h:∀ K:Act→World→Prop,Shut (∀ a' w',S w'→(S w'→ig P md ops Q S ds fuel (l.setIfInBounds i true) a' w')→K a' w')→if Region.wanted oi (yielded ops a.tmps)=true then Oper.wp P oi a w K Q else K (a.put N undef) w) (HT:aA (kZ md ops=T):=by with_reducible assumption) (hc:(wH T.2 l.toList == [i] && l.toList.set i true == (l.setIfInBounds i true).toList)=true:=by kernel_rfl) (hi:ops[i]?=some oi:=by rfl) (hN:oi.dst=N:=by rfl) (hd:i ∉ ds:=by decide):ig P md ops Q S ds (fuel+1) l a w:=iy _ hi hN (lG HT.out hc) hd h
theorem zI {P:Program} {ops:Array Oper} {Q:Exit→Act→World→Prop} {md:Region.Mode} {S:World→Prop} {ds:List Nat} {T:Bool × List (List Nat × List Nat)} (i:Nat) {N:Option Tmp} {oi:Oper} {fuel:Nat} {l:Array Bool} {a:Act} {w:World} (h:∀ K:Act→World→Prop,Shut (∀ a' w',ig P md ops Q S ds fuel (l.setIfInBounds i true) a' w'→K a' w')→if Region.wanted oi (yielded ops a.tmps)=true then Oper.wp P oi a w K Q else K (a.put N undef) w) (HT:aA (kZ md ops=T):=by with_reducible assumption) (hc:(wH T.2 l.toList == [i] && l.toList.set i true == (l.setIfInBounds i true).toList)=true:=by kernel_rfl) (hi:ops[i]?=some oi:=by rfl) (hN:oi.dst=N:=by rfl) (hd:i ∈ ds:=by decide):ig P md ops Q S ds (fuel+1) l a w:=VX _ hi hN (lG HT.out hc) hd h
theorem dJ {P:Program} {ops:Array Oper} {rest:List Oper} {o:Oper} {a:Act} {Q:Exit→Act→World→Prop} {W:World} (N:Tmp) (h:wpList P ops Q (o :: rest) a W) (_:o.dst=some N:=by rfl):wpList P ops Q (o :: rest) a W:=h
theorem cu {P:Program} {ops:Array Oper} {rest:List Oper} {o:Oper} {a:Act} {Q:Exit→Act→World→Prop} {W:World} (f:FuncId) {zs:Array Operand} {ts:Array TypeId} (h:wpList P ops Q (o :: rest) a W) (_:o.op=.call { callee:=.value (.func f),args:=zs,argTypes:=ts }:=by rfl):wpList P ops Q (o :: rest) a W:=h
theorem bZ {w:World} {g:Nat} {t:TypeId} {v0:Value} (h:w.heap[g]?=some (.cells #[v0] t (0,0))):w.cell? ⟨g,0,none⟩=some v0∧w.frozen? ⟨g,0,none⟩=false:=⟨(aQ h 0).trans rfl,cZ h 0⟩
end Go.Proofs.YthejdhjpbpamoaaGreatDoor.pU
-- min
-- tiny
