/- What the printed texts of this law say often, told once: arrays of Bools, and lemmas whose argument a tactic fills in. Conditions: none. -/
import Derived.Test.YthejdhjpbpamoaaGreatDoorProg
import Derived.Below
import Derived.Deep.Draws
import Derived.Deep.AppendLies
import Derived.Maps.AppendAt
import Derived.OwnWalk
import Derived.Laws.BytesArg
import Derived.Laws.MakeOwn
import Derived.Laws.OwnMore
import Derived.Deep.OwnRows
import Derived.Tactics
import Derived.Lib.ConvBytes
import Derived.Laws.Slices
import Derived.WalkKit
import Derived.KernelRfl
import Derived.RowKit3
import Derived.Deep.LoopGhost
import Derived.Deep.QuietTactic
import Derived.BigQuiet
import Derived.WideLaws
import Derived.Deep.DeepCutAuto
import Derived.Deep.CutBlock
import Derived.Deep.RegionHeld3
import Derived.Laws.Rows
import Derived.Lib.AppendStr
import Derived.ArgAppend
import Derived.Laws.IdiomCopy
import Derived.OrdersHeld
import Derived.Laws.BitsLemmas
import Derived.RowKit
import Derived.Lib.SliceRun
import Derived.Test.YthejdhjpbpamoaaGreatDoorShelf
import Derived.Shelf.SlicesQ.IndexFunc
import Derived.Laws.Cover1
import Derived.Test.YthejdhjpbpamoaaGreatDoorFlat
import Derived.Shelf.Spec.SlicesInsert
import Derived.Lib.AppendZerosOnto
import Derived.Laws.NewBlocks
import Derived.Test.YthejdhjpbpamoaaGreatDoorDoor
import Derived.Test.YthejdhjpbpamoaaGreatDoorWWords
import Derived.Test.YthejdhjpbpamoaaGreatDoorWLast
import Derived.Test.YthejdhjpbpamoaaGreatDoorWTab
import Derived.Test.YthejdhjpbpamoaaGreatDoorWFour
import Derived.Test.YthejdhjpbpamoaaGreatDoorWQPut
import Derived.Test.YthejdhjpbpamoaaGreatDoorWApart
import Derived.Test.YthejdhjpbpamoaaGreatDoorWArr
import Derived.Test.YthejdhjpbpamoaaGreatDoorWZeros
import Derived.Test.YthejdhjpbpamoaaGreatDoorWFoot
import Derived.Test.YthejdhjpbpamoaaGreatDoorWKept
import Derived.Test.YthejdhjpbpamoaaGreatDoorWShare
import Derived.Test.YthejdhjpbpamoaaGreatDoorWN
import Derived.Test.YthejdhjpbpamoaaGreatDoorWFootNe
import Derived.Test.YthejdhjpbpamoaaGreatDoorWAt
import Derived.Test.YthejdhjpbpamoaaGreatDoorWEqStruct
import Derived.Test.YthejdhjpbpamoaaGreatDoorWRepsOne
import Derived.Test.YthejdhjpbpamoaaGreatDoorWInv
import Derived.Test.YthejdhjpbpamoaaGreatDoorWInvWords
import Derived.Test.YthejdhjpbpamoaaGreatDoorWGuard
import Derived.Test.YthejdhjpbpamoaaGreatDoorWNEv
import Derived.Test.YthejdhjpbpamoaaGreatDoorWMore
namespace Go.Proofs.YthejdhjpbpamoaaGreatDoor.jM
open Go.RowKit Go.Proofs.YthejdhjpbpamoaaGreatDoorW.iK Go.Proofs.YthejdhjpbpamoaaGreatDoorW.lX Go.Proofs.YthejdhjpbpamoaaGreatDoorW.oV
abbrev ah (x:Int):Value:=.int .i64 x
abbrev lD (w:World) (g:Nat) (v0:Value) (R:Prop):Prop:=w.cell? ⟨g,0,none⟩=some v0∧R
abbrev y7 (w:World) (g:Nat) (v0:Value):Prop:=w.cell? ⟨g,0,none⟩=some v0
abbrev zG (w:World) (g:Nat) (v0 v1 v2:Value) (R:Prop):Prop:=w.cell? ⟨g,0,none⟩=some v0∧w.cell? ⟨g,1,none⟩=some v1∧w.cell? ⟨g,2,none⟩=some v2∧R
abbrev zH (w:World) (g:Nat) (v0 v1 v2:Value):Prop:=w.cell? ⟨g,0,none⟩=some v0∧w.cell? ⟨g,1,none⟩=some v1∧w.cell? ⟨g,2,none⟩=some v2
abbrev xB (w:World) (g:Nat) (v0 v1 v2 v3:Value) (R:Prop):Prop:=w.cell? ⟨g,0,none⟩=some v0∧w.cell? ⟨g,1,none⟩=some v1∧w.cell? ⟨g,2,none⟩=some v2∧w.cell? ⟨g,3,none⟩=some v3∧R
abbrev FY (w:World) (g:Nat) (v0 v1 v2 v3:Value):Prop:=w.cell? ⟨g,0,none⟩=some v0∧w.cell? ⟨g,1,none⟩=some v1∧w.cell? ⟨g,2,none⟩=some v2∧w.cell? ⟨g,3,none⟩=some v3
abbrev zI (w:World) (g:Nat) (v0 v1 v2 v3 v4 v5:Value):Prop:=w.cell? ⟨g,0,none⟩=some v0∧w.cell? ⟨g,1,none⟩=some v1∧w.cell? ⟨g,2,none⟩=some v2∧w.cell? ⟨g,3,none⟩=some v3∧w.cell? ⟨g,4,none⟩=some v4∧w.cell? ⟨g,5,none⟩=some v5
abbrev FZ (w:World) (a:Addr) (v0 v1 v2:Value) (R:Prop):Prop:=w.cell? a=some v0∧w.cell? ⟨a.block,a.off+1,none⟩=some v1∧w.cell? ⟨a.block,a.off+2,none⟩=some v2∧R
abbrev uw (w:World) (a:Addr) (v0 v1 v2:Value):Prop:=w.cell? a=some v0∧w.cell? ⟨a.block,a.off+1,none⟩=some v1∧w.cell? ⟨a.block,a.off+2,none⟩=some v2
abbrev Ji (w:World) (g o:Nat) (v0 v1 v2:Value) (R:Prop):Prop:=w.cell? ⟨g,o,none⟩=some v0∧w.cell? ⟨g,o+1,none⟩=some v1∧w.cell? ⟨g,o+2,none⟩=some v2∧R
abbrev Jj (w:World) (g o:Nat) (v0 v1 v2:Value):Prop:=w.cell? ⟨g,o,none⟩=some v0∧w.cell? ⟨g,o+1,none⟩=some v1∧w.cell? ⟨g,o+2,none⟩=some v2
set_option linter.unusedVariables false

abbrev ak:Bool:=true
abbrev F_:Bool:=false
theorem aB {p:Prop} (h:p:=by kernel_rfl):p:=h
theorem bC {p:Prop} [Decidable p] (h:decide p=true):p:=of_decide_eq_true h
theorem lC {p:Prop} [Decidable p] (h:p):decide p=true:=decide_eq_true h
theorem qE {p:Prop} [Decidable p] (h:¬ p):decide p=false:=decide_eq_false h
theorem cZ {α:Type} {a b:α} (h:some a=some b):a=b:=Option.some.inj h
theorem gZ {α:Type} [BEq α] [LawfulBEq α] {a b:α} (h:a=b):(a == b)=true:=beq_iff_eq.mpr h
theorem g_ {α:Type} [BEq α] [LawfulBEq α] {a b:α} (h:a=b):(a != b)=false:=bne_eq_false_iff_eq.mpr h
theorem gU {α:Type} [BEq α] [LawfulBEq α] {a b:α} (h:a≠b):(a == b)=false:=beq_eq_false_iff_ne.mpr h
theorem gV {α:Type} [BEq α] [LawfulBEq α] {a b:α} (h:a≠b):(a != b)=true:=bne_iff_ne.mpr h
theorem m_ {p:Prop} (h:p):aA p:=⟨h⟩
abbrev yA:Array Bool:=#[F_,F_,F_,F_]
abbrev yB:Array Bool:=#[ak,F_,F_,F_]
abbrev yC:Array Bool:=#[ak,ak,F_,F_]
abbrev yD:Array Bool:=#[ak,ak,ak,F_]
abbrev yE:Array Bool:=#[ak,ak,ak,ak]
abbrev zO:Array Bool:=#[ak,ak,ak,ak,ak,ak,ak,ak,F_,F_]
abbrev EG:Array Bool:=#[ak,ak,ak,ak,ak,ak,ak,ak,ak,ak,ak,ak,ak,ak,F_,F_]
abbrev CV:Array Bool:=#[F_,F_,F_,F_,F_,F_,F_,F_,F_,F_,F_,F_,F_,F_,F_,F_,F_,F_,F_,F_,F_,F_,F_,F_,F_,F_,F_,F_,F_,F_,F_,F_,F_,F_,F_]
abbrev EF:Array Bool:=#[F_,F_,F_,F_,F_,F_,F_,F_,F_,F_,F_]
abbrev YX:Array Bool:=#[ak,ak,ak,ak,ak,ak,ak,ak,F_,F_,F_]
abbrev YZ:Array Bool:=#[ak,ak,ak,ak,ak,ak,ak,ak,ak,F_,F_]
abbrev Y0:Array Bool:=#[ak,ak,ak,ak,ak,ak,ak,ak,ak,ak,F_]
abbrev Y1:Array Bool:=#[ak,ak,ak,ak,ak,ak,ak,ak,ak,ak,ak]
abbrev Y2:Array Bool:=#[ak,F_,F_,F_,F_,F_,F_,F_,F_,F_,F_]
abbrev Y3:Array Bool:=#[ak,ak,ak,ak,ak,F_,F_,F_,F_,F_,F_]
abbrev Y4:Array Bool:=#[ak,ak,ak,ak,ak,ak,F_,F_,F_,F_,F_]
abbrev Y5:Array Bool:=#[ak,ak,ak,ak,ak,ak,ak,F_,F_,F_,F_]
abbrev Gq:Array Bool:=#[F_,F_,F_,F_,F_,F_,F_,F_,F_]
abbrev SG:Array Bool:=#[ak,ak,ak,ak,ak,ak,ak,F_,F_]
abbrev SH:Array Bool:=#[ak,ak,ak,ak,ak,ak,ak,ak,F_]
abbrev SI:Array Bool:=#[ak,ak,ak,ak,ak,ak,ak,ak,ak]
abbrev Gs:Array Bool:=#[F_,F_,F_,F_,F_,F_,F_,F_,F_,F_,F_,F_,F_,F_,F_,F_]
abbrev Na:Array Bool:=#[ak,ak,ak,ak,ak,ak,ak,F_,F_,F_,F_,F_,F_,F_,F_,F_]
abbrev Nb:Array Bool:=#[ak,ak,ak,ak,ak,ak,ak,ak,ak,ak,ak,ak,ak,F_,F_,F_]
abbrev Nc:Array Bool:=#[ak,ak,ak,ak,ak,ak,ak,ak,ak,ak,ak,ak,ak,ak,ak,F_]
abbrev Nh:Array Bool:=#[ak,ak,ak,ak,ak,ak,ak,ak,ak,ak,ak,ak,ak,ak,ak,ak]
abbrev Gt:Array Bool:=#[F_,F_,F_,F_,F_]
abbrev Gu:Array Bool:=#[ak,ak,ak,ak,F_]
abbrev Gv:Array Bool:=#[ak,ak,ak,ak,ak]
abbrev Jv:Array Bool:=#[ak,ak,ak,ak,ak,ak,ak,ak,ak,ak,ak,ak,F_,F_]
abbrev Gw:Array Bool:=#[F_,F_,F_,F_,F_,F_,F_,F_,F_,F_,F_,F_,F_,F_,F_,F_,F_,F_,F_,F_,F_,F_,F_,F_]
abbrev Gx:Array Bool:=#[F_,F_,F_,F_,F_,F_,F_,F_,F_,F_,F_,F_,F_,F_,F_,F_,F_,F_,F_,F_,F_,F_,F_,F_,F_,F_,F_,F_,F_,F_,F_]
abbrev YL:Array Bool:=#[ak,F_,ak,F_,F_,F_,F_,F_,F_,F_,F_]
abbrev YM:Array Bool:=#[ak,F_,ak,F_,ak,F_,F_,F_,F_,F_,F_]
abbrev YN:Array Bool:=#[ak,ak,ak,F_,ak,F_,F_,F_,F_,F_,F_]
abbrev Jq:Array Bool:=#[F_,F_,F_,F_,F_,F_,F_,F_,F_,F_,F_,F_,F_]
abbrev Rt:Array Bool:=#[ak,ak,ak,ak,F_,F_,F_,F_,F_,F_,F_,F_,F_,F_,F_,F_]
abbrev Ru:Array Bool:=#[ak,ak,ak,ak,ak,F_,F_,F_,F_,F_,F_,F_,F_,F_,F_,F_]
abbrev Rw:Array Bool:=#[ak,ak,ak,ak,ak,ak,F_,F_,F_,F_,F_,F_,F_,F_,F_,F_]
abbrev Rx:Array Bool:=#[ak,ak,ak,ak,ak,ak,ak,ak,F_,F_,F_,F_,F_,F_,F_,F_]
abbrev Ry:Array Bool:=#[ak,ak,ak,ak,ak,ak,ak,ak,ak,F_,F_,F_,F_,F_,F_,F_]
abbrev Rz:Array Bool:=#[ak,ak,ak,ak,ak,ak,ak,ak,ak,ak,ak,ak,F_,F_,F_,F_]
abbrev Jr:Array Bool:=#[ak,ak,ak,ak,ak,F_,ak,ak,F_,F_]
abbrev Js:Array Bool:=#[F_,ak,F_,F_,F_]
abbrev Jt:Array Bool:=#[ak,ak,F_,F_,F_]
abbrev Ju:Array Bool:=#[ak,ak,ak,F_,F_]
abbrev RD:Array Bool:=#[ak,ak,ak,ak,ak,ak,ak,ak,ak,ak,F_,F_,F_,F_,F_,F_]
abbrev RF:Array Bool:=#[ak,ak,ak,ak,ak,ak,ak,ak,ak,ak,ak,F_,F_,F_,F_,F_]
abbrev MO:Array Bool:=#[F_,F_,F_,F_,F_,F_,F_,F_,F_,F_]
abbrev MP:Array Bool:=#[F_,ak,F_,F_,F_,F_,F_,F_,F_,F_]
abbrev MQ:Array Bool:=#[F_,ak,F_,ak,F_,F_,F_,F_,F_,F_]
abbrev MR:Array Bool:=#[ak,ak,ak,ak,ak,ak,ak,F_,F_,F_]
abbrev MS:Array Bool:=#[ak,ak,ak,ak,ak,ak,ak,ak,ak,F_]
abbrev MV:Array Bool:=#[ak,ak,ak,ak,ak,ak,ak,ak,ak,ak]
abbrev MW:Array Bool:=#[F_,F_,F_,F_,F_,F_,F_,F_,F_,F_,F_,F_,F_,F_,F_]
abbrev RG:Array Bool:=#[F_,F_,ak,F_,F_,F_,F_,F_,F_]
abbrev YO:Array Bool:=#[F_,F_,ak,F_,F_,F_,F_,F_,F_,F_,F_,F_,F_,F_,F_,F_]
abbrev YP:Array Bool:=#[F_,F_,ak,ak,F_,F_,F_,F_,F_,F_,F_,F_,F_,F_,F_,F_]
abbrev MX:Array Bool:=#[ak,ak,ak,ak,ak,F_,F_,F_,F_,F_]
abbrev MZ:Array Bool:=#[F_,F_,F_,F_,F_,F_,F_,F_,F_,F_,F_,F_,F_,F_,F_,F_,F_,F_]
abbrev M_:Array Bool:=#[F_,F_,F_,F_,F_,F_,F_,F_,F_,F_,F_,F_,F_,F_,F_,F_,F_,F_,F_,F_,F_]
abbrev YQ:Array Bool:=#[ak,ak,F_,F_,F_,F_,F_,F_,F_,F_,F_,F_,F_,F_,F_,F_,F_,F_,F_,F_,F_]
abbrev RH:Array Bool:=#[ak,F_,F_,F_,F_,F_,F_,F_,F_,F_,F_,F_,F_,F_,F_,F_]
abbrev RI:Array Bool:=#[ak,ak,F_,F_,F_,F_,F_,F_,F_,F_,F_,F_,F_,F_,F_,F_]
abbrev RJ:Array Bool:=#[ak,ak,ak,F_,F_,F_,F_,F_,F_,F_,F_,F_,F_,F_,F_,F_]
abbrev RN:Array Bool:=#[F_,ak,ak,ak,F_,F_,F_,F_,F_,F_]
abbrev RP:Array Bool:=#[F_,ak,ak,ak,ak,F_,F_,F_,F_,F_]
abbrev RQ:Array Bool:=#[F_,ak,ak,ak,ak,F_,ak,F_,F_,F_]
abbrev RS:Array Bool:=#[ak,ak,ak,ak,ak,F_,ak,F_,F_,F_]
abbrev RU:Array Bool:=#[F_,ak,ak,ak,ak,F_,ak,ak,F_,F_]
abbrev RV:Array Bool:=#[F_,F_,ak,ak,F_,F_,F_,F_,F_]
abbrev RX:Array Bool:=#[F_,F_,ak,ak,ak,F_,F_,F_,F_]
abbrev RY:Array Bool:=#[F_,F_,ak,ak,ak,ak,F_,F_,F_]
abbrev RZ:Array Bool:=#[F_,F_,ak,ak,ak,ak,ak,F_,F_]
abbrev R_:Array Bool:=#[ak,F_,ak,ak,ak,ak,ak,F_,F_]
abbrev Si:Array Bool:=#[F_,F_,F_,F_,F_,F_,F_,F_,F_,F_,F_,F_,F_,F_]
abbrev YR:Array Bool:=#[ak,ak,ak,ak,ak,F_,F_,F_,F_,F_,F_,F_,F_,F_]
abbrev YS:Array Bool:=#[ak,ak,ak,ak,ak,ak,F_,F_,F_,F_,F_,F_,F_,F_]
abbrev Sj:Array Bool:=#[ak,ak,ak,ak,ak,ak,ak,F_,F_,F_,F_,ak,F_,F_]
abbrev YT:Array Bool:=#[ak,ak,ak,ak,ak,ak,ak,ak,ak,ak,F_,F_,F_,F_]
abbrev YU:Array Bool:=#[ak,ak,ak,ak,ak,ak,ak,ak,ak,ak,ak,F_,F_,F_]
abbrev Sl:Array Bool:=#[ak,ak,ak,ak,ak,ak,ak,ak,F_,F_,F_,ak,F_,F_]
abbrev Sm:Array Bool:=#[ak,ak,ak,ak,ak,ak,ak,ak,ak,F_,F_,ak,F_,F_]
abbrev Sr:Array Bool:=#[ak,ak,ak,ak,ak,ak,ak,ak,ak,ak,F_,ak,F_,F_]
abbrev YV:Array Bool:=#[ak,ak,ak,ak,ak,ak,ak,ak,ak,ak,ak,ak,ak,F_]
abbrev YW:Array Bool:=#[ak,ak,ak,ak,ak,ak,ak,ak,ak,ak,ak,ak,ak,ak]
abbrev Sv:Array Bool:=#[ak,ak,ak,ak,ak,ak,ak,ak,ak,F_,F_,F_,F_,ak,F_,F_]
abbrev Sz:Array Bool:=#[ak,ak,ak,ak,ak,ak,ak,ak,ak,ak,F_,F_,F_,ak,F_,F_]
abbrev SA:Array Bool:=#[ak,ak,ak,ak,ak,ak,ak,ak,ak,ak,ak,F_,F_,ak,F_,F_]
abbrev SB:Array Bool:=#[ak,ak,ak,ak,ak,ak,ak,ak,ak,ak,ak,ak,F_,ak,F_,F_]
abbrev SC:Array Bool:=#[F_,F_,F_,F_,F_,F_,F_,F_]
abbrev SE:Array Bool:=#[F_,F_,F_,F_,F_,F_,F_,F_,F_,F_,F_,F_,F_,F_,F_,F_,F_]
section
variable {P:Program} {ops:Array Oper} {Q:Exit→Act→World→Prop} {md:Region.Mode} {S:World→Prop} {ds:List Nat}
theorem xZ {i:Nat} {N:Option Tmp} {oi:Oper} {v:Value} {fuel:Nat} {l:Array Bool} {a:Act} {w:World} (l':Array Bool) (hc:Gj md ops l l' i=true) {a':Act}
 (h:jA P md ops Q S ds fuel l' a' w) (hi:ops[i]?=some oi:=by rfl) (hN:oi.dst=N:=by rfl) (hQ:∀ c a w,Q (.panic c) (a.put oi.dst v) w→Q (.panic c) a w:=by exact fun _ _ _ h=>h)
 (h1:Region.wanted oi (yielded ops a.tmps)=true:=by rfl) (h2:∀ w',(execOp a.eval oi).run P w'=.ok (.value v) w':=by (intro w';go_simp;with_reducible rfl))
 (ha:a.put N v=a':=by (simp only [Act.put,List.setIfInBounds_toArray,List.set_cons_zero,List.set_cons_succ,bI,bY];rfl)):jA P md ops Q S ds (fuel+1) l a w :=
 Io l' hi hN hc hQ (Or.inl ⟨h1,h2⟩) ha h
end

section
variable {P:Program} {ops:Array Oper} {Q:Exit→Act→World→Prop} {md:Region.Mode} {S:World→Prop} {ds:List Nat}
theorem fD (N:Option Tmp) {fuel:Nat} {l:Array Bool} {a0 a':Act} {v:Value} {w:World} (h:jA P md ops Q S ds fuel l a' w)
 (ha:a0.put N v=a':=by (simp only [Act.put,List.setIfInBounds_toArray,List.set_cons_zero,List.set_cons_succ,bI,bY];rfl)):jA P md ops Q S ds fuel l (a0.put N v) w:=rW ha h
end

theorem a_ {p:Prop} (h:p):aA p:=⟨h⟩
theorem p_ {p q:Prop} (h:p) (k:q):aA p∧q:=⟨⟨h⟩,k⟩
theorem fM {p q:Prop} (h:p) (k:q):p∧q:=⟨h,k⟩
theorem qC {w:World} {g:Nat} {t:TypeId} {v0 v1 v2:Value} (h:w.heap[g]?=some (.cells #[v0,v1,v2] t (0,0))):w.cell? ⟨g,0,none⟩=some v0∧w.cell? ⟨g,1,none⟩=some v1∧w.cell? ⟨g,2,none⟩=some v2:=⟨(aO h 0).trans rfl,(aO h 1).trans rfl,(aO h 2).trans rfl⟩
theorem vC {w:World} {g:Nat} {t:TypeId} {v0 v1 v2:Value} {R:Prop} (h:w.heap[g]?=some (.cells #[v0,v1,v2] t (0,0))) (r:R):w.cell? ⟨g,0,none⟩=some v0∧w.cell? ⟨g,1,none⟩=some v1∧w.cell? ⟨g,2,none⟩=some v2∧R:=⟨(aO h 0).trans rfl,(aO h 1).trans rfl,(aO h 2).trans rfl,r⟩
theorem tY {w:World} {g:Nat} {t:TypeId} {v0 v1 v2 v3:Value} (h:w.heap[g]?=some (.cells #[v0,v1,v2,v3] t (0,0))):w.cell? ⟨g,0,none⟩=some v0∧w.cell? ⟨g,1,none⟩=some v1∧w.cell? ⟨g,2,none⟩=some v2∧w.cell? ⟨g,3,none⟩=some v3:=⟨(aO h 0).trans rfl,(aO h 1).trans rfl,(aO h 2).trans rfl,(aO h 3).trans rfl⟩
theorem nK {w:World} {g:Nat} {t:TypeId} {v0 v1 v2 v3:Value} {R:Prop} (h:w.heap[g]?=some (.cells #[v0,v1,v2,v3] t (0,0))) (r:R):w.cell? ⟨g,0,none⟩=some v0∧w.cell? ⟨g,1,none⟩=some v1∧w.cell? ⟨g,2,none⟩=some v2∧w.cell? ⟨g,3,none⟩=some v3∧R:=⟨(aO h 0).trans rfl,(aO h 1).trans rfl,(aO h 2).trans rfl,(aO h 3).trans rfl,r⟩
theorem qh {w:World} {g:Nat} {t:TypeId} {v0 v1 v2 v3 v4 v5:Value} (h:w.heap[g]?=some (.cells #[v0,v1,v2,v3,v4,v5] t (0,0))):w.cell? ⟨g,0,none⟩=some v0∧w.cell? ⟨g,1,none⟩=some v1∧w.cell? ⟨g,2,none⟩=some v2∧w.cell? ⟨g,3,none⟩=some v3∧w.cell? ⟨g,4,none⟩=some v4∧w.cell? ⟨g,5,none⟩=some v5:=⟨(aO h 0).trans rfl,(aO h 1).trans rfl,(aO h 2).trans rfl,(aO h 3).trans rfl,(aO h 4).trans rfl,(aO h 5).trans rfl⟩
theorem gu {w w':World} {p:Addr} {v:Value} (hB:Below w.heap.size w w') (h:w.cell? p=some v):w'.cell? p=some v:=(hB.cell (World.block_lt_of_cell? w _ h)).trans h
theorem kW {g g':Nat} {W:World} (hg:g'=W.heap.size) (h:g < W.heap.size):g≠g':=by rw [hg];exact Nat.ne_of_lt h
theorem kU {g g':Nat} {W:World} (hg:g'=W.heap.size) (h:g < W.heap.size):g'≠g:=by rw [hg];exact Nat.ne_of_gt h
theorem qW {w W:World} {g:Nat} (hg:g=W.heap.size) (h:Below w.heap.size w W):w.heap.size≤g:=by rw [hg];exact dO h

section
variable {P:Program} {ops:Array Oper} {Q:Exit→Act→World→Prop} {md:Region.Mode} {S:World→Prop} {ds:List Nat} {T:Bool × List (List Nat × List Nat)}
theorem aI (i:Nat) {n:Nat} {oi:Oper} {v:Value} {fuel:Nat} {l:Array Bool} {a:Act} {w:World} {a':Act}
 (h:jA P md ops Q S ds fuel (l.setIfInBounds i true) a' w) (HT:aA (kZ md ops=T):=by with_reducible assumption) (hc:Ew T l.toList (l.setIfInBounds i true).toList i=true:=by kernel_rfl) (hi:ops[i]?=some oi:=by rfl) (hN:oi.dst=some n:=by rfl) (hQ:∀ c a w,Q (.panic c) (a.put oi.dst v) w→Q (.panic c) a w:=by exact fun _ _ _ h=>h)
 (h1:Region.wanted oi (yielded ops a.tmps)=true:=by rfl) (h2:∀ w',(execOp a.eval oi).run P w'=.ok (.value v) w':=by (intro w';go_simp;with_reducible rfl))
 (ha:a.put (some n) v=a':=by (simp only [Act.put,List.setIfInBounds_toArray,List.set_cons_zero,List.set_cons_succ,bI,bY];rfl)):jA P md ops Q S ds (fuel+1) l a w :=
 Io _ hi hN (Jl HT.out hc) hQ (Or.inl ⟨h1,h2⟩) ha h
theorem eY (i n:Nat) {oi:Oper} {v:Value} {fuel:Nat} {l:Array Bool} {a:Act} {w:World} (l':Array Bool) (HT:aA (kZ md ops=T)) {a':Act}
 (h:jA P md ops Q S ds fuel l' a' w) (hc:Ew T l.toList l'.toList i=true:=by kernel_rfl) (hi:ops[i]?=some oi:=by rfl) (hN:oi.dst=some n:=by rfl) (hQ:∀ c a w,Q (.panic c) (a.put oi.dst v) w→Q (.panic c) a w:=by exact fun _ _ _ h=>h)
 (h1:Region.wanted oi (yielded ops a.tmps)=true:=by rfl) (h2:∀ w',(execOp a.eval oi).run P w'=.ok (.value v) w':=by (intro w';go_simp;with_reducible rfl))
 (ha:a.put (some n) v=a':=by (simp only [Act.put,List.setIfInBounds_toArray,List.set_cons_zero,List.set_cons_succ,bI,bY];rfl)):jA P md ops Q S ds (fuel+1) l a w :=
 Io l' hi hN (Jl HT.out hc) hQ (Or.inl ⟨h1,h2⟩) ha h
theorem bf (i:Nat) {n:Nat} {oi:Oper} {fuel:Nat} {l:Array Bool} {a:Act} {w:World} {a':Act}
 (h:jA P md ops Q S ds fuel (l.setIfInBounds i true) a' w) (HT:aA (kZ md ops=T):=by with_reducible assumption) (hc:Ew T l.toList (l.setIfInBounds i true).toList i=true:=by kernel_rfl) (hi:ops[i]?=some oi:=by rfl) (hN:oi.dst=some n:=by rfl) (hQ:∀ c a w,Q (.panic c) (a.put oi.dst undef) w→Q (.panic c) a w:=by exact fun _ _ _ h=>h)
 (h1:Region.wanted oi (yielded ops a.tmps)=false:=by rfl)
 (ha:a.put (some n) undef=a':=by (simp only [Act.put,List.setIfInBounds_toArray,List.set_cons_zero,List.set_cons_succ,bI,bY];rfl)):jA P md ops Q S ds (fuel+1) l a w :=
 Io (v:=undef) _ hi hN (Jl HT.out hc) hQ (Or.inr ⟨h1,rfl⟩) ha h
theorem uo (i n:Nat) {oi:Oper} {fuel:Nat} {l:Array Bool} {a:Act} {w:World} (l':Array Bool) (HT:aA (kZ md ops=T)) {a':Act}
 (h:jA P md ops Q S ds fuel l' a' w) (hc:Ew T l.toList l'.toList i=true:=by kernel_rfl) (hi:ops[i]?=some oi:=by rfl) (hN:oi.dst=some n:=by rfl) (hQ:∀ c a w,Q (.panic c) (a.put oi.dst undef) w→Q (.panic c) a w:=by exact fun _ _ _ h=>h)
 (h1:Region.wanted oi (yielded ops a.tmps)=false:=by rfl)
 (ha:a.put (some n) undef=a':=by (simp only [Act.put,List.setIfInBounds_toArray,List.set_cons_zero,List.set_cons_succ,bI,bY];rfl)):jA P md ops Q S ds (fuel+1) l a w :=
 Io (v:=undef) l' hi hN (Jl HT.out hc) hQ (Or.inr ⟨h1,rfl⟩) ha h
end

section
variable {P:Program} {ops:Array Oper} {Q:Exit→Act→World→Prop} {md:Region.Mode} {S:World→Prop} {ds:List Nat} {T:Bool × List (List Nat × List Nat)} {B:List Nat}
theorem fV (i:Nat) {n:Nat} {oi:Oper} {v:Value} {fuel:Nat} {l:Array Bool} {a:Act} {w:World} (hS:S w) {a':Act}
 (h:jA P md ops Q S ds fuel (l.setIfInBounds i true) a' w) (HT:aA (kZ md ops=T):=by with_reducible assumption) (HW:aA (sF T.2 B=true):=by with_reducible assumption) (hc:KA T B ds l.toList (l.setIfInBounds i true).toList i=true:=by kernel_rfl) (hi:ops[i]?=some oi:=by rfl) (hN:oi.dst=some n:=by rfl) (hQ:∀ c a w,Q (.panic c) (a.put oi.dst v) w→Q (.panic c) a w:=by exact fun _ _ _ h=>h)
 (h1:Region.wanted oi (yielded ops a.tmps)=true:=by rfl) (h2:∀ w',S w'→(execOp a.eval oi).run P w'=.ok (.value v) w':=by (intro w' vJ;(repeat (obtain ⟨_,vJ⟩:=vJ));go_simp;with_reducible rfl))
 (ha:a.put (some n) v=a':=by (simp only [Act.put,List.setIfInBounds_toArray,List.set_cons_zero,List.set_cons_succ,bI,bY];rfl)):jA P md ops Q S ds (fuel+1) l a w :=
 ng _ hi hN (AA HT.out HW.out hc) hQ (Or.inl ⟨h1,h2⟩) hS ha h
theorem pJ (i n:Nat) {oi:Oper} {v:Value} {fuel:Nat} {l:Array Bool} {a:Act} {w:World} (l':Array Bool) (HT:aA (kZ md ops=T)) (HW:aA (sF T.2 B=true)) (hS:S w) {a':Act}
 (h:jA P md ops Q S ds fuel l' a' w) (hc:KA T B ds l.toList l'.toList i=true:=by kernel_rfl) (hi:ops[i]?=some oi:=by rfl) (hN:oi.dst=some n:=by rfl) (hQ:∀ c a w,Q (.panic c) (a.put oi.dst v) w→Q (.panic c) a w:=by exact fun _ _ _ h=>h)
 (h1:Region.wanted oi (yielded ops a.tmps)=true:=by rfl) (h2:∀ w',S w'→(execOp a.eval oi).run P w'=.ok (.value v) w':=by (intro w' vJ;(repeat (obtain ⟨_,vJ⟩:=vJ));go_simp;with_reducible rfl))
 (ha:a.put (some n) v=a':=by (simp only [Act.put,List.setIfInBounds_toArray,List.set_cons_zero,List.set_cons_succ,bI,bY];rfl)):jA P md ops Q S ds (fuel+1) l a w :=
 ng l' hi hN (AA HT.out HW.out hc) hQ (Or.inl ⟨h1,h2⟩) hS ha h
end
theorem iJ {p0 p1:Prop} (h0:aA p0) (h1:aA p1):p0∧p1:=⟨h0.out,h1.out⟩
theorem jE {p0 p1 p2 p3:Prop} (h0:aA p0) (h1:aA p1) (h2:aA p2) (h3:aA p3):p0∧p1∧p2∧p3:=⟨h0.out,h1.out,h2.out,h3.out⟩
theorem kL {p0 p1 p2 p3 p4 p5:Prop} (h0:aA p0) (h1:aA p1) (h2:aA p2) (h3:aA p3) (h4:aA p4) (h5:aA p5):p0∧p1∧p2∧p3∧p4∧p5:=⟨h0.out,h1.out,h2.out,h3.out,h4.out,h5.out⟩
theorem i_ {p0 p1 p2 p3 p4 p5 p6 p7:Prop} (h0:aA p0) (h1:aA p1) (h2:aA p2) (h3:aA p3) (h4:aA p4) (h5:aA p5) (h6:aA p6) (h7:aA p7):p0∧p1∧p2∧p3∧p4∧p5∧p6∧p7:=⟨h0.out,h1.out,h2.out,h3.out,h4.out,h5.out,h6.out,h7.out⟩
theorem aY {W:World} {p a:Addr} {u:Value} {v:Option Value} (n:aA (a.block≠p.block)) (h:W.cell? a=v):(W.setCell p u).cell? a=v:=(cell_far n.out u).trans h
theorem aU {α:Type} {d:Kd α} {e:TypeId} {w:World} {base:Nat} {ok:Nat→Prop} {v:Value} {xs:List α} (h:Kd.R d e w base ok v xs) {p:Addr} {u:Value} (hok:∀ k,ok k→k≠p.block:=by exact fun _ hk=>hk.2):Kd.R d e (w.setCell p u) base ok v xs:=Kd.Yk h hok u
theorem aG {p q:Prop} (H:aA q) (h:q→p:=by (intro dV;(with_reducible repeat (first|apply Kd.dR|apply Kd.dS|apply Kd.bK));exact dV)):p:=h H.out
theorem ay {p:Prop} (h:p:=by (repeat (first|(with_reducible first|exact HB.out|apply ny|apply qm|apply k_)|(with_reducible refine iL ?_ (aA.out (by assumption)))|exact HB.out))):p:=h
theorem aj {p q:Prop} (H:aA q) (h:q→p:=by (intro dV;(with_reducible repeat (first|refine kD ?_ _|refine gW ?_|refine jG ?_ _));exact dV)):p:=h H.out
theorem bH {p:Prop} (h:p:=by (repeat' (first|(with_reducible first|refine kD ?_ _|refine gW ?_|refine jG ?_ _)|(with_reducible exact aA.out (by assumption))|(refine xK ?_ (aA.out (by with_reducible assumption)) _)|(refine uD (cs:=?_) ?_ _ _ ?_)|rfl))):p:=h
theorem dU {P:Program} {ops:Array Oper} {Q:Exit→Act→World→Prop} {rest:List Oper} {o:Oper} {a:Act} {W:World} (N:Tmp) {cs:Array Value} (t:TypeId)
 (h:∀ g,g=W.heap.size→∀ w1,w1.heap[g]?=some (.cells cs t (0,0))→Below W.heap.size W w1→wpList P ops Q rest (a.put o.dst (.pointer (some ⟨g,0,none⟩))) w1) (hgd:o.guard=none:=by rfl) (hd:o.dst=some N:=by rfl)
 (hrun:(execOp a.eval o).run P W=.ok (.value (.pointer (some ⟨W.heap.size,0,none⟩))) (W.alloc (.cells cs t (0,0))):=by first|(go_simp;done)|(go_simp;rfl)):wpList P ops Q (o :: rest) a W:=YK hgd hd hrun h
theorem tZ {w W W':World} {g0:Nat} {o0:Obj} (h0:W.heap[g0]?=some o0) (hB:Below w.heap.size w W) (hb:Below W.heap.size W W'):aA (W'.heap[g0]?=some o0)∧aA (Below w.heap.size w W'):=⟨⟨bG h0 hb⟩,⟨dI hB hb⟩⟩
theorem uF {w W W':World} {g0 g1:Nat} {o0 o1:Obj} (h0:W.heap[g0]?=some o0) (h1:W.heap[g1]?=some o1) (hB:Below w.heap.size w W) (hb:Below W.heap.size W W'):aA (W'.heap[g0]?=some o0)∧aA (W'.heap[g1]?=some o1)∧aA (Below w.heap.size w W'):=⟨⟨bG h0 hb⟩,⟨bG h1 hb⟩,⟨dI hB hb⟩⟩
theorem wO {w W W':World} {g0 g1 g2:Nat} {o0 o1 o2:Obj} (h0:W.heap[g0]?=some o0) (h1:W.heap[g1]?=some o1) (h2:W.heap[g2]?=some o2) (hB:Below w.heap.size w W) (hb:Below W.heap.size W W'):aA (W'.heap[g0]?=some o0)∧aA (W'.heap[g1]?=some o1)∧aA (W'.heap[g2]?=some o2)∧aA (Below w.heap.size w W'):=⟨⟨bG h0 hb⟩,⟨bG h1 hb⟩,⟨bG h2 hb⟩,⟨dI hB hb⟩⟩
theorem nC {w W W':World} {g0 g1 g2 g3:Nat} {o0 o1 o2 o3:Obj} (h0:W.heap[g0]?=some o0) (h1:W.heap[g1]?=some o1) (h2:W.heap[g2]?=some o2) (h3:W.heap[g3]?=some o3) (hB:Below w.heap.size w W) (hb:Below W.heap.size W W'):aA (W'.heap[g0]?=some o0)∧aA (W'.heap[g1]?=some o1)∧aA (W'.heap[g2]?=some o2)∧aA (W'.heap[g3]?=some o3)∧aA (Below w.heap.size w W'):=⟨⟨bG h0 hb⟩,⟨bG h1 hb⟩,⟨bG h2 hb⟩,⟨bG h3 hb⟩,⟨dI hB hb⟩⟩
theorem nM {w W W':World} {g0 g1 g2 g3 g4:Nat} {o0 o1 o2 o3 o4:Obj} (h0:W.heap[g0]?=some o0) (h1:W.heap[g1]?=some o1) (h2:W.heap[g2]?=some o2) (h3:W.heap[g3]?=some o3) (h4:W.heap[g4]?=some o4) (hB:Below w.heap.size w W) (hb:Below W.heap.size W W'):aA (W'.heap[g0]?=some o0)∧aA (W'.heap[g1]?=some o1)∧aA (W'.heap[g2]?=some o2)∧aA (W'.heap[g3]?=some o3)∧aA (W'.heap[g4]?=some o4)∧aA (Below w.heap.size w W'):=⟨⟨bG h0 hb⟩,⟨bG h1 hb⟩,⟨bG h2 hb⟩,⟨bG h3 hb⟩,⟨bG h4 hb⟩,⟨dI hB hb⟩⟩
theorem oZ {w W W':World} {g0 g1 g2 g3 g4 g5:Nat} {o0 o1 o2 o3 o4 o5:Obj} (h0:W.heap[g0]?=some o0) (h1:W.heap[g1]?=some o1) (h2:W.heap[g2]?=some o2) (h3:W.heap[g3]?=some o3) (h4:W.heap[g4]?=some o4) (h5:W.heap[g5]?=some o5) (hB:Below w.heap.size w W) (hb:Below W.heap.size W W'):aA (W'.heap[g0]?=some o0)∧aA (W'.heap[g1]?=some o1)∧aA (W'.heap[g2]?=some o2)∧aA (W'.heap[g3]?=some o3)∧aA (W'.heap[g4]?=some o4)∧aA (W'.heap[g5]?=some o5)∧aA (Below w.heap.size w W'):=⟨⟨bG h0 hb⟩,⟨bG h1 hb⟩,⟨bG h2 hb⟩,⟨bG h3 hb⟩,⟨bG h4 hb⟩,⟨bG h5 hb⟩,⟨dI hB hb⟩⟩
theorem kE {w W W':World} {g':Nat} {o':Obj}  (hB:Below w.heap.size w W) (hb:Below W.heap.size W W') (hbox:W'.heap[g']?=some o') (hg:g'=W.heap.size):aA (Below w.heap.size w W')∧aA (W'.heap[g']?=some o')∧aA (w.heap.size≤g')∧aA (w.heap.size≤g'):=⟨⟨dI hB hb⟩,⟨hbox⟩,⟨qW hg hB⟩,⟨qW hg hB⟩⟩
theorem qj {w W W':World} {g':Nat} {o':Obj} {g0:Nat} {o0:Obj} (h0:W.heap[g0]?=some o0) (hB:Below w.heap.size w W) (hb:Below W.heap.size W W') (hbox:W'.heap[g']?=some o') (hg:g'=W.heap.size):aA (W'.heap[g0]?=some o0)∧aA (Below w.heap.size w W')∧aA (W'.heap[g']?=some o')∧aA (w.heap.size≤g')∧aA (w.heap.size≤g')∧aA (g0≠g')∧aA (g'≠g0):=⟨⟨bG h0 hb⟩,⟨dI hB hb⟩,⟨hbox⟩,⟨qW hg hB⟩,⟨qW hg hB⟩,⟨kW hg (fO h0)⟩,⟨kU hg (fO h0)⟩⟩
theorem wu {w W W':World} {g':Nat} {o':Obj} {g0 g1:Nat} {o0 o1:Obj} (h0:W.heap[g0]?=some o0) (h1:W.heap[g1]?=some o1) (hB:Below w.heap.size w W) (hb:Below W.heap.size W W') (hbox:W'.heap[g']?=some o') (hg:g'=W.heap.size):aA (W'.heap[g0]?=some o0)∧aA (W'.heap[g1]?=some o1)∧aA (Below w.heap.size w W')∧aA (W'.heap[g']?=some o')∧aA (w.heap.size≤g')∧aA (w.heap.size≤g')∧aA (g0≠g')∧aA (g'≠g0)∧aA (g1≠g')∧aA (g'≠g1):=⟨⟨bG h0 hb⟩,⟨bG h1 hb⟩,⟨dI hB hb⟩,⟨hbox⟩,⟨qW hg hB⟩,⟨qW hg hB⟩,⟨kW hg (fO h0)⟩,⟨kU hg (fO h0)⟩,⟨kW hg (fO h1)⟩,⟨kU hg (fO h1)⟩⟩
theorem yF {w W W':World} {g':Nat} {o':Obj} {g0 g1 g2:Nat} {o0 o1 o2:Obj} (h0:W.heap[g0]?=some o0) (h1:W.heap[g1]?=some o1) (h2:W.heap[g2]?=some o2) (hB:Below w.heap.size w W) (hb:Below W.heap.size W W') (hbox:W'.heap[g']?=some o') (hg:g'=W.heap.size):aA (W'.heap[g0]?=some o0)∧aA (W'.heap[g1]?=some o1)∧aA (W'.heap[g2]?=some o2)∧aA (Below w.heap.size w W')∧aA (W'.heap[g']?=some o')∧aA (w.heap.size≤g')∧aA (w.heap.size≤g')∧aA (g0≠g')∧aA (g'≠g0)∧aA (g1≠g')∧aA (g'≠g1)∧aA (g2≠g')∧aA (g'≠g2):=⟨⟨bG h0 hb⟩,⟨bG h1 hb⟩,⟨bG h2 hb⟩,⟨dI hB hb⟩,⟨hbox⟩,⟨qW hg hB⟩,⟨qW hg hB⟩,⟨kW hg (fO h0)⟩,⟨kU hg (fO h0)⟩,⟨kW hg (fO h1)⟩,⟨kU hg (fO h1)⟩,⟨kW hg (fO h2)⟩,⟨kU hg (fO h2)⟩⟩
theorem zQ {w W W':World} {g':Nat} {o':Obj} {g0 g1 g2 g3:Nat} {o0 o1 o2 o3:Obj} (h0:W.heap[g0]?=some o0) (h1:W.heap[g1]?=some o1) (h2:W.heap[g2]?=some o2) (h3:W.heap[g3]?=some o3) (hB:Below w.heap.size w W) (hb:Below W.heap.size W W') (hbox:W'.heap[g']?=some o') (hg:g'=W.heap.size):aA (W'.heap[g0]?=some o0)∧aA (W'.heap[g1]?=some o1)∧aA (W'.heap[g2]?=some o2)∧aA (W'.heap[g3]?=some o3)∧aA (Below w.heap.size w W')∧aA (W'.heap[g']?=some o')∧aA (w.heap.size≤g')∧aA (w.heap.size≤g')∧aA (g0≠g')∧aA (g'≠g0)∧aA (g1≠g')∧aA (g'≠g1)∧aA (g2≠g')∧aA (g'≠g2)∧aA (g3≠g')∧aA (g'≠g3):=⟨⟨bG h0 hb⟩,⟨bG h1 hb⟩,⟨bG h2 hb⟩,⟨bG h3 hb⟩,⟨dI hB hb⟩,⟨hbox⟩,⟨qW hg hB⟩,⟨qW hg hB⟩,⟨kW hg (fO h0)⟩,⟨kU hg (fO h0)⟩,⟨kW hg (fO h1)⟩,⟨kU hg (fO h1)⟩,⟨kW hg (fO h2)⟩,⟨kU hg (fO h2)⟩,⟨kW hg (fO h3)⟩,⟨kU hg (fO h3)⟩⟩
theorem CW {w W W':World} {g':Nat} {o':Obj} {g0 g1 g2 g3 g4:Nat} {o0 o1 o2 o3 o4:Obj} (h0:W.heap[g0]?=some o0) (h1:W.heap[g1]?=some o1) (h2:W.heap[g2]?=some o2) (h3:W.heap[g3]?=some o3) (h4:W.heap[g4]?=some o4) (hB:Below w.heap.size w W) (hb:Below W.heap.size W W') (hbox:W'.heap[g']?=some o') (hg:g'=W.heap.size):aA (W'.heap[g0]?=some o0)∧aA (W'.heap[g1]?=some o1)∧aA (W'.heap[g2]?=some o2)∧aA (W'.heap[g3]?=some o3)∧aA (W'.heap[g4]?=some o4)∧aA (Below w.heap.size w W')∧aA (W'.heap[g']?=some o')∧aA (w.heap.size≤g')∧aA (w.heap.size≤g')∧aA (g0≠g')∧aA (g'≠g0)∧aA (g1≠g')∧aA (g'≠g1)∧aA (g2≠g')∧aA (g'≠g2)∧aA (g3≠g')∧aA (g'≠g3)∧aA (g4≠g')∧aA (g'≠g4):=⟨⟨bG h0 hb⟩,⟨bG h1 hb⟩,⟨bG h2 hb⟩,⟨bG h3 hb⟩,⟨bG h4 hb⟩,⟨dI hB hb⟩,⟨hbox⟩,⟨qW hg hB⟩,⟨qW hg hB⟩,⟨kW hg (fO h0)⟩,⟨kU hg (fO h0)⟩,⟨kW hg (fO h1)⟩,⟨kU hg (fO h1)⟩,⟨kW hg (fO h2)⟩,⟨kU hg (fO h2)⟩,⟨kW hg (fO h3)⟩,⟨kU hg (fO h3)⟩,⟨kW hg (fO h4)⟩,⟨kU hg (fO h4)⟩⟩
theorem GL {b:Nat} {w W:World} {g0 g1:Nat} {o0 o1:Obj} (h0:aA (W.heap[g0]?=some o0)) (h1:aA (W.heap[g1]?=some o1)) (hB:aA (Below b w W)):aA (W.drew.heap[g0]?=some o0)∧aA (W.drew.heap[g1]?=some o1)∧aA (Below b w W.drew):=⟨⟨gW h0.out⟩,⟨gW h1.out⟩,⟨k_ hB.out⟩⟩
theorem wQ {b:Nat} {w W:World} {g0 g1 g2:Nat} {o0 o1 o2:Obj} (h0:aA (W.heap[g0]?=some o0)) (h1:aA (W.heap[g1]?=some o1)) (h2:aA (W.heap[g2]?=some o2)) (hB:aA (Below b w W)):aA (W.drew.heap[g0]?=some o0)∧aA (W.drew.heap[g1]?=some o1)∧aA (W.drew.heap[g2]?=some o2)∧aA (Below b w W.drew):=⟨⟨gW h0.out⟩,⟨gW h1.out⟩,⟨gW h2.out⟩,⟨k_ hB.out⟩⟩
theorem uG {b:Nat} {w W:World} {g0 g1 g2 g3:Nat} {o0 o1 o2 o3:Obj} (h0:aA (W.heap[g0]?=some o0)) (h1:aA (W.heap[g1]?=some o1)) (h2:aA (W.heap[g2]?=some o2)) (h3:aA (W.heap[g3]?=some o3)) (hB:aA (Below b w W)):aA (W.drew.heap[g0]?=some o0)∧aA (W.drew.heap[g1]?=some o1)∧aA (W.drew.heap[g2]?=some o2)∧aA (W.drew.heap[g3]?=some o3)∧aA (Below b w W.drew):=⟨⟨gW h0.out⟩,⟨gW h1.out⟩,⟨gW h2.out⟩,⟨gW h3.out⟩,⟨k_ hB.out⟩⟩
theorem yG {b:Nat} {w W:World} {g0 g1 g2 g3 g4:Nat} {o0 o1 o2 o3 o4:Obj} (h0:aA (W.heap[g0]?=some o0)) (h1:aA (W.heap[g1]?=some o1)) (h2:aA (W.heap[g2]?=some o2)) (h3:aA (W.heap[g3]?=some o3)) (h4:aA (W.heap[g4]?=some o4)) (hB:aA (Below b w W)):aA (W.drew.heap[g0]?=some o0)∧aA (W.drew.heap[g1]?=some o1)∧aA (W.drew.heap[g2]?=some o2)∧aA (W.drew.heap[g3]?=some o3)∧aA (W.drew.heap[g4]?=some o4)∧aA (Below b w W.drew):=⟨⟨gW h0.out⟩,⟨gW h1.out⟩,⟨gW h2.out⟩,⟨gW h3.out⟩,⟨gW h4.out⟩,⟨k_ hB.out⟩⟩
theorem wR {b:Nat} {w W:World} {g0 g1 g2 g3 g4 g5:Nat} {o0 o1 o2 o3 o4 o5:Obj} (h0:aA (W.heap[g0]?=some o0)) (h1:aA (W.heap[g1]?=some o1)) (h2:aA (W.heap[g2]?=some o2)) (h3:aA (W.heap[g3]?=some o3)) (h4:aA (W.heap[g4]?=some o4)) (h5:aA (W.heap[g5]?=some o5)) (hB:aA (Below b w W)):aA (W.drew.heap[g0]?=some o0)∧aA (W.drew.heap[g1]?=some o1)∧aA (W.drew.heap[g2]?=some o2)∧aA (W.drew.heap[g3]?=some o3)∧aA (W.drew.heap[g4]?=some o4)∧aA (W.drew.heap[g5]?=some o5)∧aA (Below b w W.drew):=⟨⟨gW h0.out⟩,⟨gW h1.out⟩,⟨gW h2.out⟩,⟨gW h3.out⟩,⟨gW h4.out⟩,⟨gW h5.out⟩,⟨k_ hB.out⟩⟩
section
variable {p:Prop}
theorem aW (h:p:=by ((try simp only [List.map_toArray,List.map_cons,List.map_nil]);first|done|rfl|(simp only [List.length_drop,List.length_take];rfl))):p:=h
theorem b_ (h:p:=by (first|rfl|(simp [yI,yJ] <;> rfl)|(simp [*,yI,yJ] <;> rfl))):p:=h
theorem bD (h:p:=by (first|(with_reducible assumption)|assumption)):p:=h
theorem iI (h:p:=by (repeat (first|(with_reducible first|exact HK.out|apply aQ.wC|apply xk|apply uX|apply xg)|exact HK.out))):p:=h
theorem bg (h:p:=by (first|rfl|(simp;done)|(simp [*];done))):p:=h
theorem jh (h:p:=by (repeat (first|(with_reducible first|exact HK.out|apply Kept.alloc|apply Kept.drewN|apply Kept.drew)|exact HK.out))):p:=h
theorem pI (h:p:=by (repeat (first|(with_reducible first|exact HK.out|apply aQ.wC|apply xk|apply uX|apply xg|refine rG ?_ Ef.out _|refine rG ?_ F5.out _|refine rG ?_ IZ.out _)|exact HK.out))):p:=h
theorem l9 (h:p:=by (repeat (first|exact (Kd.qg rC.out HB.out)|(with_reducible refine Kd.jJ ?_ _)|(with_reducible refine Kd.jL ?_ _)|(with_reducible refine Kd.jK ?_)))):p:=h
theorem pG (h:p:=by (repeat (first|(with_reducible first|exact HK.out|apply aQ.wC|apply xk|apply uX|apply xg|refine rG ?_ Qs.out _|refine rG ?_ XY.out _)|exact HK.out))):p:=h
theorem q_ (h:p:=by (repeat (first|(with_reducible first|exact HK.out|apply aQ.wC|apply xk|apply uX|apply xg|refine rG ?_ Eh.out _|refine rG ?_ F6.out _)|exact HK.out))):p:=h
theorem r_ (h:p:=by (repeat (first|(with_reducible first|exact HK.out|apply aQ.wC|apply xk|apply uX|apply xg|refine rG ?_ Ef.out _|refine rG ?_ F5.out _)|exact HK.out))):p:=h
theorem II (h:p:=by ((with_reducible repeat (first|refine kD ?_ _|refine gW ?_|refine jG ?_ _));refine uD (cs:=#[.int .i64 rJ,.int .i64 ou,.int .i64 tK,.int .i64 0]) ?_ 3 _ rfl;(with_reducible repeat (first|refine kD ?_ _|refine gW ?_|refine jG ?_ _));refine uD (cs:=#[.int .i64 rJ,.int .i64 ou,.int .i64 0,.int .i64 0]) ?_ 2 _ rfl;(with_reducible repeat (first|refine kD ?_ _|refine gW ?_|refine jG ?_ _));refine uD (cs:=#[.int .i64 rJ,.int .i64 0,.int .i64 0,.int .i64 0]) ?_ 1 _ rfl;(with_reducible repeat (first|refine kD ?_ _|refine gW ?_|refine jG ?_ _));refine uD (cs:=#[.int .i64 0,.int .i64 0,.int .i64 0,.int .i64 0]) ?_ 0 _ rfl;(with_reducible repeat (first|refine kD ?_ _|refine gW ?_|refine jG ?_ _));exact mg.out)):p:=h
theorem su (h:p:=by (repeat (first|(with_reducible first|exact HK.out|apply aQ.wC|apply xk|apply uX|apply xg|refine rG ?_ Eh.out _)|exact HK.out))):p:=h
theorem rM (h:p:=by (repeat (first|exact (Kd.bZ eX.out).2.2|(with_reducible refine Kd.jJ ?_ _)|(with_reducible refine Kd.jL ?_ _)|(with_reducible refine Kd.jK ?_)))):p:=h
theorem sD (h:p:=by (repeat (first|exact (Kd.qg lF.out HB.out)|(with_reducible refine Kd.jJ ?_ _)|(with_reducible refine Kd.jL ?_ _)|(with_reducible refine Kd.jK ?_)))):p:=h
theorem IK (h:p:=by (first|exact Nat.ne_of_lt (Nat.lt_of_lt_of_le BK xE.out)|(rw [add_block];exact Nat.ne_of_lt (Nat.lt_of_lt_of_le BK xE.out))|(show (Addr.add _ _).block≠_;rw [add_block];exact Nat.ne_of_lt (Nat.lt_of_lt_of_le BK xE.out))|(dsimp only;exact Nat.ne_of_lt (Nat.lt_of_lt_of_le BK xE.out)))):p:=h
theorem IL (h:p:=by (first|exact Nat.ne_of_lt (Nat.lt_of_lt_of_le BL xE.out)|(rw [add_block];exact Nat.ne_of_lt (Nat.lt_of_lt_of_le BL xE.out))|(show (Addr.add _ _).block≠_;rw [add_block];exact Nat.ne_of_lt (Nat.lt_of_lt_of_le BL xE.out))|(dsimp only;exact Nat.ne_of_lt (Nat.lt_of_lt_of_le BL xE.out)))):p:=h
theorem IQ (h:p:=by (first|exact Nat.ne_of_lt (Nat.lt_of_lt_of_le BM xE.out)|(rw [add_block];exact Nat.ne_of_lt (Nat.lt_of_lt_of_le BM xE.out))|(show (Addr.add _ _).block≠_;rw [add_block];exact Nat.ne_of_lt (Nat.lt_of_lt_of_le BM xE.out))|(dsimp only;exact Nat.ne_of_lt (Nat.lt_of_lt_of_le BM xE.out)))):p:=h
theorem yZ (h:p:=by ((with_reducible repeat (first|apply Kd.dR|apply Kd.dS|apply Kd.bK));exact Kd.bW (aU (aU (aU (aU (aU (aU (Kd.dL (Kd.dL iM.out eF.out (by decide)) bT.out (by decide)) (fun _ hk=>hk.1.2))))))) (fun _ hk=>trivial))):p:=h
theorem jS (h:p:=by (repeat (first|exact nH.refl _|apply nH.step))):p:=h
theorem tN (h:p:=by (first|exact Kd.Gg _ _ _ _ _|exact Kd.Ye _ _ _ _ _|exact Kd.Yy _ _ _ _ _|exact Kd.Yg _ _ _ _ _|exact Kd.Yr _ _ _ _ _)):p:=h
theorem xX (h:p:=by (repeat (first|(with_reducible first|exact HK.out|apply aQ.wC|apply xk|apply uX|apply xg|refine rG ?_ Ef.out _)|exact HK.out))):p:=h
theorem AB (h:p:=by (repeat (first|(with_reducible first|exact HK.out|apply aQ.wC|apply xk|apply uX|apply xg|refine rG ?_ Ls.out _|refine rG ?_ Qu.out _|refine rG ?_ XZ.out _)|exact HK.out))):p:=h
theorem kH (h:p:=by (first|omega|exact Nat.le_refl _)):p:=h
theorem FK (h:p:=by exact (bM.c3 (show Kd.M bF _ _ _ (⟨jD,((au aH dD).f1),((au aH dD).f2)⟩:aC) [.string jD,.bool ((au aH dD).f1),.string ((au aH dD).f2)] from (qX _ _ _ (⟨jD,((au aH dD).f1),((au aH dD).f2)⟩:aC) )) (bM.none _ _))):p:=h
theorem AL (h:p:=by (repeat (first|exact (Kd.bZ fB.out).2.2|(with_reducible refine Kd.jJ ?_ _)|(with_reducible refine Kd.jL ?_ _)|(with_reducible refine Kd.jK ?_)))):p:=h
theorem FM (h:p:=by (repeat (first|(with_reducible exact vV.out)|(with_reducible refine Kd.jJ ?_ _)|(with_reducible refine Kd.jL ?_ _)|(with_reducible refine Kd.jK ?_)|exact vV.out))):p:=h
theorem FN (h:p:=by (repeat (first|(with_reducible exact vU.out)|(with_reducible refine Kd.jJ ?_ _)|(with_reducible refine Kd.jL ?_ _)|(with_reducible refine Kd.jK ?_)|exact vU.out))):p:=h
theorem BJ (h:p:=by ((with_reducible repeat (first|apply Kd.dR|apply Kd.dS|apply Kd.bK));exact (Kd.bW (aU (Kd.dL fB.out oz.out (by decide))) (fun _ dV=>dV.1)))):p:=h
theorem wF (h:p:=by simp only [Aj,Act.put,List.setIfInBounds_toArray,List.set_cons_zero,List.set_cons_succ]):p:=h
theorem D8 (h:p:=by (repeat (first|(with_reducible first|exact HK.out|apply aQ.wC|apply xk|apply uX|apply xg|refine rG ?_ Qs.out _)|exact HK.out))):p:=h
theorem Xr (h:p:=by ((with_reducible repeat (first|refine kD ?_ _|refine gW ?_|refine jG ?_ _));refine uD (cs:=#[.string ((au aK a2).f0),.bool ((au aK a2).f1),.string ((au aK a2).f2)]) ?_ 2 _ rfl;(with_reducible repeat (first|refine kD ?_ _|refine gW ?_|refine jG ?_ _));refine uD (cs:=#[.string ((au aK a2).f0),.bool ((au aK a2).f1),.string (⟨#[]⟩:ByteArray)]) ?_ 2 _ rfl;(with_reducible repeat (first|refine kD ?_ _|refine gW ?_|refine jG ?_ _));refine uD (cs:=#[.string ((au aK a2).f0),.bool false,.string (⟨#[]⟩:ByteArray)]) ?_ 1 _ rfl;(with_reducible repeat (first|refine kD ?_ _|refine gW ?_|refine jG ?_ _));refine uD (cs:=#[.string (⟨#[]⟩:ByteArray),.bool false,.string (⟨#[]⟩:ByteArray)]) ?_ 0 _ rfl;(with_reducible repeat (first|refine kD ?_ _|refine gW ?_|refine jG ?_ _));exact rO.out)):p:=h
theorem FP (h:p:=by (repeat (first|(with_reducible first|exact HK.out|apply aQ.wC|apply xk|apply uX|apply xg|refine rG ?_ Qr.out _)|exact HK.out))):p:=h
theorem KG (h:p:=by ((with_reducible repeat (first|refine kD ?_ _|refine gW ?_|refine jG ?_ _));refine uD (cs:=#[.slice none 0 0]) ?_ 0 _ rfl;(with_reducible repeat (first|refine kD ?_ _|refine gW ?_|refine jG ?_ _));exact oz.out)):p:=h
theorem KH (h:p:=by ((with_reducible repeat (first|refine kD ?_ _|refine gW ?_|refine jG ?_ _));refine uD (cs:=#[.slice none 0 0]) ?_ 0 _ rfl;(with_reducible repeat (first|refine kD ?_ _|refine gW ?_|refine jG ?_ _));exact iQ.out)):p:=h
theorem xY (h:p:=by (have:=HJ2.out;have:=jv.out;first|omega|exact Nat.le_refl _)):p:=h
theorem KI (h:p:=by exact (fun aF hk=>⟨Kd.C_ (Kd.iD (aG fC)) aF hk,Kd.C_ (Kd.iD (aG qy)) aF hk,Kd.EN (g:=fQ) (o:=.cells #[.string jD,.bool ((au aH dD).f1),.string ((au aH dD).f2)] 43 (0,0)) (aj eU) aF hk⟩)):p:=h
theorem KJ (h:p:=by exact (fun aF hk=>⟨Kd.C_ (Kd.iD (aG fC)) aF hk,Kd.C_ (Kd.iD (aG qx)) aF hk,Kd.EN (g:=fQ) (o:=.cells #[.string jD,.bool ((au aH dD).f1),.string ((au aH dD).f2)] 43 (0,0)) (aj eU) aF hk⟩)):p:=h
theorem FQ (h:p:=by (repeat (first|(with_reducible first|exact yg.out|apply ny|apply qm|apply k_)|exact yg.out))):p:=h
theorem BK (h:p:=by (have:=World.block_lt_of_cell? _ _ Ov;first|rwa [add_block] at this|exact this)):p:=h
theorem BL (h:p:=by (have:=World.block_lt_of_cell? _ _ Ou;first|rwa [add_block] at this|exact this)):p:=h
theorem BM (h:p:=by (have:=World.block_lt_of_cell? _ _ Ot;first|rwa [add_block] at this|exact this)):p:=h
theorem nT (h:p:=by (have:=iq.out;omega)):p:=h
theorem KL (h:p:=by ((with_reducible repeat (first|apply Kd.dR|apply Kd.dS|apply Kd.bK));exact (Kd.bW (aU (Kd.dL fP.out oz.out (by decide))) (fun _ dV=>dV.1)))):p:=h
theorem KN (h:p:=by ((with_reducible repeat (first|apply Kd.dR|apply Kd.dS|apply Kd.bK));exact (Kd.bW (aU (Kd.dL eX.out oz.out (by decide))) (fun _ dV=>dV.1)))):p:=h
theorem KO (h:p:=by ((with_reducible repeat (first|apply Kd.dR|apply Kd.dS|apply Kd.bK));exact (Kd.bW (aU (Kd.dL mY.out oz.out (by decide))) (fun _ dV=>dV.1)))):p:=h
theorem KP (h:p:=by ((with_reducible repeat (first|apply Kd.dR|apply Kd.dS|apply Kd.bK));exact (Kd.bW (aU (Kd.dL jf.out iQ.out (by decide))) (fun _ dV=>dV.1)))):p:=h
theorem KQ (h:p:=by (first|rfl|(simp [yI,yJ] <;> rfl)|(simp only [← qF];first|rfl|(simp [yI,yJ] <;> rfl))|(simp [*,yI,yJ] <;> rfl))):p:=h
theorem KR (h:p:=by ((with_reducible repeat (first|apply Kd.dR|apply Kd.dS|apply Kd.bK));exact Kd.bW fC.out (fun _ hk=>⟨⟨hk.2,hk.1.1⟩,hk.1.2⟩))):p:=h
theorem KT (h:p:=by ((with_reducible repeat (first|apply Kd.dR|apply Kd.dS|apply Kd.bK));exact Kd.bW fC.out (fun _ hk=>⟨⟨hk.1.2,hk.1.1⟩,hk.2⟩))):p:=h
theorem KU (h:p:=by ((with_reducible repeat (first|apply Kd.dR|apply Kd.dS|apply Kd.bK));exact Kd.bW fC.out (fun _ hk=>⟨hk.2,⟨hk.1.1,hk.1.2⟩⟩))):p:=h
theorem PD (h:p:=by (repeat (first|(with_reducible first|exact HK.out|apply aQ.wC|apply xk|apply uX|apply xg|refine rG ?_ Ls.out _|refine rG ?_ Qu.out _)|exact HK.out))):p:=h
theorem PE (h:p:=by (repeat (first|(with_reducible exact Jd.out)|(with_reducible refine Kd.jJ ?_ _)|(with_reducible refine Kd.jL ?_ _)|(with_reducible refine Kd.jK ?_)|exact Jd.out))):p:=h
theorem WJ (h:p:=by ((with_reducible repeat (first|refine kD ?_ _|refine gW ?_|refine jG ?_ _));refine uD (cs:=#[.int .i64 rZ,.string uq,.string (⟨#[]⟩:ByteArray),.int .i64 0,.int .i64 0,.string (⟨#[]⟩:ByteArray)]) ?_ 3 _ rfl;(with_reducible repeat (first|refine kD ?_ _|refine gW ?_|refine jG ?_ _));exact jY.out)):p:=h
theorem WL (h:p:=by ((try simp only [sO]);(with_reducible repeat (first|refine kD ?_ _|refine gW ?_|refine jG ?_ _));refine xK ?_ (by have dV:=Kd.iw kQ.out oD.out (by decide);intro e_;exact dV (by rw [e_];rfl)) _;(with_reducible repeat (first|refine kD ?_ _|refine gW ?_|refine jG ?_ _));exact oD.out)):p:=h
theorem WM (h:p:=by ((try simp only [sO]);(with_reducible repeat (first|refine kD ?_ _|refine gW ?_|refine jG ?_ _));refine xK ?_ (by have dV:=Kd.iw kQ.out oC.out (by decide);intro e_;exact dV (by rw [e_];rfl)) _;(with_reducible repeat (first|refine kD ?_ _|refine gW ?_|refine jG ?_ _));exact oC.out)):p:=h
theorem WO (h:p:=by ((try simp only [sO]);(with_reducible repeat (first|refine kD ?_ _|refine gW ?_|refine jG ?_ _));refine xK ?_ (by have dV:=Kd.iw kQ.out nX.out (by decide);intro e_;exact dV (by rw [e_];rfl)) _;(with_reducible repeat (first|refine kD ?_ _|refine gW ?_|refine jG ?_ _));exact nX.out)):p:=h
theorem PG (h:p:=by (repeat (first|(with_reducible first|exact HK.out|apply aQ.wC|apply xk|apply uX|apply xg|refine rG ?_ Ls.out _)|exact HK.out))):p:=h
theorem PI (h:p:=by ((with_reducible repeat (first|apply Kd.dR|apply Kd.dS|apply Kd.bK));exact (Kd.bW (aU (Kd.dL jZ.out eH.out (by decide))) (fun _ dV=>dV.1)))):p:=h
theorem WQ (h:p:=by ((with_reducible repeat (first|apply Kd.dR|apply Kd.dS|apply Kd.bK));exact (Kd.bW (Kd.bW (aU (aU (aU (aU (aU (Kd.dL (Kd.dL jZ.out dH.out (by decide)) dB.out (by decide)) (fun _ hk=>hk.1.2)) (fun _ hk=>hk.1.2)) (fun _ hk=>hk.1.2)) (fun _ hk=>hk.1.2))) (fun _ dV=>dV.1)) (fun _ dV=>dV.1)))):p:=h
theorem KC (h:p:=by exact (fun aF hk=>Kd.EN (g:=t_) (o:=.cells #[.string fH,.bool fG,.string fE] 43 (0,0)) (aj kJ) aF hk)):p:=h
theorem PK (h:p:=by (repeat (first|exact (Kd.bZ ru.out).2.2|(with_reducible refine Kd.jJ ?_ _)|(with_reducible refine Kd.jL ?_ _)|(with_reducible refine Kd.jK ?_)))):p:=h
theorem PL (h:p:=by (repeat (first|exact (Kd.bZ lI.out).2.2|(with_reducible refine Kd.jJ ?_ _)|(with_reducible refine Kd.jL ?_ _)|(with_reducible refine Kd.jK ?_)))):p:=h
theorem WR (h:p:=by ((with_reducible repeat (first|apply Kd.dR|apply Kd.dS|apply Kd.bK));exact Kd.bW (aU (aU (aU (aU (aU (Kd.dL (Kd.dL sG.out jO.out (by decide)) mM.out (by decide)) (fun _ hk=>hk.1.2)) (fun _ hk=>hk.1.2)) (fun _ hk=>hk.1.2)) (fun _ hk=>hk.1.2))) (fun _ hk=>trivial))):p:=h
theorem PN (h:p:=by ((with_reducible repeat (first|apply Kd.dR|apply Kd.dS|apply Kd.bK));exact Kd.bW wK.out (fun _ hk=>⟨hk.2.1,⟨hk.1,hk.2.2⟩⟩))):p:=h
theorem PO (h:p:=by ((with_reducible repeat (first|apply Kd.dR|apply Kd.dS|apply Kd.bK));exact Kd.bW wJ.out (fun _ hk=>⟨hk.2.1,⟨hk.1,hk.2.2⟩⟩))):p:=h
theorem PS (h:p:=by ((try simp only [Di]);(try simp only [ET]);(with_reducible repeat (first|apply Kd.dR|apply Kd.dS|apply Kd.bK));exact bQ.out)):p:=h
theorem PU (h:p:=by (repeat (first|exact HR0.out|(with_reducible refine Kd.jJ ?_ _)|(with_reducible refine Kd.jL ?_ _)|(with_reducible refine Kd.jK ?_)))):p:=h
theorem KD (h:p:=by (have:=xF.out;have:=jv.out;have:=F8.out;have:=LD.out;have:=X3.out;omega)):p:=h
theorem PV (h:p:=by (repeat (first|exact FN|(with_reducible refine Kd.jJ ?_ _)|(with_reducible refine Kd.jL ?_ _)|(with_reducible refine Kd.jK ?_)))):p:=h
theorem PW (h:p:=by (repeat (first|exact FM|(with_reducible refine Kd.jJ ?_ _)|(with_reducible refine Kd.jL ?_ _)|(with_reducible refine Kd.jK ?_)))):p:=h
theorem PX (h:p:=by ((with_reducible repeat (first|apply Kd.dR|apply Kd.dS|apply Kd.bK));exact Kd.bW rP.out (fun _ hk=>trivial))):p:=h
theorem PY (h:p:=by ((with_reducible repeat (first|apply Kd.dR|apply Kd.dS|apply Kd.bK));exact Kd.bW I9.out (fun _ hk=>hk.2))):p:=h
theorem PZ (h:p:=by ((with_reducible repeat (first|apply Kd.dR|apply Kd.dS|apply Kd.bK));exact Kd.bW wI.out (fun _ hk=>hk.2))):p:=h
theorem WS (h:p:=by ((with_reducible repeat (first|apply Kd.dR|apply Kd.dS|apply Kd.bK));exact Kd.bW (aU (aU (aU (aU (aU (aU (Kd.dL (Kd.dL qA.out eu.out (by decide)) dh.out (by decide)) (fun _ hk=>hk.1.2))))))) (fun _ hk=>trivial))):p:=h
theorem WT (h:p:=by ((with_reducible repeat (first|apply Kd.dR|apply Kd.dS|apply Kd.bK));exact Kd.bW (aU (aU (aU (aU (aU (aU (Kd.dL (Kd.dL lW.out jo.out (by decide)) ig.out (by decide)) (fun _ hk=>hk.1.2))))))) (fun _ hk=>trivial))):p:=h
theorem P5 (h:p:=by ((with_reducible repeat (first|apply Kd.dR|apply Kd.dS|apply Kd.bK));exact Kd.bW rP.out (fun _ hk=>hk.2))):p:=h
theorem WU (h:p:=by exact (bM.one (show Kd.M (Kd.int .i64) _ _ _ 128 [.int .i64 128] from rfl) (bM.one (show Kd.M (Kd.int .i64) _ _ _ 129 [.int .i64 129] from rfl) (bM.one (show Kd.M (Kd.int .i64) _ _ _ 33 [.int .i64 33] from rfl) (bM.none _ _))))):p:=h
theorem WV (h:p:=by (repeat (first|(with_reducible first|exact HK.out|apply aQ.wC|apply xk|apply uX|apply xg|refine rG ?_ Qr.out _|refine rG ?_ XW.out _)|exact HK.out))):p:=h
theorem P6 (h:p:=by (repeat (first|(with_reducible first|exact Below.refl _ _|apply ny)|exact Below.refl ..))):p:=h
theorem WW (h:p:=by exact (fun aF hk=>⟨Kd.C_ (Kd.iD (aG fC)) aF hk,Kd.EN (g:=fQ) (o:=.cells #[.string jD,.bool ((au aH dD).f1),.string ((au aH dD).f2)] 43 (0,0)) (aj eU) aF hk⟩)):p:=h
theorem WX (h:p:=by (repeat (first|(with_reducible exact LX.out)|(with_reducible refine Kd.jJ ?_ _)|(with_reducible refine Kd.jL ?_ _)|(with_reducible refine Kd.jK ?_)|exact LX.out))):p:=h
theorem WY (h:p:=by ((with_reducible repeat (first|apply Kd.dR|apply Kd.dS|apply Kd.bK));exact Kd.bW (aU (Kd.dL mX.out dN.out (by decide))) (fun _ hk=>⟨hk.1.1.2,hk.1.2⟩))):p:=h
theorem WZ (h:p:=by ((with_reducible repeat (first|apply Kd.dR|apply Kd.dS|apply Kd.bK));exact Kd.bW (aU (Kd.dL mP.out dN.out (by decide))) (fun _ hk=>⟨hk.1.1.2,hk.1.2⟩))):p:=h
theorem W9 (h:p:=by ((with_reducible repeat (first|apply Kd.dR|apply Kd.dS|apply Kd.bK));exact Kd.bW (aU (Kd.dL jZ.out dN.out (by decide))) (fun _ hk=>⟨hk.1.1.2,hk.1.2⟩))):p:=h
theorem W_ (h:p:=by ((with_reducible repeat (first|apply Kd.dR|apply Kd.dS|apply Kd.bK));exact (Kd.bW (aU (Kd.dL mP.out eH.out (by decide))) (fun _ dV=>dV.1)))):p:=h
theorem Xa (h:p:=by ((with_reducible repeat (first|apply Kd.dR|apply Kd.dS|apply Kd.bK));exact (Kd.bW (aU (Kd.dL oJ.out qc.out (by decide))) (fun _ dV=>dV.1)))):p:=h
theorem Xb (h:p:=by ((with_reducible repeat (first|apply Kd.dR|apply Kd.dS|apply Kd.bK));exact Kd.bW (aU (Kd.dL qA.out nV.out (by decide))) (fun _ hk=>trivial))):p:=h
theorem Xc (h:p:=by ((with_reducible repeat (first|apply Kd.dR|apply Kd.dS|apply Kd.bK));exact (Kd.bW (aU (Kd.dL xG.out jY.out (by decide))) (fun _ dV=>dV.1)))):p:=h
theorem Xd (h:p:=by ((with_reducible repeat (first|apply Kd.dR|apply Kd.dS|apply Kd.bK));exact (Kd.bW (aU (Kd.dL y9.out jY.out (by decide))) (fun _ dV=>dV.1)))):p:=h
theorem Xe (h:p:=by (repeat (first|exact (Kd.bZ y8.out).2.2|(with_reducible refine Kd.jJ ?_ _)|(with_reducible refine Kd.jL ?_ _)|(with_reducible refine Kd.jK ?_)))):p:=h
theorem Xf (h:p:=by (repeat (first|exact (Kd.bZ mX.out).2.2|(with_reducible refine Kd.jJ ?_ _)|(with_reducible refine Kd.jL ?_ _)|(with_reducible refine Kd.jK ?_)))):p:=h
theorem Xg (h:p:=by (repeat (first|exact (Kd.bZ jZ.out).2.2|(with_reducible refine Kd.jJ ?_ _)|(with_reducible refine Kd.jL ?_ _)|(with_reducible refine Kd.jK ?_)))):p:=h
theorem Xh (h:p:=by (repeat (first|exact (Kd.bZ jf.out).2.2|(with_reducible refine Kd.jJ ?_ _)|(with_reducible refine Kd.jL ?_ _)|(with_reducible refine Kd.jK ?_)))):p:=h
theorem Xi (h:p:=by ((with_reducible repeat (first|apply Kd.dR|apply Kd.dS|apply Kd.bK));exact Kd.bW fC.out (fun _ hk=>⟨⟨hk.2.1,hk.2.2⟩,hk.1⟩))):p:=h
theorem Xj (h:p:=by ((with_reducible repeat (first|apply Kd.dR|apply Kd.dS|apply Kd.bK));exact Kd.bW fC.out (fun _ hk=>⟨hk.1.2,⟨hk.2,hk.1.1⟩⟩))):p:=h
theorem Xk (h:p:=by exact (bM.c3 (show Kd.M bF _ _ _ (⟨fH,fG,fE⟩:aC) [.string fH,.bool fG,.string fE] from (qX _ _ _ (⟨fH,fG,fE⟩:aC) )) (bM.none _ _))):p:=h
theorem Xl (h:p:=by ((with_reducible repeat (first|apply Kd.dR|apply Kd.dS|apply Kd.bK));exact Kd.bW qy.out (fun _ hk=>⟨hk.2,⟨hk.1.1,hk.1.2⟩⟩))):p:=h
theorem Xm (h:p:=by ((with_reducible repeat (first|apply Kd.dR|apply Kd.dS|apply Kd.bK));exact Kd.bW qx.out (fun _ hk=>⟨hk.2,⟨hk.1.1,hk.1.2⟩⟩))):p:=h
theorem KE (h:p:=by (have:=iq.out;first|omega|exact Nat.le_refl _)):p:=h
theorem KF (h:p:=by (have:=X0.out;first|omega|exact Nat.le_refl _)):p:=h
theorem IJ (h:p:=by (have:=iq.out;have:=jv.out;omega)):p:=h
theorem P7 (h:p:=by (have:=iq.out;have:=Em.out;have:=I7.out;have:=I8.out;omega)):p:=h
theorem Xn (h:p:=by ((with_reducible repeat (first|apply Kd.dR|apply Kd.dS|apply Kd.bK));exact Kd.bW mX.out (fun _ hk=>⟨hk.1.1,hk.1.2⟩))):p:=h
theorem Xo (h:p:=by ((with_reducible repeat (first|apply Kd.dR|apply Kd.dS|apply Kd.bK));exact Kd.bW mP.out (fun _ hk=>⟨hk.1.1,hk.1.2⟩))):p:=h
theorem Xp (h:p:=by ((with_reducible repeat (first|apply Kd.dR|apply Kd.dS|apply Kd.bK));exact Kd.bW jZ.out (fun _ hk=>⟨hk.1.1,hk.1.2⟩))):p:=h
theorem Xq (h:p:=by ((with_reducible repeat (first|apply Kd.dR|apply Kd.dS|apply Kd.bK));exact Kd.bW rP.out (fun _ hk=>⟨trivial,hk⟩))):p:=h
end

theorem nP {w:World} {g:Nat} {t:TypeId} {v0 v1 v2:Value} (h:w.heap[g]?=some (.cells #[v0,v1,v2] t (0,0))):w.cell? ⟨g,0,none⟩=some v0∧w.cell? ⟨g,1,none⟩=some v1∧w.cell? ⟨g,2,none⟩=some v2∧w.frozen? ⟨g,0,none⟩=false∧w.frozen? ⟨g,1,none⟩=false∧w.frozen? ⟨g,2,none⟩=false:=⟨(aO h 0).trans rfl,(aO h 1).trans rfl,(aO h 2).trans rfl,dF h 0,dF h 1,dF h 2⟩
theorem jQ {w:World} {g:Nat} {t:TypeId} {v0 v1 v2 v3:Value} (h:w.heap[g]?=some (.cells #[v0,v1,v2,v3] t (0,0))):w.cell? ⟨g,0,none⟩=some v0∧w.cell? ⟨g,1,none⟩=some v1∧w.cell? ⟨g,2,none⟩=some v2∧w.cell? ⟨g,3,none⟩=some v3∧w.frozen? ⟨g,0,none⟩=false∧w.frozen? ⟨g,1,none⟩=false∧w.frozen? ⟨g,2,none⟩=false∧w.frozen? ⟨g,3,none⟩=false:=⟨(aO h 0).trans rfl,(aO h 1).trans rfl,(aO h 2).trans rfl,(aO h 3).trans rfl,dF h 0,dF h 1,dF h 2,dF h 3⟩
theorem vZ {w:World} {g:Nat} {t:TypeId} {v0 v1 v2 v3 v4:Value} (h:w.heap[g]?=some (.cells #[v0,v1,v2,v3,v4] t (0,0))):w.cell? ⟨g,0,none⟩=some v0∧w.cell? ⟨g,1,none⟩=some v1∧w.cell? ⟨g,2,none⟩=some v2∧w.cell? ⟨g,3,none⟩=some v3∧w.cell? ⟨g,4,none⟩=some v4∧w.frozen? ⟨g,0,none⟩=false∧w.frozen? ⟨g,1,none⟩=false∧w.frozen? ⟨g,2,none⟩=false∧w.frozen? ⟨g,3,none⟩=false∧w.frozen? ⟨g,4,none⟩=false:=⟨(aO h 0).trans rfl,(aO h 1).trans rfl,(aO h 2).trans rfl,(aO h 3).trans rfl,(aO h 4).trans rfl,dF h 0,dF h 1,dF h 2,dF h 3,dF h 4⟩
theorem jV {w:World} {g:Nat} {t:TypeId} {v0 v1 v2 v3 v4 v5:Value} (h:w.heap[g]?=some (.cells #[v0,v1,v2,v3,v4,v5] t (0,0))):w.cell? ⟨g,0,none⟩=some v0∧w.cell? ⟨g,1,none⟩=some v1∧w.cell? ⟨g,2,none⟩=some v2∧w.cell? ⟨g,3,none⟩=some v3∧w.cell? ⟨g,4,none⟩=some v4∧w.cell? ⟨g,5,none⟩=some v5∧w.frozen? ⟨g,0,none⟩=false∧w.frozen? ⟨g,1,none⟩=false∧w.frozen? ⟨g,2,none⟩=false∧w.frozen? ⟨g,3,none⟩=false∧w.frozen? ⟨g,4,none⟩=false∧w.frozen? ⟨g,5,none⟩=false:=⟨(aO h 0).trans rfl,(aO h 1).trans rfl,(aO h 2).trans rfl,(aO h 3).trans rfl,(aO h 4).trans rfl,(aO h 5).trans rfl,dF h 0,dF h 1,dF h 2,dF h 3,dF h 4,dF h 5⟩
theorem YI {w:World} {g:Nat} {t:TypeId} {cs cs':Array Value} (h:w.heap[g]?=some (.cells cs t (0,0))) (e:cs=cs'):w.heap[g]?=some (.cells cs' t (0,0)):=e ▸ h
theorem wB {q p:Prop} (h:q) (k:q→p:=by (intro dV;apply YI;(repeat (first|(with_reducible first|exact dV|refine kD ?_ _|refine gW ?_|refine jG ?_ _)|apply Gp));(try exact dV);exact rfl)):p:=k h
theorem lM {q r p:Prop} (h:q) (n:r) (k:q→r→p:=by (intro dV OJ;(repeat (first|(with_reducible first|exact dV|refine kD ?_ _|refine gW ?_|refine jG ?_ _)|refine xK ?_ OJ _));(try exact dV))):p:=k h n
theorem Yz {q p:Prop} (h:q) (k:q→p:=by (intro dV;first|(rw [add_block];exact dV)|(show (Addr.add _ _).block≠_;rw [add_block];exact dV)|exact dV)):p:=k h
theorem kY {P:Program} {ops:Array Oper} {Q:Exit→Act→World→Prop} {md:Region.Mode} {S:World→Prop} {ds:List Nat} {T:Bool × List (List Nat × List Nat)} (i:Nat) {N:Option Tmp} {oi:Oper} {fuel:Nat} {l:Array Bool} {a:Act} {w:World} (h:∀ K:Act→World→Prop,Shut (∀ a' w',S w'→(S w'→jA P md ops Q S ds fuel (l.setIfInBounds i true) a' w')→K a' w')→if Region.wanted oi (yielded ops a.tmps)=true then Oper.wp P oi a w K Q else K (a.put N undef) w) (HT:aA (kZ md ops=T):=by with_reducible assumption) (hc:(BF T.2 l.toList == [i] && l.toList.set i true == (l.setIfInBounds i true).toList)=true:=by kernel_rfl) (hi:ops[i]?=some oi:=by rfl) (hN:oi.dst=N:=by rfl) (hd:i ∉ ds:=by decide):jA P md ops Q S ds (fuel+1) l a w:=gB _ hi hN (jW HT.out hc) hd h
theorem wz {P:Program} {ops:Array Oper} {Q:Exit→Act→World→Prop} {md:Region.Mode} {S:World→Prop} {ds:List Nat} {T:Bool × List (List Nat × List Nat)} (i:Nat) {N:Option Tmp} {oi:Oper} {fuel:Nat} {l:Array Bool} {a:Act} {w:World} (h:∀ K:Act→World→Prop,Shut (∀ a' w',jA P md ops Q S ds fuel (l.setIfInBounds i true) a' w'→K a' w')→if Region.wanted oi (yielded ops a.tmps)=true then Oper.wp P oi a w K Q else K (a.put N undef) w) (HT:aA (kZ md ops=T):=by with_reducible assumption) (hc:(BF T.2 l.toList == [i] && l.toList.set i true == (l.setIfInBounds i true).toList)=true:=by kernel_rfl) (hi:ops[i]?=some oi:=by rfl) (hN:oi.dst=N:=by rfl) (hd:i ∈ ds:=by decide):jA P md ops Q S ds (fuel+1) l a w:=OG _ hi hN (jW HT.out hc) hd h
theorem dG {P:Program} {ops:Array Oper} {rest:List Oper} {o:Oper} {a:Act} {Q:Exit→Act→World→Prop} {W:World} (N:Tmp) (h:wpList P ops Q (o :: rest) a W) (_:o.dst=some N:=by rfl):wpList P ops Q (o :: rest) a W:=h
theorem bU {P:Program} {ops:Array Oper} {rest:List Oper} {o:Oper} {a:Act} {Q:Exit→Act→World→Prop} {W:World} (f:FuncId) {zs:Array Operand} {ts:Array TypeId} (h:wpList P ops Q (o :: rest) a W) (_:o.op=.call { callee:=.value (.func f),args:=zs,argTypes:=ts }:=by rfl):wpList P ops Q (o :: rest) a W:=h
theorem dA {p:Prop} (h:p:=by (repeat (first|(with_reducible first|exact HB.out|apply ny|apply qm|apply k_)|(with_reducible refine iL ?_ (aA.out (by assumption)))|(with_reducible refine iL ?_ (aJ.ge (aA.out (by assumption))))|exact HB.out))):p:=h
theorem aZ {p:Prop} (h:p:=by (repeat (first|(with_reducible first|exact aA.out (by assumption)|apply aJ.alloc|apply aJ.drew|apply aJ.drewN|apply aJ.Iy|apply aJ.Iz|refine aJ.far ?_ (aA.out (by assumption)) _)))):p:=h
theorem cu {w:World} {g:Nat} {t:TypeId} {v0:Value} (h:w.heap[g]?=some (.cells #[v0] t (0,0))):w.cell? ⟨g,0,none⟩=some v0∧w.frozen? ⟨g,0,none⟩=false:=⟨(aO h 0).trans rfl,dF h 0⟩
end Go.Proofs.YthejdhjpbpamoaaGreatDoor.jM
-- min
-- tiny
