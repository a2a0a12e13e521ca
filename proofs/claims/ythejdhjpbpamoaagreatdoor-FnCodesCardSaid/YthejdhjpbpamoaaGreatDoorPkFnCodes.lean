/- What the printed texts of this law say often, told once: arrays of Bools, and lemmas whose argument a tactic fills in. Conditions: none. -/
import Derived.Test.YthejdhjpbpamoaaGreatDoorProg
import Derived.Below
import Derived.Deep.Draws
import Derived.Deep.AppendLies
import Derived.Maps.AppendAt
import Derived.OwnWalk
import Derived.Laws.BytesArg
import Derived.Laws.MakeOwn
import Derived.Laws.OwnMore
import Derived.Deep.OwnRows
import Derived.Tactics
import Derived.Lib.ConvBytes
import Derived.Laws.Slices
import Derived.WalkKit
import Derived.KernelRfl
import Derived.RowKit3
import Derived.Deep.LoopGhost
import Derived.Deep.QuietTactic
import Derived.BigQuiet
import Derived.WideLaws
import Derived.Deep.DeepCutAuto
import Derived.Deep.CutBlock
import Derived.Deep.RegionHeld3
import Derived.Laws.Rows
import Derived.Lib.AppendStr
import Derived.ArgAppend
import Derived.Laws.IdiomCopy
import Derived.OrdersHeld
import Derived.Laws.BitsLemmas
import Derived.RowKit
import Derived.Lib.SliceRun
import Derived.Test.YthejdhjpbpamoaaGreatDoorShelf
import Derived.Shelf.SlicesQ.IndexFunc
import Derived.Laws.Cover1
import Derived.Test.YthejdhjpbpamoaaGreatDoorFlat
import Derived.Shelf.Spec.SlicesInsert
import Derived.Lib.AppendZerosOnto
import Derived.Laws.NewBlocks
import Derived.Test.YthejdhjpbpamoaaGreatDoorDoor
import Derived.Test.YthejdhjpbpamoaaGreatDoorWWords
import Derived.Test.YthejdhjpbpamoaaGreatDoorWLast
import Derived.Test.YthejdhjpbpamoaaGreatDoorWTab
import Derived.Test.YthejdhjpbpamoaaGreatDoorWFour
import Derived.Test.YthejdhjpbpamoaaGreatDoorWQPut
import Derived.Test.YthejdhjpbpamoaaGreatDoorWApart
import Derived.Test.YthejdhjpbpamoaaGreatDoorWArr
import Derived.Test.YthejdhjpbpamoaaGreatDoorWZeros
import Derived.Test.YthejdhjpbpamoaaGreatDoorWFoot
import Derived.Test.YthejdhjpbpamoaaGreatDoorWKept
import Derived.Test.YthejdhjpbpamoaaGreatDoorWShare
import Derived.Test.YthejdhjpbpamoaaGreatDoorWN
import Derived.Test.YthejdhjpbpamoaaGreatDoorWFootNe
import Derived.Test.YthejdhjpbpamoaaGreatDoorWAt
import Derived.Test.YthejdhjpbpamoaaGreatDoorWEqStruct
import Derived.Test.YthejdhjpbpamoaaGreatDoorWRepsOne
import Derived.Test.YthejdhjpbpamoaaGreatDoorWInv
import Derived.Test.YthejdhjpbpamoaaGreatDoorWInvWords
import Derived.Test.YthejdhjpbpamoaaGreatDoorWGuard
import Derived.Test.YthejdhjpbpamoaaGreatDoorWNEv
import Derived.Test.YthejdhjpbpamoaaGreatDoorWMore
namespace Go.Proofs.YthejdhjpbpamoaaGreatDoor.jD
open Go.RowKit Go.Proofs.YthejdhjpbpamoaaGreatDoorW.iw Go.Proofs.YthejdhjpbpamoaaGreatDoorW.lH Go.Proofs.YthejdhjpbpamoaaGreatDoorW.oO
abbrev ah (x:Int):Value:=.int .i64 x
abbrev jQ (w:World) (g:Nat) (v0:Value) (R:Prop):Prop:=w.cell? ⟨g,0,none⟩=some v0∧R
abbrev aa3 (w:World) (g:Nat) (v0:Value):Prop:=w.cell? ⟨g,0,none⟩=some v0
abbrev Kv (w:World) (g:Nat) (v0 v1 v2:Value) (R:Prop):Prop:=w.cell? ⟨g,0,none⟩=some v0∧w.cell? ⟨g,1,none⟩=some v1∧w.cell? ⟨g,2,none⟩=some v2∧R
abbrev A8 (w:World) (g:Nat) (v0 v1 v2:Value):Prop:=w.cell? ⟨g,0,none⟩=some v0∧w.cell? ⟨g,1,none⟩=some v1∧w.cell? ⟨g,2,none⟩=some v2
abbrev sF (w:World) (g:Nat) (v0 v1 v2 v3:Value) (R:Prop):Prop:=w.cell? ⟨g,0,none⟩=some v0∧w.cell? ⟨g,1,none⟩=some v1∧w.cell? ⟨g,2,none⟩=some v2∧w.cell? ⟨g,3,none⟩=some v3∧R
abbrev aa8 (w:World) (g:Nat) (v0 v1 v2 v3:Value):Prop:=w.cell? ⟨g,0,none⟩=some v0∧w.cell? ⟨g,1,none⟩=some v1∧w.cell? ⟨g,2,none⟩=some v2∧w.cell? ⟨g,3,none⟩=some v3
abbrev aa9 (w:World) (g:Nat) (v0 v1 v2 v3 v4:Value) (R:Prop):Prop:=w.cell? ⟨g,0,none⟩=some v0∧w.cell? ⟨g,1,none⟩=some v1∧w.cell? ⟨g,2,none⟩=some v2∧w.cell? ⟨g,3,none⟩=some v3∧w.cell? ⟨g,4,none⟩=some v4∧R
abbrev UO (w:World) (g:Nat) (v0 v1 v2 v3 v4:Value):Prop:=w.cell? ⟨g,0,none⟩=some v0∧w.cell? ⟨g,1,none⟩=some v1∧w.cell? ⟨g,2,none⟩=some v2∧w.cell? ⟨g,3,none⟩=some v3∧w.cell? ⟨g,4,none⟩=some v4
abbrev zZ (w:World) (g:Nat) (v0 v1 v2 v3 v4 v5:Value):Prop:=w.cell? ⟨g,0,none⟩=some v0∧w.cell? ⟨g,1,none⟩=some v1∧w.cell? ⟨g,2,none⟩=some v2∧w.cell? ⟨g,3,none⟩=some v3∧w.cell? ⟨g,4,none⟩=some v4∧w.cell? ⟨g,5,none⟩=some v5
abbrev AZ (w:World) (g:Nat) (v0 v1 v2 v3 v4 v5 v6 v7 v8 v9 v10 v11 v12 v13:Value):Prop:=w.cell? ⟨g,0,none⟩=some v0∧w.cell? ⟨g,1,none⟩=some v1∧w.cell? ⟨g,2,none⟩=some v2∧w.cell? ⟨g,3,none⟩=some v3∧w.cell? ⟨g,4,none⟩=some v4∧w.cell? ⟨g,5,none⟩=some v5∧w.cell? ⟨g,6,none⟩=some v6∧w.cell? ⟨g,7,none⟩=some v7∧w.cell? ⟨g,8,none⟩=some v8∧w.cell? ⟨g,9,none⟩=some v9∧w.cell? ⟨g,10,none⟩=some v10∧w.cell? ⟨g,11,none⟩=some v11∧w.cell? ⟨g,12,none⟩=some v12∧w.cell? ⟨g,13,none⟩=some v13
abbrev Ky (w:World) (a:Addr) (v0 v1 v2:Value) (R:Prop):Prop:=w.cell? a=some v0∧w.cell? ⟨a.block,a.off+1,none⟩=some v1∧w.cell? ⟨a.block,a.off+2,none⟩=some v2∧R
abbrev xX (w:World) (a:Addr) (v0 v1 v2:Value):Prop:=w.cell? a=some v0∧w.cell? ⟨a.block,a.off+1,none⟩=some v1∧w.cell? ⟨a.block,a.off+2,none⟩=some v2
abbrev vP (w:World) (a:Addr) (v0 v1 v2 v3 v4 v5:Value):Prop:=w.cell? a=some v0∧w.cell? ⟨a.block,a.off+1,none⟩=some v1∧w.cell? ⟨a.block,a.off+2,none⟩=some v2∧w.cell? ⟨a.block,a.off+3,none⟩=some v3∧w.cell? ⟨a.block,a.off+4,none⟩=some v4∧w.cell? ⟨a.block,a.off+5,none⟩=some v5
abbrev KX (w:World) (g o:Nat) (v0 v1 v2:Value) (R:Prop):Prop:=w.cell? ⟨g,o,none⟩=some v0∧w.cell? ⟨g,o+1,none⟩=some v1∧w.cell? ⟨g,o+2,none⟩=some v2∧R
abbrev KY (w:World) (g o:Nat) (v0 v1 v2:Value):Prop:=w.cell? ⟨g,o,none⟩=some v0∧w.cell? ⟨g,o+1,none⟩=some v1∧w.cell? ⟨g,o+2,none⟩=some v2
set_option linter.unusedVariables false

abbrev aj:Bool:=true
abbrev F_:Bool:=false
theorem aB {p:Prop} (h:p:=by kernel_rfl):p:=h
theorem bF {p:Prop} [Decidable p] (h:decide p=true):p:=of_decide_eq_true h
theorem mM {p:Prop} [Decidable p] (h:p):decide p=true:=decide_eq_true h
theorem vX {p:Prop} [Decidable p] (h:¬ p):decide p=false:=decide_eq_false h
theorem dF {α:Type} {a b:α} (h:some a=some b):a=b:=Option.some.inj h
theorem fZ {α:Type} [BEq α] [LawfulBEq α] {a b:α} (h:a=b):(a == b)=true:=beq_iff_eq.mpr h
theorem f_ {α:Type} [BEq α] [LawfulBEq α] {a b:α} (h:a=b):(a != b)=false:=bne_eq_false_iff_eq.mpr h
theorem fP {α:Type} [BEq α] [LawfulBEq α] {a b:α} (h:a≠b):(a == b)=false:=beq_eq_false_iff_ne.mpr h
theorem fQ {α:Type} [BEq α] [LawfulBEq α] {a b:α} (h:a≠b):(a != b)=true:=bne_iff_ne.mpr h
theorem m_ {p:Prop} (h:p):aA p:=⟨h⟩
abbrev Bj:Array Bool:=#[aj,aj,aj,aj,aj,aj,aj,aj,aj,aj,aj,aj,F_,F_]
abbrev Ac:Array Bool:=#[aj,aj,aj,aj,aj,aj,aj,aj,F_,F_]
abbrev Ad:Array Bool:=#[F_,F_,F_,F_]
abbrev Ae:Array Bool:=#[aj,F_,F_,F_]
abbrev Af:Array Bool:=#[aj,aj,F_,F_]
abbrev Ag:Array Bool:=#[aj,aj,aj,F_]
abbrev Ah:Array Bool:=#[aj,aj,aj,aj]
abbrev Bl:Array Bool:=#[F_,F_,F_,F_,F_,F_,F_,F_,F_,F_,F_]
abbrev acG:Array Bool:=#[aj,aj,aj,aj,aj,aj,aj,aj,F_,F_,F_]
abbrev acH:Array Bool:=#[aj,aj,aj,aj,aj,aj,aj,aj,aj,F_,F_]
abbrev acp:Array Bool:=#[aj,aj,aj,aj,aj,aj,aj,aj,aj,aj,F_]
abbrev acr:Array Bool:=#[aj,aj,aj,aj,aj,aj,aj,aj,aj,aj,aj]
abbrev acs:Array Bool:=#[aj,F_,F_,F_,F_,F_,F_,F_,F_,F_,F_]
abbrev Lj:Array Bool:=#[aj,aj,aj,aj,aj,aj,aj,aj,aj,aj,aj,F_,F_,F_]
abbrev Dh:Array Bool:=#[F_,F_,F_,F_,F_,F_,F_,F_,F_,F_,F_,F_,F_]
abbrev Di:Array Bool:=#[F_,F_,F_,F_,F_]
abbrev Dj:Array Bool:=#[aj,aj,aj,aj,F_]
abbrev Dk:Array Bool:=#[aj,aj,aj,aj,aj]
abbrev acA:Array Bool:=#[aj,aj,aj,aj,aj,aj,F_,F_,F_,F_,F_]
abbrev acB:Array Bool:=#[aj,aj,aj,aj,aj,aj,aj,F_,F_,F_,F_]
abbrev EP:Array Bool:=#[F_,F_,F_,F_,F_,F_,F_,F_,F_]
abbrev WE:Array Bool:=#[aj,aj,aj,aj,aj,aj,aj,F_,F_]
abbrev WG:Array Bool:=#[aj,aj,aj,aj,aj,aj,aj,aj,F_]
abbrev WH:Array Bool:=#[aj,aj,aj,aj,aj,aj,aj,aj,aj]
abbrev ER:Array Bool:=#[aj,aj,aj,F_,F_]
abbrev ES:Array Bool:=#[aj,aj,aj,aj,aj,aj,aj,aj,aj,aj,aj,aj,aj,aj,F_,F_]
abbrev IW:Array Bool:=#[F_,F_,F_,F_,F_,F_,F_,F_,F_,F_,F_,F_,F_,F_]
abbrev PN:Array Bool:=#[aj,aj,aj,aj,aj,aj,aj,aj,aj,aj,F_,F_,F_,F_]
abbrev WI:Array Bool:=#[aj,aj,aj,aj,aj,aj,aj,aj,aj,aj,aj,aj,aj,F_]
abbrev WJ:Array Bool:=#[aj,aj,aj,aj,aj,aj,aj,aj,aj,aj,aj,aj,aj,aj]
abbrev acC:Array Bool:=#[aj,F_,aj,F_,F_,F_,F_,F_,F_,F_,F_]
abbrev acD:Array Bool:=#[aj,F_,aj,F_,aj,F_,F_,F_,F_,F_,F_]
abbrev acE:Array Bool:=#[aj,aj,aj,aj,aj,F_,F_,F_,F_,F_,F_]
abbrev IX:Array Bool:=#[F_,aj,F_,F_,F_]
abbrev IY:Array Bool:=#[aj,aj,F_,F_,F_]
abbrev IZ:Array Bool:=#[aj,aj,aj,aj,aj,aj,aj,aj,aj,aj,F_,aj,F_,F_]
abbrev Ll:Array Bool:=#[F_,F_,F_,F_,F_,F_,F_]
abbrev Lm:Array Bool:=#[aj,aj,aj,aj,aj,F_,F_]
abbrev Lp:Array Bool:=#[aj,aj,aj,aj,aj,aj,F_]
abbrev Lr:Array Bool:=#[aj,aj,aj,aj,aj,aj,aj]
abbrev Ls:Array Bool:=#[F_,F_,F_,F_,F_,F_,F_,F_,F_,F_,F_,F_,F_,F_,F_,F_,F_]
abbrev WL:Array Bool:=#[aj,aj,aj,aj,aj,F_,F_,F_,F_,F_,F_,F_,F_,F_,F_,F_,F_]
abbrev WM:Array Bool:=#[aj,aj,aj,aj,aj,aj,F_,F_,F_,F_,F_,F_,F_,F_,F_,F_,F_]
abbrev WO:Array Bool:=#[aj,aj,aj,aj,aj,aj,aj,F_,F_,F_,F_,F_,F_,F_,F_,F_,F_]
abbrev WQ:Array Bool:=#[aj,aj,aj,aj,aj,aj,aj,aj,F_,F_,F_,F_,F_,F_,F_,F_,F_]
abbrev WR:Array Bool:=#[aj,aj,aj,aj,aj,aj,aj,aj,aj,aj,aj,aj,aj,F_,F_,F_,F_]
abbrev WS:Array Bool:=#[aj,aj,aj,aj,aj,aj,aj,aj,aj,aj,aj,aj,aj,aj,F_,F_,F_]
abbrev WT:Array Bool:=#[aj,aj,aj,aj,aj,aj,aj,aj,aj,aj,aj,aj,aj,aj,aj,F_,F_]
abbrev WU:Array Bool:=#[aj,aj,aj,aj,aj,aj,aj,aj,aj,aj,aj,aj,aj,aj,aj,aj,F_]
abbrev WV:Array Bool:=#[aj,aj,aj,aj,aj,aj,aj,aj,aj,aj,aj,aj,aj,aj,aj,aj,aj]
abbrev acF:Array Bool:=#[aj,aj,aj,F_,aj,F_,F_,F_,F_,F_,F_]
abbrev Lu:Array Bool:=#[aj,aj,aj,aj,aj,F_,aj,aj,F_,F_]
abbrev PO:Array Bool:=#[F_,F_,F_,F_,F_,F_,F_,F_,F_,F_,F_,F_,F_,F_,F_,F_,F_,F_]
abbrev WW:Array Bool:=#[aj,aj,aj,aj,aj,F_,F_,F_,F_,F_,F_,F_,F_,F_]
abbrev WX:Array Bool:=#[aj,aj,aj,aj,aj,aj,F_,F_,F_,F_,F_,F_,F_,F_]
abbrev PS:Array Bool:=#[F_,F_,F_,F_,F_,F_,F_,F_,F_,F_,F_,F_,F_,F_,F_,F_]
abbrev PU:Array Bool:=#[aj,aj,aj,aj,aj,aj,aj,F_,F_,F_,F_,F_,F_,F_,F_,F_]
abbrev PV:Array Bool:=#[aj,aj,aj,aj,aj,aj,aj,aj,aj,aj,aj,aj,aj,F_,F_,F_]
abbrev PW:Array Bool:=#[aj,aj,aj,aj,aj,aj,aj,aj,aj,aj,aj,aj,aj,aj,aj,F_]
abbrev PX:Array Bool:=#[aj,aj,aj,aj,aj,aj,aj,aj,aj,aj,aj,aj,aj,aj,aj,aj]
abbrev PY:Array Bool:=#[F_,F_,F_,F_,F_,F_,F_,F_,F_,F_]
abbrev PZ:Array Bool:=#[F_,aj,F_,F_,F_,F_,F_,F_,F_,F_]
abbrev Pq:Array Bool:=#[F_,aj,F_,aj,F_,F_,F_,F_,F_,F_]
abbrev Pv:Array Bool:=#[aj,aj,aj,aj,aj,aj,aj,F_,F_,F_]
abbrev Px:Array Bool:=#[aj,aj,aj,aj,aj,aj,aj,aj,aj,F_]
abbrev Py:Array Bool:=#[aj,aj,aj,aj,aj,aj,aj,aj,aj,aj]
abbrev Pz:Array Bool:=#[F_,F_,F_,F_,F_,F_,F_,F_,F_,F_,F_,F_,F_,F_,F_]
abbrev VH:Array Bool:=#[F_,F_,aj,F_,F_,F_,F_,F_,F_]
abbrev PD:Array Bool:=#[aj,aj,aj,aj,aj,aj,F_,F_,F_,F_,F_,aj,F_,F_]
abbrev PE:Array Bool:=#[aj,aj,aj,aj,aj,aj,aj,F_,F_,F_,F_,aj,F_,F_]
abbrev PG:Array Bool:=#[aj,aj,aj,aj,aj,aj,aj,aj,F_,F_,F_,aj,F_,F_]
abbrev PI:Array Bool:=#[aj,aj,aj,aj,aj,aj,aj,aj,aj,F_,F_,aj,F_,F_]
abbrev PK:Array Bool:=#[aj,aj,aj,aj,aj,F_,F_,F_,F_,F_]
abbrev PL:Array Bool:=#[aj,aj,aj,aj,aj,aj,F_,F_,F_,F_,aj,aj,F_,F_]
abbrev acu:Array Bool:=#[aj,aj,aj,aj,aj,aj,aj,aj,aj,F_,F_,F_,F_,F_,F_,F_,F_]
abbrev acv:Array Bool:=#[aj,aj,aj,aj,aj,aj,aj,aj,aj,aj,F_,F_,F_,F_,F_,F_,F_]
abbrev acw:Array Bool:=#[aj,aj,aj,aj,aj,aj,aj,aj,aj,aj,aj,F_,F_,F_,F_,F_,F_]
abbrev acy:Array Bool:=#[aj,aj,aj,aj,aj,aj,aj,aj,aj,aj,aj,aj,F_,F_,F_,F_,F_]
abbrev acz:Array Bool:=#[aj,aj,aj,aj,aj,aj,aj,aj,F_,aj,F_,F_,F_,F_,F_,F_,F_]
abbrev VI:Array Bool:=#[aj,F_,F_,F_,F_,F_,F_,F_,F_,F_,F_,F_,F_,F_,F_,F_]
abbrev VJ:Array Bool:=#[aj,aj,F_,F_,F_,F_,F_,F_,F_,F_,F_,F_,F_,F_,F_,F_]
abbrev VK:Array Bool:=#[aj,aj,aj,F_,F_,F_,F_,F_,F_,F_,F_,F_,F_,F_,F_,F_]
abbrev VL:Array Bool:=#[aj,aj,aj,aj,F_,F_,F_,F_,F_,F_,F_,F_,F_,F_,F_,F_]
abbrev VN:Array Bool:=#[aj,aj,aj,aj,aj,F_,F_,F_,F_,F_,F_,F_,F_,F_,F_,F_]
abbrev VO:Array Bool:=#[aj,aj,aj,aj,aj,aj,F_,F_,F_,F_,F_,F_,F_,F_,F_,F_]
abbrev VP:Array Bool:=#[aj,aj,aj,aj,aj,aj,aj,aj,F_,F_,F_,F_,F_,F_,F_,F_]
abbrev VQ:Array Bool:=#[aj,aj,aj,aj,aj,aj,aj,aj,aj,F_,F_,F_,F_,F_,F_,F_]
abbrev VR:Array Bool:=#[aj,aj,aj,aj,aj,aj,aj,aj,aj,aj,F_,F_,F_,F_,F_,F_]
abbrev VT:Array Bool:=#[aj,aj,aj,aj,aj,aj,aj,aj,aj,aj,aj,F_,F_,F_,F_,F_]
abbrev VU:Array Bool:=#[aj,aj,aj,aj,aj,aj,aj,aj,aj,aj,aj,aj,F_,F_,F_,F_]
abbrev VW:Array Bool:=#[F_,aj,aj,aj,F_,F_,F_,F_,F_,F_]
abbrev VX:Array Bool:=#[F_,aj,aj,aj,aj,F_,F_,F_,F_,F_]
abbrev VY:Array Bool:=#[F_,aj,aj,aj,aj,F_,aj,F_,F_,F_]
abbrev VZ:Array Bool:=#[aj,aj,aj,aj,aj,F_,aj,F_,F_,F_]
abbrev V3:Array Bool:=#[F_,aj,aj,aj,aj,F_,aj,aj,F_,F_]
abbrev V4:Array Bool:=#[F_,F_,aj,aj,F_,F_,F_,F_,F_]
abbrev V5:Array Bool:=#[F_,F_,aj,aj,aj,F_,F_,F_,F_]
abbrev V6:Array Bool:=#[F_,F_,aj,aj,aj,aj,F_,F_,F_]
abbrev V7:Array Bool:=#[F_,F_,aj,aj,aj,aj,aj,F_,F_]
abbrev V8:Array Bool:=#[aj,F_,aj,aj,aj,aj,aj,F_,F_]
abbrev V9:Array Bool:=#[F_,F_,aj,F_,F_,F_,F_,F_,F_,F_,F_,F_,F_,F_]
abbrev V_:Array Bool:=#[F_,F_,aj,aj,F_,F_,F_,F_,F_,F_,F_,F_,F_,F_]
abbrev Wh:Array Bool:=#[F_,F_,aj,aj,aj,F_,F_,F_,F_,F_,F_,F_,F_,F_]
abbrev Wi:Array Bool:=#[aj,F_,aj,aj,aj,F_,F_,F_,F_,F_,F_,F_,F_,F_]
abbrev Wj:Array Bool:=#[aj,aj,aj,aj,aj,aj,aj,F_,F_,F_,F_,F_,F_,F_]
abbrev Wn:Array Bool:=#[aj,aj,aj,aj,aj,aj,aj,aj,F_,F_,F_,F_,F_,F_]
abbrev Wp:Array Bool:=#[aj,aj,aj,aj,aj,aj,aj,aj,aj,F_,F_,F_,F_,F_]
abbrev Wq:Array Bool:=#[aj,aj,aj,aj,aj,aj,aj,aj,aj,F_,F_,F_,F_,aj,F_,F_]
abbrev Ws:Array Bool:=#[aj,aj,aj,aj,aj,aj,aj,aj,aj,aj,F_,F_,F_,aj,F_,F_]
abbrev Wu:Array Bool:=#[aj,aj,aj,aj,aj,aj,aj,aj,aj,aj,aj,F_,F_,aj,F_,F_]
abbrev Wv:Array Bool:=#[aj,aj,aj,aj,aj,aj,aj,aj,aj,aj,aj,aj,F_,aj,F_,F_]
abbrev Wx:Array Bool:=#[F_,aj,F_,F_,F_,F_,F_,F_,F_,F_,F_,F_,F_,F_,F_,F_,F_]
abbrev Wy:Array Bool:=#[F_,aj,F_,F_,aj,F_,F_,F_,F_,F_,F_,F_,F_,F_,F_,F_,F_]
abbrev WA:Array Bool:=#[aj,aj,F_,F_,aj,F_,F_,F_,F_,F_,F_,F_,F_,F_,F_,F_,F_]
abbrev WB:Array Bool:=#[aj,aj,F_,aj,aj,F_,F_,F_,F_,F_,F_,F_,F_,F_,F_,F_,F_]
abbrev WC:Array Bool:=#[aj,aj,aj,aj,aj,aj,F_,F_,F_,F_,aj,F_,F_,F_]
section
variable {P:Program} {ops:Array Oper} {Q:Exit→Act→World→Prop} {md:Region.Mode} {S:World→Prop} {ds:List Nat}
theorem sN {i:Nat} {N:Option Tmp} {oi:Oper} {v:Value} {fuel:Nat} {l:Array Bool} {a:Act} {w:World} (l':Array Bool) (hc:IJ md ops l l' i=true) {a':Act}
 (h:jl P md ops Q S ds fuel l' a' w) (hi:ops[i]?=some oi:=by rfl) (hN:oi.dst=N:=by rfl) (hQ:∀ c a w,Q (.panic c) (a.put oi.dst v) w→Q (.panic c) a w:=by exact fun _ _ _ h=>h)
 (h1:Region.wanted oi (yielded ops a.tmps)=true:=by rfl) (h2:∀ w',(execOp a.eval oi).run P w'=.ok (.value v) w':=by (intro w';go_simp;with_reducible rfl))
 (ha:a.put N v=a':=by (simp only [Act.put,List.setIfInBounds_toArray,List.set_cons_zero,List.set_cons_succ,aY,bf];rfl)):jl P md ops Q S ds (fuel+1) l a w :=
 JU l' hi hN hc hQ (Or.inl ⟨h1,h2⟩) ha h
end

section
variable {P:Program} {ops:Array Oper} {Q:Exit→Act→World→Prop} {md:Region.Mode} {S:World→Prop} {ds:List Nat}
theorem eX (N:Option Tmp) {fuel:Nat} {l:Array Bool} {a0 a':Act} {v:Value} {w:World} (h:jl P md ops Q S ds fuel l a' w)
 (ha:a0.put N v=a':=by (simp only [Act.put,List.setIfInBounds_toArray,List.set_cons_zero,List.set_cons_succ,aY,bf];rfl)):jl P md ops Q S ds fuel l (a0.put N v) w:=lW ha h
end

theorem a_ {p:Prop} (h:p):aA p:=⟨h⟩
theorem p_ {p q:Prop} (h:p) (k:q):aA p∧q:=⟨⟨h⟩,k⟩
theorem bY {p q:Prop} (h:p) (k:q):p∧q:=⟨h,k⟩
theorem sG {w:World} {g:Nat} {t:TypeId} {v0 v1 v2:Value} (h:w.heap[g]?=some (.cells #[v0,v1,v2] t (0,0))):w.cell? ⟨g,0,none⟩=some v0∧w.cell? ⟨g,1,none⟩=some v1∧w.cell? ⟨g,2,none⟩=some v2:=⟨(aP h 0).trans rfl,(aP h 1).trans rfl,(aP h 2).trans rfl⟩
theorem Ld {w:World} {g:Nat} {t:TypeId} {v0 v1 v2:Value} {R:Prop} (h:w.heap[g]?=some (.cells #[v0,v1,v2] t (0,0))) (r:R):w.cell? ⟨g,0,none⟩=some v0∧w.cell? ⟨g,1,none⟩=some v1∧w.cell? ⟨g,2,none⟩=some v2∧R:=⟨(aP h 0).trans rfl,(aP h 1).trans rfl,(aP h 2).trans rfl,r⟩
theorem VA {w:World} {g:Nat} {t:TypeId} {v0 v1 v2 v3:Value} (h:w.heap[g]?=some (.cells #[v0,v1,v2,v3] t (0,0))):w.cell? ⟨g,0,none⟩=some v0∧w.cell? ⟨g,1,none⟩=some v1∧w.cell? ⟨g,2,none⟩=some v2∧w.cell? ⟨g,3,none⟩=some v3:=⟨(aP h 0).trans rfl,(aP h 1).trans rfl,(aP h 2).trans rfl,(aP h 3).trans rfl⟩
theorem mV {w:World} {g:Nat} {t:TypeId} {v0 v1 v2 v3:Value} {R:Prop} (h:w.heap[g]?=some (.cells #[v0,v1,v2,v3] t (0,0))) (r:R):w.cell? ⟨g,0,none⟩=some v0∧w.cell? ⟨g,1,none⟩=some v1∧w.cell? ⟨g,2,none⟩=some v2∧w.cell? ⟨g,3,none⟩=some v3∧R:=⟨(aP h 0).trans rfl,(aP h 1).trans rfl,(aP h 2).trans rfl,(aP h 3).trans rfl,r⟩
theorem Lh {w:World} {g:Nat} {t:TypeId} {v0 v1 v2 v3 v4:Value} (h:w.heap[g]?=some (.cells #[v0,v1,v2,v3,v4] t (0,0))):w.cell? ⟨g,0,none⟩=some v0∧w.cell? ⟨g,1,none⟩=some v1∧w.cell? ⟨g,2,none⟩=some v2∧w.cell? ⟨g,3,none⟩=some v3∧w.cell? ⟨g,4,none⟩=some v4:=⟨(aP h 0).trans rfl,(aP h 1).trans rfl,(aP h 2).trans rfl,(aP h 3).trans rfl,(aP h 4).trans rfl⟩
theorem acg {w:World} {g:Nat} {t:TypeId} {v0 v1 v2 v3 v4:Value} {R:Prop} (h:w.heap[g]?=some (.cells #[v0,v1,v2,v3,v4] t (0,0))) (r:R):w.cell? ⟨g,0,none⟩=some v0∧w.cell? ⟨g,1,none⟩=some v1∧w.cell? ⟨g,2,none⟩=some v2∧w.cell? ⟨g,3,none⟩=some v3∧w.cell? ⟨g,4,none⟩=some v4∧R:=⟨(aP h 0).trans rfl,(aP h 1).trans rfl,(aP h 2).trans rfl,(aP h 3).trans rfl,(aP h 4).trans rfl,r⟩
theorem qK {w:World} {g:Nat} {t:TypeId} {v0 v1 v2 v3 v4 v5:Value} (h:w.heap[g]?=some (.cells #[v0,v1,v2,v3,v4,v5] t (0,0))):w.cell? ⟨g,0,none⟩=some v0∧w.cell? ⟨g,1,none⟩=some v1∧w.cell? ⟨g,2,none⟩=some v2∧w.cell? ⟨g,3,none⟩=some v3∧w.cell? ⟨g,4,none⟩=some v4∧w.cell? ⟨g,5,none⟩=some v5:=⟨(aP h 0).trans rfl,(aP h 1).trans rfl,(aP h 2).trans rfl,(aP h 3).trans rfl,(aP h 4).trans rfl,(aP h 5).trans rfl⟩
theorem iq {w:World} {g:Nat} {t:TypeId} {v0 v1 v2 v3 v4 v5 v6 v7 v8 v9 v10 v11 v12 v13:Value} (h:w.heap[g]?=some (.cells #[v0,v1,v2,v3,v4,v5,v6,v7,v8,v9,v10,v11,v12,v13] t (0,0))):w.cell? ⟨g,0,none⟩=some v0∧w.cell? ⟨g,1,none⟩=some v1∧w.cell? ⟨g,2,none⟩=some v2∧w.cell? ⟨g,3,none⟩=some v3∧w.cell? ⟨g,4,none⟩=some v4∧w.cell? ⟨g,5,none⟩=some v5∧w.cell? ⟨g,6,none⟩=some v6∧w.cell? ⟨g,7,none⟩=some v7∧w.cell? ⟨g,8,none⟩=some v8∧w.cell? ⟨g,9,none⟩=some v9∧w.cell? ⟨g,10,none⟩=some v10∧w.cell? ⟨g,11,none⟩=some v11∧w.cell? ⟨g,12,none⟩=some v12∧w.cell? ⟨g,13,none⟩=some v13:=⟨(aP h 0).trans rfl,(aP h 1).trans rfl,(aP h 2).trans rfl,(aP h 3).trans rfl,(aP h 4).trans rfl,(aP h 5).trans rfl,(aP h 6).trans rfl,(aP h 7).trans rfl,(aP h 8).trans rfl,(aP h 9).trans rfl,(aP h 10).trans rfl,(aP h 11).trans rfl,(aP h 12).trans rfl,(aP h 13).trans rfl⟩
theorem iQ {w w':World} {p:Addr} {v:Value} (hB:Below w.heap.size w w') (h:w.cell? p=some v):w'.cell? p=some v:=(hB.cell (World.block_lt_of_cell? w _ h)).trans h
theorem lV {g g':Nat} {W:World} (hg:g'=W.heap.size) (h:g < W.heap.size):g≠g':=by rw [hg];exact Nat.ne_of_lt h
theorem lQ {g g':Nat} {W:World} (hg:g'=W.heap.size) (h:g < W.heap.size):g'≠g:=by rw [hg];exact Nat.ne_of_gt h
theorem t_ {w W:World} {g:Nat} (hg:g=W.heap.size) (h:Below w.heap.size w W):w.heap.size≤g:=by rw [hg];exact cZ h

section
variable {P:Program} {ops:Array Oper} {Q:Exit→Act→World→Prop} {md:Region.Mode} {S:World→Prop} {ds:List Nat} {T:Bool × List (List Nat × List Nat)}
theorem bV (i:Nat) {n:Nat} {oi:Oper} {v:Value} {fuel:Nat} {l:Array Bool} {a:Act} {w:World} {a':Act}
 (h:jl P md ops Q S ds fuel (l.setIfInBounds i true) a' w) (HT:aA (kZ md ops=T):=by with_reducible assumption) (hc:EN T l.toList (l.setIfInBounds i true).toList i=true:=by kernel_rfl) (hi:ops[i]?=some oi:=by rfl) (hN:oi.dst=some n:=by rfl) (hQ:∀ c a w,Q (.panic c) (a.put oi.dst v) w→Q (.panic c) a w:=by exact fun _ _ _ h=>h)
 (h1:Region.wanted oi (yielded ops a.tmps)=true:=by rfl) (h2:∀ w',(execOp a.eval oi).run P w'=.ok (.value v) w':=by (intro w';go_simp;with_reducible rfl))
 (ha:a.put (some n) v=a':=by (simp only [Act.put,List.setIfInBounds_toArray,List.set_cons_zero,List.set_cons_succ,aY,bf];rfl)):jl P md ops Q S ds (fuel+1) l a w :=
 JU _ hi hN (K_ HT.out hc) hQ (Or.inl ⟨h1,h2⟩) ha h
theorem cu (i n:Nat) {oi:Oper} {v:Value} {fuel:Nat} {l:Array Bool} {a:Act} {w:World} (l':Array Bool) (HT:aA (kZ md ops=T)) {a':Act}
 (h:jl P md ops Q S ds fuel l' a' w) (hc:EN T l.toList l'.toList i=true:=by kernel_rfl) (hi:ops[i]?=some oi:=by rfl) (hN:oi.dst=some n:=by rfl) (hQ:∀ c a w,Q (.panic c) (a.put oi.dst v) w→Q (.panic c) a w:=by exact fun _ _ _ h=>h)
 (h1:Region.wanted oi (yielded ops a.tmps)=true:=by rfl) (h2:∀ w',(execOp a.eval oi).run P w'=.ok (.value v) w':=by (intro w';go_simp;with_reducible rfl))
 (ha:a.put (some n) v=a':=by (simp only [Act.put,List.setIfInBounds_toArray,List.set_cons_zero,List.set_cons_succ,aY,bf];rfl)):jl P md ops Q S ds (fuel+1) l a w :=
 JU l' hi hN (K_ HT.out hc) hQ (Or.inl ⟨h1,h2⟩) ha h
theorem jW (i:Nat) {n:Nat} {oi:Oper} {fuel:Nat} {l:Array Bool} {a:Act} {w:World} {a':Act}
 (h:jl P md ops Q S ds fuel (l.setIfInBounds i true) a' w) (HT:aA (kZ md ops=T):=by with_reducible assumption) (hc:EN T l.toList (l.setIfInBounds i true).toList i=true:=by kernel_rfl) (hi:ops[i]?=some oi:=by rfl) (hN:oi.dst=some n:=by rfl) (hQ:∀ c a w,Q (.panic c) (a.put oi.dst undef) w→Q (.panic c) a w:=by exact fun _ _ _ h=>h)
 (h1:Region.wanted oi (yielded ops a.tmps)=false:=by rfl)
 (ha:a.put (some n) undef=a':=by (simp only [Act.put,List.setIfInBounds_toArray,List.set_cons_zero,List.set_cons_succ,aY,bf];rfl)):jl P md ops Q S ds (fuel+1) l a w :=
 JU (v:=undef) _ hi hN (K_ HT.out hc) hQ (Or.inr ⟨h1,rfl⟩) ha h
theorem vO (i n:Nat) {oi:Oper} {fuel:Nat} {l:Array Bool} {a:Act} {w:World} (l':Array Bool) (HT:aA (kZ md ops=T)) {a':Act}
 (h:jl P md ops Q S ds fuel l' a' w) (hc:EN T l.toList l'.toList i=true:=by kernel_rfl) (hi:ops[i]?=some oi:=by rfl) (hN:oi.dst=some n:=by rfl) (hQ:∀ c a w,Q (.panic c) (a.put oi.dst undef) w→Q (.panic c) a w:=by exact fun _ _ _ h=>h)
 (h1:Region.wanted oi (yielded ops a.tmps)=false:=by rfl)
 (ha:a.put (some n) undef=a':=by (simp only [Act.put,List.setIfInBounds_toArray,List.set_cons_zero,List.set_cons_succ,aY,bf];rfl)):jl P md ops Q S ds (fuel+1) l a w :=
 JU (v:=undef) l' hi hN (K_ HT.out hc) hQ (Or.inr ⟨h1,rfl⟩) ha h
end

section
variable {P:Program} {ops:Array Oper} {Q:Exit→Act→World→Prop} {md:Region.Mode} {S:World→Prop} {ds:List Nat} {T:Bool × List (List Nat × List Nat)} {B:List Nat}
theorem lg (i:Nat) {n:Nat} {oi:Oper} {v:Value} {fuel:Nat} {l:Array Bool} {a:Act} {w:World} (hS:S w) {a':Act}
 (h:jl P md ops Q S ds fuel (l.setIfInBounds i true) a' w) (HT:aA (kZ md ops=T):=by with_reducible assumption) (HW:aA (uS T.2 B=true):=by with_reducible assumption) (hc:NP T B ds l.toList (l.setIfInBounds i true).toList i=true:=by kernel_rfl) (hi:ops[i]?=some oi:=by rfl) (hN:oi.dst=some n:=by rfl) (hQ:∀ c a w,Q (.panic c) (a.put oi.dst v) w→Q (.panic c) a w:=by exact fun _ _ _ h=>h)
 (h1:Region.wanted oi (yielded ops a.tmps)=true:=by rfl) (h2:∀ w',S w'→(execOp a.eval oi).run P w'=.ok (.value v) w':=by (intro w' oG;(repeat (obtain ⟨_,oG⟩:=oG));go_simp;with_reducible rfl))
 (ha:a.put (some n) v=a':=by (simp only [Act.put,List.setIfInBounds_toArray,List.set_cons_zero,List.set_cons_succ,aY,bf];rfl)):jl P md ops Q S ds (fuel+1) l a w :=
 lI _ hi hN (xU HT.out HW.out hc) hQ (Or.inl ⟨h1,h2⟩) hS ha h
theorem jZ (i n:Nat) {oi:Oper} {v:Value} {fuel:Nat} {l:Array Bool} {a:Act} {w:World} (l':Array Bool) (HT:aA (kZ md ops=T)) (HW:aA (uS T.2 B=true)) (hS:S w) {a':Act}
 (h:jl P md ops Q S ds fuel l' a' w) (hc:NP T B ds l.toList l'.toList i=true:=by kernel_rfl) (hi:ops[i]?=some oi:=by rfl) (hN:oi.dst=some n:=by rfl) (hQ:∀ c a w,Q (.panic c) (a.put oi.dst v) w→Q (.panic c) a w:=by exact fun _ _ _ h=>h)
 (h1:Region.wanted oi (yielded ops a.tmps)=true:=by rfl) (h2:∀ w',S w'→(execOp a.eval oi).run P w'=.ok (.value v) w':=by (intro w' oG;(repeat (obtain ⟨_,oG⟩:=oG));go_simp;with_reducible rfl))
 (ha:a.put (some n) v=a':=by (simp only [Act.put,List.setIfInBounds_toArray,List.set_cons_zero,List.set_cons_succ,aY,bf];rfl)):jl P md ops Q S ds (fuel+1) l a w :=
 lI l' hi hN (xU HT.out HW.out hc) hQ (Or.inl ⟨h1,h2⟩) hS ha h
end
theorem gB {p0 p1:Prop} (h0:aA p0) (h1:aA p1):p0∧p1:=⟨h0.out,h1.out⟩
theorem g_ {p0 p1 p2 p3:Prop} (h0:aA p0) (h1:aA p1) (h2:aA p2) (h3:aA p3):p0∧p1∧p2∧p3:=⟨h0.out,h1.out,h2.out,h3.out⟩
theorem kJ {p0 p1 p2 p3 p4 p5:Prop} (h0:aA p0) (h1:aA p1) (h2:aA p2) (h3:aA p3) (h4:aA p4) (h5:aA p5):p0∧p1∧p2∧p3∧p4∧p5:=⟨h0.out,h1.out,h2.out,h3.out,h4.out,h5.out⟩
theorem iH {p0 p1 p2 p3 p4 p5 p6 p7:Prop} (h0:aA p0) (h1:aA p1) (h2:aA p2) (h3:aA p3) (h4:aA p4) (h5:aA p5) (h6:aA p6) (h7:aA p7):p0∧p1∧p2∧p3∧p4∧p5∧p6∧p7:=⟨h0.out,h1.out,h2.out,h3.out,h4.out,h5.out,h6.out,h7.out⟩
theorem aG {W:World} {p a:Addr} {u:Value} {v:Option Value} (n:aA (a.block≠p.block)) (h:W.cell? a=v):(W.setCell p u).cell? a=v:=(cell_far n.out u).trans h
theorem aH {α:Type} {d:Kd α} {e:TypeId} {w:World} {base:Nat} {ok:Nat→Prop} {v:Value} {xs:List α} (h:Kd.R d e w base ok v xs) {p:Addr} {u:Value} (hok:∀ k,ok k→k≠p.block:=by exact fun _ hk=>hk.2):Kd.R d e (w.setCell p u) base ok v xs:=Kd.abR h hok u
theorem aJ {p q:Prop} (H:aA q) (h:q→p:=by (intro dG;(with_reducible repeat (first|apply Kd.dB|apply Kd.dD|apply Kd.aZ));exact dG)):p:=h H.out
theorem au {p:Prop} (h:p:=by (repeat (first|(with_reducible first|exact HB.out|apply mY|apply qN|apply lC)|(with_reducible refine iF ?_ (aA.out (by assumption)))|exact HB.out))):p:=h
theorem ak {p q:Prop} (H:aA q) (h:q→p:=by (intro dG;(with_reducible repeat (first|refine mW ?_ _|refine iD ?_|refine kU ?_ _));exact dG)):p:=h H.out
theorem aT {p:Prop} (h:p:=by (repeat' (first|(with_reducible first|refine mW ?_ _|refine iD ?_|refine kU ?_ _)|(with_reducible exact aA.out (by assumption))|(refine yT ?_ (aA.out (by with_reducible assumption)) _)|(refine Df (cs:=?_) ?_ _ _ ?_)|rfl))):p:=h
theorem dO {P:Program} {ops:Array Oper} {Q:Exit→Act→World→Prop} {rest:List Oper} {o:Oper} {a:Act} {W:World} (N:Tmp) {cs:Array Value} (t:TypeId)
 (h:∀ g,g=W.heap.size→∀ w1,w1.heap[g]?=some (.cells cs t (0,0))→Below W.heap.size W w1→wpList P ops Q rest (a.put o.dst (.pointer (some ⟨g,0,none⟩))) w1) (hgd:o.guard=none:=by rfl) (hd:o.dst=some N:=by rfl)
 (hrun:(execOp a.eval o).run P W=.ok (.value (.pointer (some ⟨W.heap.size,0,none⟩))) (W.alloc (.cells cs t (0,0))):=by first|(go_simp;done)|(go_simp;rfl)):wpList P ops Q (o :: rest) a W:=aco hgd hd hrun h
theorem o_ {w W W':World} {g0:Nat} {o0:Obj} (h0:W.heap[g0]?=some o0) (hB:Below w.heap.size w W) (hb:Below W.heap.size W W'):aA (W'.heap[g0]?=some o0)∧aA (Below w.heap.size w W'):=⟨⟨bZ h0 hb⟩,⟨dP hB hb⟩⟩
theorem Ai {w W W':World} {g0 g1:Nat} {o0 o1:Obj} (h0:W.heap[g0]?=some o0) (h1:W.heap[g1]?=some o1) (hB:Below w.heap.size w W) (hb:Below W.heap.size W W'):aA (W'.heap[g0]?=some o0)∧aA (W'.heap[g1]?=some o1)∧aA (Below w.heap.size w W'):=⟨⟨bZ h0 hb⟩,⟨bZ h1 hb⟩,⟨dP hB hb⟩⟩
theorem lD {w W W':World} {g0 g1 g2:Nat} {o0 o1 o2:Obj} (h0:W.heap[g0]?=some o0) (h1:W.heap[g1]?=some o1) (h2:W.heap[g2]?=some o2) (hB:Below w.heap.size w W) (hb:Below W.heap.size W W'):aA (W'.heap[g0]?=some o0)∧aA (W'.heap[g1]?=some o1)∧aA (W'.heap[g2]?=some o2)∧aA (Below w.heap.size w W'):=⟨⟨bZ h0 hb⟩,⟨bZ h1 hb⟩,⟨bZ h2 hb⟩,⟨dP hB hb⟩⟩
theorem I4 {w W W':World} {g0 g1 g2 g3:Nat} {o0 o1 o2 o3:Obj} (h0:W.heap[g0]?=some o0) (h1:W.heap[g1]?=some o1) (h2:W.heap[g2]?=some o2) (h3:W.heap[g3]?=some o3) (hB:Below w.heap.size w W) (hb:Below W.heap.size W W'):aA (W'.heap[g0]?=some o0)∧aA (W'.heap[g1]?=some o1)∧aA (W'.heap[g2]?=some o2)∧aA (W'.heap[g3]?=some o3)∧aA (Below w.heap.size w W'):=⟨⟨bZ h0 hb⟩,⟨bZ h1 hb⟩,⟨bZ h2 hb⟩,⟨bZ h3 hb⟩,⟨dP hB hb⟩⟩
theorem oD {w W W':World} {g0 g1 g2 g3 g4:Nat} {o0 o1 o2 o3 o4:Obj} (h0:W.heap[g0]?=some o0) (h1:W.heap[g1]?=some o1) (h2:W.heap[g2]?=some o2) (h3:W.heap[g3]?=some o3) (h4:W.heap[g4]?=some o4) (hB:Below w.heap.size w W) (hb:Below W.heap.size W W'):aA (W'.heap[g0]?=some o0)∧aA (W'.heap[g1]?=some o1)∧aA (W'.heap[g2]?=some o2)∧aA (W'.heap[g3]?=some o3)∧aA (W'.heap[g4]?=some o4)∧aA (Below w.heap.size w W'):=⟨⟨bZ h0 hb⟩,⟨bZ h1 hb⟩,⟨bZ h2 hb⟩,⟨bZ h3 hb⟩,⟨bZ h4 hb⟩,⟨dP hB hb⟩⟩
theorem pR {w W W':World} {g0 g1 g2 g3 g4 g5:Nat} {o0 o1 o2 o3 o4 o5:Obj} (h0:W.heap[g0]?=some o0) (h1:W.heap[g1]?=some o1) (h2:W.heap[g2]?=some o2) (h3:W.heap[g3]?=some o3) (h4:W.heap[g4]?=some o4) (h5:W.heap[g5]?=some o5) (hB:Below w.heap.size w W) (hb:Below W.heap.size W W'):aA (W'.heap[g0]?=some o0)∧aA (W'.heap[g1]?=some o1)∧aA (W'.heap[g2]?=some o2)∧aA (W'.heap[g3]?=some o3)∧aA (W'.heap[g4]?=some o4)∧aA (W'.heap[g5]?=some o5)∧aA (Below w.heap.size w W'):=⟨⟨bZ h0 hb⟩,⟨bZ h1 hb⟩,⟨bZ h2 hb⟩,⟨bZ h3 hb⟩,⟨bZ h4 hb⟩,⟨bZ h5 hb⟩,⟨dP hB hb⟩⟩
theorem WZ {w W W':World} {g0 g1 g2 g3 g4 g5 g6:Nat} {o0 o1 o2 o3 o4 o5 o6:Obj} (h0:W.heap[g0]?=some o0) (h1:W.heap[g1]?=some o1) (h2:W.heap[g2]?=some o2) (h3:W.heap[g3]?=some o3) (h4:W.heap[g4]?=some o4) (h5:W.heap[g5]?=some o5) (h6:W.heap[g6]?=some o6) (hB:Below w.heap.size w W) (hb:Below W.heap.size W W'):aA (W'.heap[g0]?=some o0)∧aA (W'.heap[g1]?=some o1)∧aA (W'.heap[g2]?=some o2)∧aA (W'.heap[g3]?=some o3)∧aA (W'.heap[g4]?=some o4)∧aA (W'.heap[g5]?=some o5)∧aA (W'.heap[g6]?=some o6)∧aA (Below w.heap.size w W'):=⟨⟨bZ h0 hb⟩,⟨bZ h1 hb⟩,⟨bZ h2 hb⟩,⟨bZ h3 hb⟩,⟨bZ h4 hb⟩,⟨bZ h5 hb⟩,⟨bZ h6 hb⟩,⟨dP hB hb⟩⟩
theorem kL {w W W':World} {g':Nat} {o':Obj}  (hB:Below w.heap.size w W) (hb:Below W.heap.size W W') (hbox:W'.heap[g']?=some o') (hg:g'=W.heap.size):aA (Below w.heap.size w W')∧aA (W'.heap[g']?=some o')∧aA (w.heap.size≤g')∧aA (w.heap.size≤g'):=⟨⟨dP hB hb⟩,⟨hbox⟩,⟨t_ hg hB⟩,⟨t_ hg hB⟩⟩
theorem pq {w W W':World} {g':Nat} {o':Obj} {g0:Nat} {o0:Obj} (h0:W.heap[g0]?=some o0) (hB:Below w.heap.size w W) (hb:Below W.heap.size W W') (hbox:W'.heap[g']?=some o') (hg:g'=W.heap.size):aA (W'.heap[g0]?=some o0)∧aA (Below w.heap.size w W')∧aA (W'.heap[g']?=some o')∧aA (w.heap.size≤g')∧aA (w.heap.size≤g')∧aA (g0≠g')∧aA (g'≠g0):=⟨⟨bZ h0 hb⟩,⟨dP hB hb⟩,⟨hbox⟩,⟨t_ hg hB⟩,⟨t_ hg hB⟩,⟨lV hg (gu h0)⟩,⟨lQ hg (gu h0)⟩⟩
theorem pU {w W W':World} {g':Nat} {o':Obj} {g0 g1:Nat} {o0 o1:Obj} (h0:W.heap[g0]?=some o0) (h1:W.heap[g1]?=some o1) (hB:Below w.heap.size w W) (hb:Below W.heap.size W W') (hbox:W'.heap[g']?=some o') (hg:g'=W.heap.size):aA (W'.heap[g0]?=some o0)∧aA (W'.heap[g1]?=some o1)∧aA (Below w.heap.size w W')∧aA (W'.heap[g']?=some o')∧aA (w.heap.size≤g')∧aA (w.heap.size≤g')∧aA (g0≠g')∧aA (g'≠g0)∧aA (g1≠g')∧aA (g'≠g1):=⟨⟨bZ h0 hb⟩,⟨bZ h1 hb⟩,⟨dP hB hb⟩,⟨hbox⟩,⟨t_ hg hB⟩,⟨t_ hg hB⟩,⟨lV hg (gu h0)⟩,⟨lQ hg (gu h0)⟩,⟨lV hg (gu h1)⟩,⟨lQ hg (gu h1)⟩⟩
theorem vI {w W W':World} {g':Nat} {o':Obj} {g0 g1 g2:Nat} {o0 o1 o2:Obj} (h0:W.heap[g0]?=some o0) (h1:W.heap[g1]?=some o1) (h2:W.heap[g2]?=some o2) (hB:Below w.heap.size w W) (hb:Below W.heap.size W W') (hbox:W'.heap[g']?=some o') (hg:g'=W.heap.size):aA (W'.heap[g0]?=some o0)∧aA (W'.heap[g1]?=some o1)∧aA (W'.heap[g2]?=some o2)∧aA (Below w.heap.size w W')∧aA (W'.heap[g']?=some o')∧aA (w.heap.size≤g')∧aA (w.heap.size≤g')∧aA (g0≠g')∧aA (g'≠g0)∧aA (g1≠g')∧aA (g'≠g1)∧aA (g2≠g')∧aA (g'≠g2):=⟨⟨bZ h0 hb⟩,⟨bZ h1 hb⟩,⟨bZ h2 hb⟩,⟨dP hB hb⟩,⟨hbox⟩,⟨t_ hg hB⟩,⟨t_ hg hB⟩,⟨lV hg (gu h0)⟩,⟨lQ hg (gu h0)⟩,⟨lV hg (gu h1)⟩,⟨lQ hg (gu h1)⟩,⟨lV hg (gu h2)⟩,⟨lQ hg (gu h2)⟩⟩
theorem EU {w W W':World} {g':Nat} {o':Obj} {g0 g1 g2 g3:Nat} {o0 o1 o2 o3:Obj} (h0:W.heap[g0]?=some o0) (h1:W.heap[g1]?=some o1) (h2:W.heap[g2]?=some o2) (h3:W.heap[g3]?=some o3) (hB:Below w.heap.size w W) (hb:Below W.heap.size W W') (hbox:W'.heap[g']?=some o') (hg:g'=W.heap.size):aA (W'.heap[g0]?=some o0)∧aA (W'.heap[g1]?=some o1)∧aA (W'.heap[g2]?=some o2)∧aA (W'.heap[g3]?=some o3)∧aA (Below w.heap.size w W')∧aA (W'.heap[g']?=some o')∧aA (w.heap.size≤g')∧aA (w.heap.size≤g')∧aA (g0≠g')∧aA (g'≠g0)∧aA (g1≠g')∧aA (g'≠g1)∧aA (g2≠g')∧aA (g'≠g2)∧aA (g3≠g')∧aA (g'≠g3):=⟨⟨bZ h0 hb⟩,⟨bZ h1 hb⟩,⟨bZ h2 hb⟩,⟨bZ h3 hb⟩,⟨dP hB hb⟩,⟨hbox⟩,⟨t_ hg hB⟩,⟨t_ hg hB⟩,⟨lV hg (gu h0)⟩,⟨lQ hg (gu h0)⟩,⟨lV hg (gu h1)⟩,⟨lQ hg (gu h1)⟩,⟨lV hg (gu h2)⟩,⟨lQ hg (gu h2)⟩,⟨lV hg (gu h3)⟩,⟨lQ hg (gu h3)⟩⟩
theorem Bo {w W W':World} {g':Nat} {o':Obj} {g0 g1 g2 g3 g4:Nat} {o0 o1 o2 o3 o4:Obj} (h0:W.heap[g0]?=some o0) (h1:W.heap[g1]?=some o1) (h2:W.heap[g2]?=some o2) (h3:W.heap[g3]?=some o3) (h4:W.heap[g4]?=some o4) (hB:Below w.heap.size w W) (hb:Below W.heap.size W W') (hbox:W'.heap[g']?=some o') (hg:g'=W.heap.size):aA (W'.heap[g0]?=some o0)∧aA (W'.heap[g1]?=some o1)∧aA (W'.heap[g2]?=some o2)∧aA (W'.heap[g3]?=some o3)∧aA (W'.heap[g4]?=some o4)∧aA (Below w.heap.size w W')∧aA (W'.heap[g']?=some o')∧aA (w.heap.size≤g')∧aA (w.heap.size≤g')∧aA (g0≠g')∧aA (g'≠g0)∧aA (g1≠g')∧aA (g'≠g1)∧aA (g2≠g')∧aA (g'≠g2)∧aA (g3≠g')∧aA (g'≠g3)∧aA (g4≠g')∧aA (g'≠g4):=⟨⟨bZ h0 hb⟩,⟨bZ h1 hb⟩,⟨bZ h2 hb⟩,⟨bZ h3 hb⟩,⟨bZ h4 hb⟩,⟨dP hB hb⟩,⟨hbox⟩,⟨t_ hg hB⟩,⟨t_ hg hB⟩,⟨lV hg (gu h0)⟩,⟨lQ hg (gu h0)⟩,⟨lV hg (gu h1)⟩,⟨lQ hg (gu h1)⟩,⟨lV hg (gu h2)⟩,⟨lQ hg (gu h2)⟩,⟨lV hg (gu h3)⟩,⟨lQ hg (gu h3)⟩,⟨lV hg (gu h4)⟩,⟨lQ hg (gu h4)⟩⟩
theorem acJ {w W W':World} {g':Nat} {o':Obj} {g0 g1 g2 g3 g4 g5:Nat} {o0 o1 o2 o3 o4 o5:Obj} (h0:W.heap[g0]?=some o0) (h1:W.heap[g1]?=some o1) (h2:W.heap[g2]?=some o2) (h3:W.heap[g3]?=some o3) (h4:W.heap[g4]?=some o4) (h5:W.heap[g5]?=some o5) (hB:Below w.heap.size w W) (hb:Below W.heap.size W W') (hbox:W'.heap[g']?=some o') (hg:g'=W.heap.size):aA (W'.heap[g0]?=some o0)∧aA (W'.heap[g1]?=some o1)∧aA (W'.heap[g2]?=some o2)∧aA (W'.heap[g3]?=some o3)∧aA (W'.heap[g4]?=some o4)∧aA (W'.heap[g5]?=some o5)∧aA (Below w.heap.size w W')∧aA (W'.heap[g']?=some o')∧aA (w.heap.size≤g')∧aA (w.heap.size≤g')∧aA (g0≠g')∧aA (g'≠g0)∧aA (g1≠g')∧aA (g'≠g1)∧aA (g2≠g')∧aA (g'≠g2)∧aA (g3≠g')∧aA (g'≠g3)∧aA (g4≠g')∧aA (g'≠g4)∧aA (g5≠g')∧aA (g'≠g5):=⟨⟨bZ h0 hb⟩,⟨bZ h1 hb⟩,⟨bZ h2 hb⟩,⟨bZ h3 hb⟩,⟨bZ h4 hb⟩,⟨bZ h5 hb⟩,⟨dP hB hb⟩,⟨hbox⟩,⟨t_ hg hB⟩,⟨t_ hg hB⟩,⟨lV hg (gu h0)⟩,⟨lQ hg (gu h0)⟩,⟨lV hg (gu h1)⟩,⟨lQ hg (gu h1)⟩,⟨lV hg (gu h2)⟩,⟨lQ hg (gu h2)⟩,⟨lV hg (gu h3)⟩,⟨lQ hg (gu h3)⟩,⟨lV hg (gu h4)⟩,⟨lQ hg (gu h4)⟩,⟨lV hg (gu h5)⟩,⟨lQ hg (gu h5)⟩⟩
theorem acV {b:Nat} {w W:World} {g0:Nat} {o0:Obj} (h0:aA (W.heap[g0]?=some o0)) (hB:aA (Below b w W)):aA (W.drew.heap[g0]?=some o0)∧aA (Below b w W.drew):=⟨⟨iD h0.out⟩,⟨lC hB.out⟩⟩
theorem acW {b:Nat} {w W:World} {g0 g1:Nat} {o0 o1:Obj} (h0:aA (W.heap[g0]?=some o0)) (h1:aA (W.heap[g1]?=some o1)) (hB:aA (Below b w W)):aA (W.drew.heap[g0]?=some o0)∧aA (W.drew.heap[g1]?=some o1)∧aA (Below b w W.drew):=⟨⟨iD h0.out⟩,⟨iD h1.out⟩,⟨lC hB.out⟩⟩
theorem yU {b:Nat} {w W:World} {g0 g1 g2:Nat} {o0 o1 o2:Obj} (h0:aA (W.heap[g0]?=some o0)) (h1:aA (W.heap[g1]?=some o1)) (h2:aA (W.heap[g2]?=some o2)) (hB:aA (Below b w W)):aA (W.drew.heap[g0]?=some o0)∧aA (W.drew.heap[g1]?=some o1)∧aA (W.drew.heap[g2]?=some o2)∧aA (Below b w W.drew):=⟨⟨iD h0.out⟩,⟨iD h1.out⟩,⟨iD h2.out⟩,⟨lC hB.out⟩⟩
theorem wV {b:Nat} {w W:World} {g0 g1 g2 g3:Nat} {o0 o1 o2 o3:Obj} (h0:aA (W.heap[g0]?=some o0)) (h1:aA (W.heap[g1]?=some o1)) (h2:aA (W.heap[g2]?=some o2)) (h3:aA (W.heap[g3]?=some o3)) (hB:aA (Below b w W)):aA (W.drew.heap[g0]?=some o0)∧aA (W.drew.heap[g1]?=some o1)∧aA (W.drew.heap[g2]?=some o2)∧aA (W.drew.heap[g3]?=some o3)∧aA (Below b w W.drew):=⟨⟨iD h0.out⟩,⟨iD h1.out⟩,⟨iD h2.out⟩,⟨iD h3.out⟩,⟨lC hB.out⟩⟩
theorem yV {b:Nat} {w W:World} {g0 g1 g2 g3 g4:Nat} {o0 o1 o2 o3 o4:Obj} (h0:aA (W.heap[g0]?=some o0)) (h1:aA (W.heap[g1]?=some o1)) (h2:aA (W.heap[g2]?=some o2)) (h3:aA (W.heap[g3]?=some o3)) (h4:aA (W.heap[g4]?=some o4)) (hB:aA (Below b w W)):aA (W.drew.heap[g0]?=some o0)∧aA (W.drew.heap[g1]?=some o1)∧aA (W.drew.heap[g2]?=some o2)∧aA (W.drew.heap[g3]?=some o3)∧aA (W.drew.heap[g4]?=some o4)∧aA (Below b w W.drew):=⟨⟨iD h0.out⟩,⟨iD h1.out⟩,⟨iD h2.out⟩,⟨iD h3.out⟩,⟨iD h4.out⟩,⟨lC hB.out⟩⟩
theorem xF {b:Nat} {w W:World} {g0 g1 g2 g3 g4 g5:Nat} {o0 o1 o2 o3 o4 o5:Obj} (h0:aA (W.heap[g0]?=some o0)) (h1:aA (W.heap[g1]?=some o1)) (h2:aA (W.heap[g2]?=some o2)) (h3:aA (W.heap[g3]?=some o3)) (h4:aA (W.heap[g4]?=some o4)) (h5:aA (W.heap[g5]?=some o5)) (hB:aA (Below b w W)):aA (W.drew.heap[g0]?=some o0)∧aA (W.drew.heap[g1]?=some o1)∧aA (W.drew.heap[g2]?=some o2)∧aA (W.drew.heap[g3]?=some o3)∧aA (W.drew.heap[g4]?=some o4)∧aA (W.drew.heap[g5]?=some o5)∧aA (Below b w W.drew):=⟨⟨iD h0.out⟩,⟨iD h1.out⟩,⟨iD h2.out⟩,⟨iD h3.out⟩,⟨iD h4.out⟩,⟨iD h5.out⟩,⟨lC hB.out⟩⟩
theorem Xj {b:Nat} {w W:World} {g0 g1 g2 g3 g4 g5 g6:Nat} {o0 o1 o2 o3 o4 o5 o6:Obj} (h0:aA (W.heap[g0]?=some o0)) (h1:aA (W.heap[g1]?=some o1)) (h2:aA (W.heap[g2]?=some o2)) (h3:aA (W.heap[g3]?=some o3)) (h4:aA (W.heap[g4]?=some o4)) (h5:aA (W.heap[g5]?=some o5)) (h6:aA (W.heap[g6]?=some o6)) (hB:aA (Below b w W)):aA (W.drew.heap[g0]?=some o0)∧aA (W.drew.heap[g1]?=some o1)∧aA (W.drew.heap[g2]?=some o2)∧aA (W.drew.heap[g3]?=some o3)∧aA (W.drew.heap[g4]?=some o4)∧aA (W.drew.heap[g5]?=some o5)∧aA (W.drew.heap[g6]?=some o6)∧aA (Below b w W.drew):=⟨⟨iD h0.out⟩,⟨iD h1.out⟩,⟨iD h2.out⟩,⟨iD h3.out⟩,⟨iD h4.out⟩,⟨iD h5.out⟩,⟨iD h6.out⟩,⟨lC hB.out⟩⟩
theorem jA {w:World} {g:Nat} {t:TypeId} {cs:Array Value} (h:w.heap[g]?=some (.cells cs t (0,0))):w.frozen? ⟨g,0,none⟩=false∧w.frozen? ⟨g,1,none⟩=false∧w.frozen? ⟨g,2,none⟩=false∧w.frozen? ⟨g,3,none⟩=false∧w.frozen? ⟨g,4,none⟩=false∧w.frozen? ⟨g,5,none⟩=false∧w.frozen? ⟨g,6,none⟩=false∧w.frozen? ⟨g,7,none⟩=false∧w.frozen? ⟨g,8,none⟩=false∧w.frozen? ⟨g,9,none⟩=false∧w.frozen? ⟨g,10,none⟩=false∧w.frozen? ⟨g,11,none⟩=false∧w.frozen? ⟨g,12,none⟩=false∧w.frozen? ⟨g,13,none⟩=false:=⟨bP h 0,bP h 1,bP h 2,bP h 3,bP h 4,bP h 5,bP h 6,bP h 7,bP h 8,bP h 9,bP h 10,bP h 11,bP h 12,bP h 13⟩
section
variable {p:Prop}
theorem aX (h:p:=by ((try simp only [List.map_toArray,List.map_cons,List.map_nil]);first|done|rfl|(simp only [List.length_drop,List.length_take];rfl))):p:=h
theorem bM (h:p:=by (first|rfl|(simp [rD,rE] <;> rfl)|(simp [*,rD,rE] <;> rfl))):p:=h
theorem bG (h:p:=by (first|(with_reducible assumption)|assumption)):p:=h
theorem bg (h:p:=by (first|rfl|(simp;done)|(simp [*];done))):p:=h
theorem oq (h:p:=by (first|exact Kd.AP (Kd.fV dn.out jR.out (by decide))|(rw [add_block];exact Kd.AP (Kd.fV dn.out jR.out (by decide)))|(show (Addr.add _ _).block≠_;rw [add_block];exact Kd.AP (Kd.fV dn.out jR.out (by decide)))|(dsimp only;exact Kd.AP (Kd.fV dn.out jR.out (by decide))))):p:=h
theorem jv (h:p:=by (repeat (first|(with_reducible first|exact HK.out|apply aV.yE|apply zk|apply wY|apply zi)|exact HK.out))):p:=h
theorem jc (h:p:=by (repeat (first|(with_reducible first|exact HK.out|apply Kept.alloc|apply Kept.drewN|apply Kept.drew)|exact HK.out))):p:=h
theorem kD (h:p:=by (first|exact Kd.IC _ _ _ _ _|exact Kd.abJ _ _ _ _ _|exact Kd.ab6 _ _ _ _ _|exact Kd.abM _ _ _ _ _|exact Kd.abY _ _ _ _ _)):p:=h
theorem pW (h:p:=by (repeat (first|(with_reducible first|exact HK.out|apply aV.yE|apply zk|apply wY|apply zi|refine uN ?_ Ez.out _|refine uN ?_ Ir.out _|refine uN ?_ KA.out _)|exact HK.out))):p:=h
theorem pX (h:p:=by (repeat (first|(with_reducible first|exact HK.out|apply aV.yE|apply zk|apply wY|apply zi|refine uN ?_ U1.out _|refine uN ?_ abv.out _)|exact HK.out))):p:=h
theorem pG (h:p:=by (repeat (first|exact (Kd.pJ yP.out HB.out)|(with_reducible refine Kd.jO ?_ _)|(with_reducible refine Kd.jT ?_ _)|(with_reducible refine Kd.jS ?_)))):p:=h
theorem pY (h:p:=by (repeat (first|exact (Kd.pJ lq.out HB.out)|(with_reducible refine Kd.jO ?_ _)|(with_reducible refine Kd.jT ?_ _)|(with_reducible refine Kd.jS ?_)))):p:=h
theorem um (h:p:=by (repeat (first|(with_reducible first|exact HK.out|apply aV.yE|apply zk|apply wY|apply zi|refine uN ?_ Ez.out _|refine uN ?_ Ir.out _)|exact HK.out))):p:=h
theorem J9 (h:p:=by (first|exact Nat.ne_of_lt (Nat.lt_of_lt_of_le BR xY.out)|(rw [add_block];exact Nat.ne_of_lt (Nat.lt_of_lt_of_le BR xY.out))|(show (Addr.add _ _).block≠_;rw [add_block];exact Nat.ne_of_lt (Nat.lt_of_lt_of_le BR xY.out))|(dsimp only;exact Nat.ne_of_lt (Nat.lt_of_lt_of_le BR xY.out)))):p:=h
theorem J_ (h:p:=by (first|exact Nat.ne_of_lt (Nat.lt_of_lt_of_le BU xY.out)|(rw [add_block];exact Nat.ne_of_lt (Nat.lt_of_lt_of_le BU xY.out))|(show (Addr.add _ _).block≠_;rw [add_block];exact Nat.ne_of_lt (Nat.lt_of_lt_of_le BU xY.out))|(dsimp only;exact Nat.ne_of_lt (Nat.lt_of_lt_of_le BU xY.out)))):p:=h
theorem Ko (h:p:=by (first|exact Nat.ne_of_lt (Nat.lt_of_lt_of_le BX xY.out)|(rw [add_block];exact Nat.ne_of_lt (Nat.lt_of_lt_of_le BX xY.out))|(show (Addr.add _ _).block≠_;rw [add_block];exact Nat.ne_of_lt (Nat.lt_of_lt_of_le BX xY.out))|(dsimp only;exact Nat.ne_of_lt (Nat.lt_of_lt_of_le BX xY.out)))):p:=h
theorem zA (h:p:=by ((with_reducible repeat (first|apply Kd.dB|apply Kd.dD|apply Kd.aZ));exact Kd.bn (aH (aH (aH (aH (aH (aH (Kd.bQ (Kd.bQ iE.out dS.out (by decide)) bK.out (by decide)) (fun _ hk=>hk.1.2))))))) (fun _ hk=>trivial))):p:=h
theorem vN (h:p:=by (repeat (first|exact (Kd.pJ OU.out HB.out)|(with_reducible refine Kd.jO ?_ _)|(with_reducible refine Kd.jT ?_ _)|(with_reducible refine Kd.jS ?_)))):p:=h
theorem kN (h:p:=by (repeat (first|exact nU.refl _|apply nU.step))):p:=h
theorem yK (h:p:=by (first|(simp only [uO,Act.put,List.setIfInBounds_toArray,List.set_cons_zero,List.set_cons_succ];done)|(simp only [uO,Act.put,List.setIfInBounds_toArray,List.set_cons_zero,List.set_cons_succ];rfl))):p:=h
theorem AV (h:p:=by (repeat (first|(with_reducible first|exact HK.out|apply aV.yE|apply zk|apply wY|apply zi|refine uN ?_ OA.out _|refine uN ?_ UZ.out _|refine uN ?_ abt.out _)|exact HK.out))):p:=h
theorem yL (h:p:=by (repeat (first|(with_reducible first|exact HK.out|apply aV.yE|apply zk|apply wY|apply zi|refine uN ?_ Ez.out _)|exact HK.out))):p:=h
theorem Ib (h:p:=by (first|exact Kd.AP (Kd.fV dn.out lJ.out (by decide))|(rw [add_block];exact Kd.AP (Kd.fV dn.out lJ.out (by decide)))|(show (Addr.add _ _).block≠_;rw [add_block];exact Kd.AP (Kd.fV dn.out lJ.out (by decide)))|(dsimp only;exact Kd.AP (Kd.fV dn.out lJ.out (by decide))))):p:=h
theorem kC (h:p:=by (first|omega|exact Nat.le_refl _)):p:=h
theorem Ic (h:p:=by exact (bD.c3 (show Kd.M aU _ _ _ (⟨jB,((aC aI dH).f1),((aC aI dH).f2)⟩:aF) [.string jB,.bool ((aC aI dH).f1),.string ((aC aI dH).f2)] from (qp _ _ _ (⟨jB,((aC aI dH).f1),((aC aI dH).f2)⟩:aF) )) (bD.none _ _))):p:=h
theorem wK (h:p:=by ((with_reducible repeat (first|apply Kd.qh|apply Kd.qj|apply Kd.mQ));exact lK.out)):p:=h
theorem xg (h:p:=by ((with_reducible repeat (first|apply Kd.qh|apply Kd.qj|apply Kd.mQ));exact nC.out)):p:=h
theorem Ie (h:p:=by (repeat (first|(with_reducible exact wQ.out)|(with_reducible refine Kd.jO ?_ _)|(with_reducible refine Kd.jT ?_ _)|(with_reducible refine Kd.jS ?_)|exact wQ.out))):p:=h
theorem Ig (h:p:=by (repeat (first|(with_reducible exact wP.out)|(with_reducible refine Kd.jO ?_ _)|(with_reducible refine Kd.jT ?_ _)|(with_reducible refine Kd.jS ?_)|exact wP.out))):p:=h
theorem xk (h:p:=by simp only [uO,Act.put,List.setIfInBounds_toArray,List.set_cons_zero,List.set_cons_succ]):p:=h
theorem En (h:p:=by (repeat (first|(with_reducible first|exact HK.out|apply aV.yE|apply zk|apply wY|apply zi|refine uN ?_ U1.out _)|exact HK.out))):p:=h
theorem aaG (h:p:=by ((with_reducible repeat (first|refine mW ?_ _|refine iD ?_|refine kU ?_ _));refine Df (cs:=#[.string ((aC cO a2).f0),.bool ((aC cO a2).f1),.string ((aC cO a2).f2)]) ?_ 2 _ rfl;(with_reducible repeat (first|refine mW ?_ _|refine iD ?_|refine kU ?_ _));refine Df (cs:=#[.string ((aC cO a2).f0),.bool ((aC cO a2).f1),.string (⟨#[]⟩:ByteArray)]) ?_ 2 _ rfl;(with_reducible repeat (first|refine mW ?_ _|refine iD ?_|refine kU ?_ _));refine Df (cs:=#[.string ((aC cO a2).f0),.bool false,.string (⟨#[]⟩:ByteArray)]) ?_ 1 _ rfl;(with_reducible repeat (first|refine mW ?_ _|refine iD ?_|refine kU ?_ _));refine Df (cs:=#[.string (⟨#[]⟩:ByteArray),.bool false,.string (⟨#[]⟩:ByteArray)]) ?_ 0 _ rfl;(with_reducible repeat (first|refine mW ?_ _|refine iD ?_|refine kU ?_ _));exact tJ.out)):p:=h
theorem Ih (h:p:=by (repeat (first|(with_reducible first|exact HK.out|apply aV.yE|apply zk|apply wY|apply zi|refine uN ?_ U0.out _)|exact HK.out))):p:=h
theorem aaH (h:p:=by ((with_reducible repeat (first|apply Kd.qh|apply Kd.qj|apply Kd.mQ));exact Kd.iL (Kd.fF (p:=⟨dX,4,none⟩) (Kd.fF (p:=⟨dX,3,none⟩) (Kd.fF (p:=⟨dX,2,none⟩) (Kd.fF (p:=⟨dX,1,none⟩) (Kd.fF (p:=⟨dX,0,none⟩) (Kd.fF (p:=⟨og,0,none⟩) (Kd.iL (Kd.iL uo.out (fun ay hk=>(⟨hk,hk.1.2⟩:_∧ay≠og))) (fun ay hk=>(⟨hk,hk.1.2⟩:_∧ay≠dX))) (fun _ hk=>hk.1.2) (.slice jf ny.length jg)) (fun _ hk=>hk.2) (.int .i64 oh)) (fun _ hk=>hk.2) (.string oK)) (fun _ hk=>hk.2) (.int .i64 oL)) (fun _ hk=>hk.2) (.bool oM)) (fun _ hk=>hk.2) (.slice jC mO.length gG)) (fun _ hk=>⟨hk.1.1.1.1.1,⟨hk.1.1.1.1.2.1,⟨hk.1.1.1.1.2.2.1,⟨hk.1.1.1.1.2.2.2.1,⟨hk.1.1.1.1.2.2.2.2.1,⟨hk.1.1.1.1.2.2.2.2.2,⟨hk.1.1.1.2,hk.1.1.2⟩⟩⟩⟩⟩⟩⟩))):p:=h
theorem NS (h:p:=by ((with_reducible repeat (first|refine mW ?_ _|refine iD ?_|refine kU ?_ _));refine Df (cs:=#[.slice none 0 0]) ?_ 0 _ rfl;(with_reducible repeat (first|refine mW ?_ _|refine iD ?_|refine kU ?_ _));exact iG.out)):p:=h
theorem Ii (h:p:=by (repeat (first|exact (Kd.dN l9.out).2.2|(with_reducible refine Kd.jO ?_ _)|(with_reducible refine Kd.jT ?_ _)|(with_reducible refine Kd.jS ?_)))):p:=h
theorem aaI (h:p:=by ((with_reducible repeat (first|apply Kd.qh|apply Kd.qj|apply Kd.mQ));exact Kd.iL (Kd.fF (p:=⟨oQ,4,none⟩) (Kd.fF (p:=⟨oQ,3,none⟩) (Kd.fF (p:=⟨oQ,2,none⟩) (Kd.fF (p:=⟨oQ,1,none⟩) (Kd.fF (p:=⟨oQ,0,none⟩) (Kd.fF (p:=⟨yt,0,none⟩) (Kd.iL (Kd.iL lK.out (fun ay hk=>(⟨hk,hk.1.2⟩:_∧ay≠yt))) (fun ay hk=>(⟨hk,hk.1.2⟩:_∧ay≠oQ))) (fun _ hk=>hk.1.2) (.slice eu bW.length d_)) (fun _ hk=>hk.2) (.int .i64 12)) (fun _ hk=>hk.2) (.string (⟨#[]⟩:ByteArray))) (fun _ hk=>hk.2) (.int .i64 0)) (fun _ hk=>hk.2) (.bool false)) (fun _ hk=>hk.2) (.slice none 0 0)) (fun _ hk=>⟨hk.1.1.1.1.1,yJ⟩))):p:=h
theorem NT (h:p:=by exact (fun ay hk=>⟨Kd.Du (Kd.jJ (aJ eY)) ay hk,Kd.Du (Kd.jJ (aJ qU)) ay hk,Kd.tZ (g:=fO) (o:=.cells #[.string jB,.bool ((aC aI dH).f1),.string ((aC aI dH).f2)] 43 (0,0)) (ak dY) ay hk⟩)):p:=h
theorem NU (h:p:=by exact (fun ay hk=>⟨Kd.Du (Kd.jJ (aJ eY)) ay hk,Kd.Du (Kd.jJ (aJ qR)) ay hk,Kd.tZ (g:=fO) (o:=.cells #[.string jB,.bool ((aC aI dH).f1),.string ((aC aI dH).f2)] 43 (0,0)) (ak dY) ay hk⟩)):p:=h
theorem Ij (h:p:=by (repeat (first|(with_reducible first|exact yO.out|apply mY|apply qN|apply lC)|exact yO.out))):p:=h
theorem BR (h:p:=by (have:=World.block_lt_of_cell? _ _ Tn;first|rwa [add_block] at this|exact this)):p:=h
theorem BU (h:p:=by (have:=World.block_lt_of_cell? _ _ Tm;first|rwa [add_block] at this|exact this)):p:=h
theorem BX (h:p:=by (have:=World.block_lt_of_cell? _ _ Tj;first|rwa [add_block] at this|exact this)):p:=h
theorem ou (h:p:=by (have:=gZ.out;omega)):p:=h
theorem NV (h:p:=by ((with_reducible repeat (first|apply Kd.dB|apply Kd.dD|apply Kd.aZ));exact (Kd.bn (aH (Kd.bQ iU.out iG.out (by decide))) (fun _ dG=>dG.1)))):p:=h
theorem NW (h:p:=by (first|rfl|(simp [rD,rE] <;> rfl)|(simp only [← rV];first|rfl|(simp [rD,rE] <;> rfl))|(simp [*,rD,rE] <;> rfl))):p:=h
theorem NY (h:p:=by ((with_reducible repeat (first|apply Kd.qh|apply Kd.qj|apply Kd.mQ));exact Kd.iL lK.out (fun _ hk=>⟨hk.1.1.1,⟨hk.1.1.2,⟨hk.1.2,hk.2⟩⟩⟩))):p:=h
theorem NZ (h:p:=by (repeat (first|exact (Kd.dN fU.out).2.2|(with_reducible refine Kd.jO ?_ _)|(with_reducible refine Kd.jT ?_ _)|(with_reducible refine Kd.jS ?_)))):p:=h
theorem N7 (h:p:=by (repeat (first|exact (Kd.vU nC.out).2.2|(with_reducible refine Kd.jO ?_ _)|(with_reducible refine Kd.jT ?_ _)|(with_reducible refine Kd.jS ?_)))):p:=h
theorem N8 (h:p:=by ((with_reducible repeat (first|apply Kd.dB|apply Kd.dD|apply Kd.aZ));exact Kd.bn eY.out (fun _ hk=>⟨⟨hk.2,hk.1.1⟩,hk.1.2⟩))):p:=h
theorem N9 (h:p:=by ((with_reducible repeat (first|apply Kd.dB|apply Kd.dD|apply Kd.aZ));exact Kd.bn eY.out (fun _ hk=>⟨⟨hk.1.2,hk.1.1⟩,hk.2⟩))):p:=h
theorem N_ (h:p:=by ((with_reducible repeat (first|apply Kd.dB|apply Kd.dD|apply Kd.aZ));exact Kd.bn eY.out (fun _ hk=>⟨hk.2,⟨hk.1.1,hk.1.2⟩⟩))):p:=h
theorem aaJ (h:p:=by ((with_reducible repeat (first|apply Kd.qh|apply Kd.qj|apply Kd.mQ));exact (Kd.iL (Kd.fF (p:=⟨nP,13,none⟩) (Kd.fF (p:=⟨nP,12,none⟩) (Kd.fF (p:=⟨nP,11,none⟩) (Kd.iL nC.out (fun ay hk=>(⟨hk,hk.2.1⟩:_∧ay≠nP))) (fun _ hk=>hk.2) (.string (⟨#[47]⟩:ByteArray))) (fun _ hk=>hk.2) (.bool true)) (fun _ hk=>hk.2) (.string (⟨#[]⟩:ByteArray))) (fun _ dG=>dG.1)))):p:=h
theorem Ur (h:p:=by (repeat (first|(with_reducible first|exact HK.out|apply aV.yE|apply zk|apply wY|apply zi|refine uN ?_ OA.out _|refine uN ?_ UZ.out _)|exact HK.out))):p:=h
theorem Oa (h:p:=by ((with_reducible repeat (first|apply Kd.dB|apply Kd.dD|apply Kd.aZ));exact Kd.bn fU.out (fun _ hk=>hk.2))):p:=h
theorem Ob (h:p:=by ((with_reducible repeat (first|apply Kd.dB|apply Kd.dD|apply Kd.aZ));exact Kd.bn o8.out (fun _ hk=>hk.2))):p:=h
theorem Us (h:p:=by (repeat (first|(with_reducible exact Iz.out)|(with_reducible refine Kd.jO ?_ _)|(with_reducible refine Kd.jT ?_ _)|(with_reducible refine Kd.jS ?_)|exact Iz.out))):p:=h
theorem Ut (h:p:=by (repeat (first|(with_reducible exact KL.out)|(with_reducible refine Kd.jO ?_ _)|(with_reducible refine Kd.jT ?_ _)|(with_reducible refine Kd.jS ?_)|exact KL.out))):p:=h
theorem aaK (h:p:=by ((with_reducible repeat (first|refine mW ?_ _|refine iD ?_|refine kU ?_ _));refine Df (cs:=#[.int .i64 uj,.string uT,.string (⟨#[]⟩:ByteArray),.int .i64 0,.int .i64 0,.string (⟨#[]⟩:ByteArray)]) ?_ 3 _ rfl;(with_reducible repeat (first|refine mW ?_ _|refine iD ?_|refine kU ?_ _));exact j_.out)):p:=h
theorem aaL (h:p:=by ((try simp only [uz]);(with_reducible repeat (first|refine mW ?_ _|refine iD ?_|refine kU ?_ _));refine yT ?_ (by have dG:=Kd.fV kR.out oC.out (by decide);intro e_;exact dG (by rw [e_];rfl)) _;(with_reducible repeat (first|refine mW ?_ _|refine iD ?_|refine kU ?_ _));exact oC.out)):p:=h
theorem aaM (h:p:=by ((try simp only [uz]);(with_reducible repeat (first|refine mW ?_ _|refine iD ?_|refine kU ?_ _));refine yT ?_ (by have dG:=Kd.fV kR.out oz.out (by decide);intro e_;exact dG (by rw [e_];rfl)) _;(with_reducible repeat (first|refine mW ?_ _|refine iD ?_|refine kU ?_ _));exact oz.out)):p:=h
theorem aaN (h:p:=by ((try simp only [uz]);(with_reducible repeat (first|refine mW ?_ _|refine iD ?_|refine kU ?_ _));refine yT ?_ (by have dG:=Kd.fV kR.out nS.out (by decide);intro e_;exact dG (by rw [e_];rfl)) _;(with_reducible repeat (first|refine mW ?_ _|refine iD ?_|refine kU ?_ _));exact nS.out)):p:=h
theorem Uu (h:p:=by (repeat (first|(with_reducible first|exact HK.out|apply aV.yE|apply zk|apply wY|apply zi|refine uN ?_ OA.out _)|exact HK.out))):p:=h
theorem Oc (h:p:=by exact (fun ay hk=>Kd.tZ (g:=uK) (o:=.cells #[.string fG,.bool fE,.string fC] 43 (0,0)) (ak kP) ay hk)):p:=h
theorem Oe (h:p:=by ((with_reducible repeat (first|apply Kd.qh|apply Kd.qj|apply Kd.mQ));exact qW.out)):p:=h
theorem Uw (h:p:=by (repeat (first|exact (Kd.pJ HR0.out HB.out)|(with_reducible refine Kd.jO ?_ _)|(with_reducible refine Kd.jT ?_ _)|(with_reducible refine Kd.jS ?_)))):p:=h
theorem Og (h:p:=by ((with_reducible repeat (first|apply Kd.qh|apply Kd.qj|apply Kd.mQ));exact uo.out)):p:=h
theorem Ud (h:p:=by ((with_reducible repeat (first|apply Kd.dB|apply Kd.dD|apply Kd.aZ));exact Kd.bn xC.out (fun _ hk=>⟨hk.2.1,⟨hk.1,hk.2.2⟩⟩))):p:=h
theorem Ue (h:p:=by ((with_reducible repeat (first|apply Kd.dB|apply Kd.dD|apply Kd.aZ));exact Kd.bn xB.out (fun _ hk=>⟨hk.2.1,⟨hk.1,hk.2.2⟩⟩))):p:=h
theorem Uf (h:p:=by ((try simp only [DJ]);(try simp only [GV]);(with_reducible repeat (first|apply Kd.dB|apply Kd.dD|apply Kd.aZ));exact bJ.out)):p:=h
theorem Ug (h:p:=by (repeat (first|exact HR0.out|(with_reducible refine Kd.jO ?_ _)|(with_reducible refine Kd.jT ?_ _)|(with_reducible refine Kd.jS ?_)))):p:=h
theorem NQ (h:p:=by (have:=xZ.out;have:=jM.out;have:=Iw.out;have:=OC.out;have:=abw.out;omega)):p:=h
theorem Uh (h:p:=by (repeat (first|exact Ig|(with_reducible refine Kd.jO ?_ _)|(with_reducible refine Kd.jT ?_ _)|(with_reducible refine Kd.jS ?_)))):p:=h
theorem Ui (h:p:=by (repeat (first|exact Ie|(with_reducible refine Kd.jO ?_ _)|(with_reducible refine Kd.jT ?_ _)|(with_reducible refine Kd.jS ?_)))):p:=h
theorem Uj (h:p:=by ((with_reducible repeat (first|apply Kd.dB|apply Kd.dD|apply Kd.aZ));exact Kd.bn tK.out (fun _ hk=>trivial))):p:=h
theorem Uk (h:p:=by ((with_reducible repeat (first|apply Kd.dB|apply Kd.dD|apply Kd.aZ));exact Kd.bn KF.out (fun _ hk=>hk.2))):p:=h
theorem Ul (h:p:=by ((with_reducible repeat (first|apply Kd.dB|apply Kd.dD|apply Kd.aZ));exact Kd.bn xA.out (fun _ hk=>hk.2))):p:=h
theorem aaj (h:p:=by ((with_reducible repeat (first|apply Kd.dB|apply Kd.dD|apply Kd.aZ));exact Kd.bn (aH (aH (aH (aH (aH (aH (Kd.bQ (Kd.bQ qV.out dR.out (by decide)) dA.out (by decide)) (fun _ hk=>hk.1.2))))))) (fun _ hk=>trivial))):p:=h
theorem aak (h:p:=by ((with_reducible repeat (first|apply Kd.dB|apply Kd.dD|apply Kd.aZ));exact Kd.bn (aH (aH (aH (aH (aH (aH (Kd.bQ (Kd.bQ lZ.out jm.out (by decide)) gY.out (by decide)) (fun _ hk=>hk.1.2))))))) (fun _ hk=>trivial))):p:=h
theorem aal (h:p:=by ((with_reducible repeat (first|apply Kd.dB|apply Kd.dD|apply Kd.aZ));exact Kd.bn (aH (aH (aH (aH (aH (aH (Kd.bQ (Kd.bQ sS.out tC.out (by decide)) tH.out (by decide)) (fun _ hk=>hk.1.2))))))) (fun _ hk=>trivial))):p:=h
theorem Um (h:p:=by ((with_reducible repeat (first|apply Kd.dB|apply Kd.dD|apply Kd.aZ));exact Kd.bn tK.out (fun _ hk=>hk.2))):p:=h
theorem aam (h:p:=by exact (bD.one (show Kd.M (Kd.int .i64) _ _ _ 128 [.int .i64 128] from rfl) (bD.one (show Kd.M (Kd.int .i64) _ _ _ 129 [.int .i64 129] from rfl) (bD.one (show Kd.M (Kd.int .i64) _ _ _ 33 [.int .i64 33] from rfl) (bD.none _ _))))):p:=h
theorem aan (h:p:=by (repeat (first|(with_reducible first|exact HK.out|apply aV.yE|apply zk|apply wY|apply zi|refine uN ?_ U0.out _|refine uN ?_ abu.out _)|exact HK.out))):p:=h
theorem yJ (h:p:=by simp [Value.ownBlock]):p:=h
theorem Un (h:p:=by (repeat (first|(with_reducible first|exact Below.refl _ _|apply mY)|exact Below.refl ..))):p:=h
theorem aao (h:p:=by exact (fun ay hk=>⟨Kd.Du (Kd.jJ (aJ eY)) ay hk,Kd.tZ (g:=fO) (o:=.cells #[.string jB,.bool ((aC aI dH).f1),.string ((aC aI dH).f2)] 43 (0,0)) (ak dY) ay hk⟩)):p:=h
theorem aap (h:p:=by (repeat (first|(with_reducible exact OV.out)|(with_reducible refine Kd.jO ?_ _)|(with_reducible refine Kd.jT ?_ _)|(with_reducible refine Kd.jS ?_)|exact OV.out))):p:=h
theorem aaq (h:p:=by ((with_reducible repeat (first|apply Kd.dB|apply Kd.dD|apply Kd.aZ));exact Kd.bn (aH (Kd.bQ fU.out l7.out (by decide))) (fun _ hk=>hk.1.2))):p:=h
theorem aar (h:p:=by ((with_reducible repeat (first|apply Kd.dB|apply Kd.dD|apply Kd.aZ));exact Kd.bn (aH (Kd.bQ l9.out l7.out (by decide))) (fun _ hk=>hk.1.2))):p:=h
theorem aas (h:p:=by ((with_reducible repeat (first|apply Kd.dB|apply Kd.dD|apply Kd.aZ));exact Kd.bn (aH (Kd.bQ gQ.out l7.out (by decide))) (fun _ hk=>trivial))):p:=h
theorem aat (h:p:=by ((with_reducible repeat (first|apply Kd.dB|apply Kd.dD|apply Kd.aZ));exact Kd.bn (aH (Kd.bQ dn.out l7.out (by decide))) (fun _ hk=>trivial))):p:=h
theorem aau (h:p:=by ((with_reducible repeat (first|apply Kd.dB|apply Kd.dD|apply Kd.aZ));exact Kd.bn (aH (Kd.bQ qV.out nT.out (by decide))) (fun _ hk=>trivial))):p:=h
theorem aav (h:p:=by ((with_reducible repeat (first|apply Kd.dB|apply Kd.dD|apply Kd.aZ));exact (Kd.bn (aH (Kd.bQ x8.out j_.out (by decide))) (fun _ dG=>dG.1)))):p:=h
theorem aaw (h:p:=by ((with_reducible repeat (first|apply Kd.dB|apply Kd.dD|apply Kd.aZ));exact (Kd.bn (aH (Kd.bQ zC.out j_.out (by decide))) (fun _ dG=>dG.1)))):p:=h
theorem aax (h:p:=by ((with_reducible repeat (first|apply Kd.dB|apply Kd.dD|apply Kd.aZ));exact (Kd.bn (aH (Kd.bQ oN.out qJ.out (by decide))) (fun _ dG=>dG.1)))):p:=h
theorem aay (h:p:=by (repeat (first|exact (Kd.vU qW.out).2.2|(with_reducible refine Kd.jO ?_ _)|(with_reducible refine Kd.jT ?_ _)|(with_reducible refine Kd.jS ?_)))):p:=h
theorem aaz (h:p:=by (repeat (first|exact (Kd.dN iU.out).2.2|(with_reducible refine Kd.jO ?_ _)|(with_reducible refine Kd.jT ?_ _)|(with_reducible refine Kd.jS ?_)))):p:=h
theorem aaA (h:p:=by ((with_reducible repeat (first|apply Kd.dB|apply Kd.dD|apply Kd.aZ));exact Kd.bn eY.out (fun _ hk=>⟨⟨hk.2.1,hk.2.2⟩,hk.1⟩))):p:=h
theorem aaB (h:p:=by ((with_reducible repeat (first|apply Kd.dB|apply Kd.dD|apply Kd.aZ));exact Kd.bn eY.out (fun _ hk=>⟨hk.1.2,⟨hk.2,hk.1.1⟩⟩))):p:=h
theorem aaC (h:p:=by exact (bD.c3 (show Kd.M aU _ _ _ (⟨fG,fE,fC⟩:aF) [.string fG,.bool fE,.string fC] from (qp _ _ _ (⟨fG,fE,fC⟩:aF) )) (bD.none _ _))):p:=h
theorem aaD (h:p:=by ((with_reducible repeat (first|apply Kd.dB|apply Kd.dD|apply Kd.aZ));exact Kd.bn qU.out (fun _ hk=>⟨hk.2,⟨hk.1.1,hk.1.2⟩⟩))):p:=h
theorem aaE (h:p:=by ((with_reducible repeat (first|apply Kd.dB|apply Kd.dD|apply Kd.aZ));exact Kd.bn qR.out (fun _ hk=>⟨hk.2,⟨hk.1.1,hk.1.2⟩⟩))):p:=h
theorem NR (h:p:=by (have:=gZ.out;first|omega|exact Nat.le_refl _)):p:=h
theorem J8 (h:p:=by (have:=gZ.out;have:=jM.out;omega)):p:=h
theorem Uo (h:p:=by (have:=gZ.out;have:=EF.out;have:=KC.out;have:=KE.out;omega)):p:=h
theorem aaF (h:p:=by ((with_reducible repeat (first|apply Kd.dB|apply Kd.dD|apply Kd.aZ));exact Kd.bn tK.out (fun _ hk=>⟨trivial,hk⟩))):p:=h
end

theorem uw {w:World} {g:Nat} {t:TypeId} {v0 v1 v2:Value} (h:w.heap[g]?=some (.cells #[v0,v1,v2] t (0,0))):w.cell? ⟨g,0,none⟩=some v0∧w.cell? ⟨g,1,none⟩=some v1∧w.cell? ⟨g,2,none⟩=some v2∧w.frozen? ⟨g,0,none⟩=false∧w.frozen? ⟨g,1,none⟩=false∧w.frozen? ⟨g,2,none⟩=false:=⟨(aP h 0).trans rfl,(aP h 1).trans rfl,(aP h 2).trans rfl,bP h 0,bP h 1,bP h 2⟩
theorem yh {w:World} {g:Nat} {t:TypeId} {v0 v1 v2 v3:Value} (h:w.heap[g]?=some (.cells #[v0,v1,v2,v3] t (0,0))):w.cell? ⟨g,0,none⟩=some v0∧w.cell? ⟨g,1,none⟩=some v1∧w.cell? ⟨g,2,none⟩=some v2∧w.cell? ⟨g,3,none⟩=some v3∧w.frozen? ⟨g,0,none⟩=false∧w.frozen? ⟨g,1,none⟩=false∧w.frozen? ⟨g,2,none⟩=false∧w.frozen? ⟨g,3,none⟩=false:=⟨(aP h 0).trans rfl,(aP h 1).trans rfl,(aP h 2).trans rfl,(aP h 3).trans rfl,bP h 0,bP h 1,bP h 2,bP h 3⟩
theorem kK {w:World} {g:Nat} {t:TypeId} {v0 v1 v2 v3 v4:Value} (h:w.heap[g]?=some (.cells #[v0,v1,v2,v3,v4] t (0,0))):w.cell? ⟨g,0,none⟩=some v0∧w.cell? ⟨g,1,none⟩=some v1∧w.cell? ⟨g,2,none⟩=some v2∧w.cell? ⟨g,3,none⟩=some v3∧w.cell? ⟨g,4,none⟩=some v4∧w.frozen? ⟨g,0,none⟩=false∧w.frozen? ⟨g,1,none⟩=false∧w.frozen? ⟨g,2,none⟩=false∧w.frozen? ⟨g,3,none⟩=false∧w.frozen? ⟨g,4,none⟩=false:=⟨(aP h 0).trans rfl,(aP h 1).trans rfl,(aP h 2).trans rfl,(aP h 3).trans rfl,(aP h 4).trans rfl,bP h 0,bP h 1,bP h 2,bP h 3,bP h 4⟩
theorem jK {w:World} {g:Nat} {t:TypeId} {v0 v1 v2 v3 v4 v5:Value} (h:w.heap[g]?=some (.cells #[v0,v1,v2,v3,v4,v5] t (0,0))):w.cell? ⟨g,0,none⟩=some v0∧w.cell? ⟨g,1,none⟩=some v1∧w.cell? ⟨g,2,none⟩=some v2∧w.cell? ⟨g,3,none⟩=some v3∧w.cell? ⟨g,4,none⟩=some v4∧w.cell? ⟨g,5,none⟩=some v5∧w.frozen? ⟨g,0,none⟩=false∧w.frozen? ⟨g,1,none⟩=false∧w.frozen? ⟨g,2,none⟩=false∧w.frozen? ⟨g,3,none⟩=false∧w.frozen? ⟨g,4,none⟩=false∧w.frozen? ⟨g,5,none⟩=false:=⟨(aP h 0).trans rfl,(aP h 1).trans rfl,(aP h 2).trans rfl,(aP h 3).trans rfl,(aP h 4).trans rfl,(aP h 5).trans rfl,bP h 0,bP h 1,bP h 2,bP h 3,bP h 4,bP h 5⟩
theorem acn {w:World} {g:Nat} {t:TypeId} {cs cs':Array Value} (h:w.heap[g]?=some (.cells cs t (0,0))) (e:cs=cs'):w.heap[g]?=some (.cells cs' t (0,0)):=e ▸ h
theorem yB {q p:Prop} (h:q) (k:q→p:=by (intro dG;apply acn;(repeat (first|(with_reducible first|exact dG|refine mW ?_ _|refine iD ?_|refine kU ?_ _)|apply IV));(try exact dG);exact rfl)):p:=k h
theorem nO {q r p:Prop} (h:q) (n:r) (k:q→r→p:=by (intro dG TB;(repeat (first|(with_reducible first|exact dG|refine mW ?_ _|refine iD ?_|refine kU ?_ _)|refine yT ?_ TB _));(try exact dG))):p:=k h n
theorem ab7 {q p:Prop} (h:q) (k:q→p:=by (intro dG;first|(rw [add_block];exact dG)|(show (Addr.add _ _).block≠_;rw [add_block];exact dG)|exact dG)):p:=k h
theorem oZ {P:Program} {ops:Array Oper} {Q:Exit→Act→World→Prop} {md:Region.Mode} {S:World→Prop} {ds:List Nat} {T:Bool × List (List Nat × List Nat)} (i:Nat) {N:Option Tmp} {oi:Oper} {fuel:Nat} {l:Array Bool} {a:Act} {w:World} (h:∀ K:Act→World→Prop,Shut (∀ a' w',S w'→(S w'→jl P md ops Q S ds fuel (l.setIfInBounds i true) a' w')→K a' w')→if Region.wanted oi (yielded ops a.tmps)=true then Oper.wp P oi a w K Q else K (a.put N undef) w) (HT:aA (kZ md ops=T):=by with_reducible assumption) (hc:(AQ T.2 l.toList == [i] && l.toList.set i true == (l.setIfInBounds i true).toList)=true:=by kernel_rfl) (hi:ops[i]?=some oi:=by rfl) (hN:oi.dst=N:=by rfl) (hd:i ∉ ds:=by decide):jl P md ops Q S ds (fuel+1) l a w:=fD _ hi hN (jq HT.out hc) hd h
theorem xQ {P:Program} {ops:Array Oper} {Q:Exit→Act→World→Prop} {md:Region.Mode} {S:World→Prop} {ds:List Nat} {T:Bool × List (List Nat × List Nat)} (i:Nat) {N:Option Tmp} {oi:Oper} {fuel:Nat} {l:Array Bool} {a:Act} {w:World} (h:∀ K:Act→World→Prop,Shut (∀ a' w',jl P md ops Q S ds fuel (l.setIfInBounds i true) a' w'→K a' w')→if Region.wanted oi (yielded ops a.tmps)=true then Oper.wp P oi a w K Q else K (a.put N undef) w) (HT:aA (kZ md ops=T):=by with_reducible assumption) (hc:(AQ T.2 l.toList == [i] && l.toList.set i true == (l.setIfInBounds i true).toList)=true:=by kernel_rfl) (hi:ops[i]?=some oi:=by rfl) (hN:oi.dst=N:=by rfl) (hd:i ∈ ds:=by decide):jl P md ops Q S ds (fuel+1) l a w:=JO _ hi hN (jq HT.out hc) hd h
theorem dJ {P:Program} {ops:Array Oper} {rest:List Oper} {o:Oper} {a:Act} {Q:Exit→Act→World→Prop} {W:World} (N:Tmp) (h:wpList P ops Q (o :: rest) a W) (_:o.dst=some N:=by rfl):wpList P ops Q (o :: rest) a W:=h
theorem bT {P:Program} {ops:Array Oper} {rest:List Oper} {o:Oper} {a:Act} {Q:Exit→Act→World→Prop} {W:World} (f:FuncId) {zs:Array Operand} {ts:Array TypeId} (h:wpList P ops Q (o :: rest) a W) (_:o.op=.call { callee:=.value (.func f),args:=zs,argTypes:=ts }:=by rfl):wpList P ops Q (o :: rest) a W:=h
theorem dZ {p:Prop} (h:p:=by (repeat (first|(with_reducible first|exact HB.out|apply mY|apply qN|apply lC)|(with_reducible refine iF ?_ (aA.out (by assumption)))|(with_reducible refine iF ?_ (aS.ge (aA.out (by assumption))))|exact HB.out))):p:=h
theorem b_ {p:Prop} (h:p:=by (repeat (first|(with_reducible first|exact aA.out (by assumption)|apply aS.alloc|apply aS.drew|apply aS.drewN|apply aS.NJ|apply aS.NK|refine aS.far ?_ (aA.out (by assumption)) _)))):p:=h
theorem dh {w:World} {g:Nat} {t:TypeId} {v0:Value} (h:w.heap[g]?=some (.cells #[v0] t (0,0))):w.cell? ⟨g,0,none⟩=some v0∧w.frozen? ⟨g,0,none⟩=false:=⟨(aP h 0).trans rfl,bP h 0⟩
end Go.Proofs.YthejdhjpbpamoaaGreatDoor.jD
-- min
-- tiny
