/- What the printed texts of this law say often, told once: arrays of Bools, and lemmas whose argument a tactic fills in. Conditions: none. -/
import Derived.Test.YtleoknilacjakaaGreatDoorProg
import Derived.Below
import Derived.Deep.Draws
import Derived.Deep.AppendLies
import Derived.Maps.AppendAt
import Derived.OwnWalk
import Derived.Laws.BytesArg
import Derived.Laws.MakeOwn
import Derived.Laws.OwnMore
import Derived.Deep.OwnRows
import Derived.Tactics
import Derived.Lib.ConvBytes
import Derived.Laws.Slices
import Derived.WalkKit
import Derived.KernelRfl
import Derived.RowKit3
import Derived.Deep.LoopGhost
import Derived.Deep.QuietTactic
import Derived.BigQuiet
import Derived.WideLaws
import Derived.Deep.DeepCutAuto
import Derived.Deep.CutBlock
import Derived.Deep.RegionHeld3
import Derived.Laws.Rows
import Derived.Lib.AppendStr
import Derived.ArgAppend
import Derived.Laws.IdiomCopy
import Derived.OrdersHeld
import Derived.Laws.BitsLemmas
import Derived.RowKit
import Derived.Lib.SliceRun
import Derived.Test.YtleoknilacjakaaGreatDoorShelf
import Derived.Shelf.SlicesQ.IndexFunc
import Derived.Laws.Cover1
import Derived.Test.YtleoknilacjakaaGreatDoorWWords
import Derived.Test.YtleoknilacjakaaGreatDoorWLast
import Derived.Test.YtleoknilacjakaaGreatDoorWTab
import Derived.Test.YtleoknilacjakaaGreatDoorWFour
import Derived.Test.YtleoknilacjakaaGreatDoorWQPut
import Derived.Test.YtleoknilacjakaaGreatDoorWApart
import Derived.Test.YtleoknilacjakaaGreatDoorWArr
import Derived.Test.YtleoknilacjakaaGreatDoorWZeros
import Derived.Test.YtleoknilacjakaaGreatDoorWFoot
import Derived.Test.YtleoknilacjakaaGreatDoorWKept
import Derived.Test.YtleoknilacjakaaGreatDoorWShare
import Derived.Test.YtleoknilacjakaaGreatDoorWN
import Derived.Test.YtleoknilacjakaaGreatDoorWFootNe
import Derived.Test.YtleoknilacjakaaGreatDoorWAt
import Derived.Test.YtleoknilacjakaaGreatDoorWEqStruct
import Derived.Test.YtleoknilacjakaaGreatDoorWRepsOne
import Derived.Test.YtleoknilacjakaaGreatDoorWInv
import Derived.Test.YtleoknilacjakaaGreatDoorWInvWords
import Derived.Test.YtleoknilacjakaaGreatDoorWGuard
import Derived.Test.YtleoknilacjakaaGreatDoorWNEv
import Derived.Test.YtleoknilacjakaaGreatDoorWMore
namespace Go.Proofs.YtleoknilacjakaaGreatDoor.PFnExactReadPart
open Go.RowKit Go.Proofs.YtleoknilacjakaaGreatDoorW.PrintWords Go.Proofs.YtleoknilacjakaaGreatDoorW.PrintLast Go.Proofs.YtleoknilacjakaaGreatDoorW.PrintMore
set_option linter.unusedVariables false

abbrev T_:Bool:=true
abbrev F_:Bool:=false
theorem kr_ {p:Prop} (h:p:=by kernel_rfl):p:=h
theorem od_ {p:Prop} [Decidable p] (h:decide p=true):p:=of_decide_eq_true h
theorem de_ {p:Prop} [Decidable p] (h:p):decide p=true:=decide_eq_true h
theorem df_ {p:Prop} [Decidable p] (h:¬ p):decide p=false:=decide_eq_false h
theorem oi_ {α:Type} {a b:α} (h:some a=some b):a=b:=Option.some.inj h
theorem qa_ {α:Type} [BEq α] [LawfulBEq α] {a b:α} (h:a=b):(a == b)=true:=beq_iff_eq.mpr h
theorem qb_ {α:Type} [BEq α] [LawfulBEq α] {a b:α} (h:a=b):(a != b)=false:=bne_eq_false_iff_eq.mpr h
theorem qc_ {α:Type} [BEq α] [LawfulBEq α] {a b:α} (h:a≠b):(a == b)=false:=beq_eq_false_iff_ne.mpr h
theorem qd_ {α:Type} [BEq α] [LawfulBEq α] {a b:α} (h:a≠b):(a != b)=true:=bne_iff_ne.mpr h
theorem m_ {p:Prop} (h:p):Aside0 p:=⟨h⟩
abbrev bq_0:Array Bool:=#[T_,T_,T_,T_,T_,T_,T_,T_,T_,T_,T_,F_,F_]
abbrev bq_1:Array Bool:=#[T_,T_,T_,T_,T_,T_,T_,T_,T_,T_,F_,F_]
abbrev bq_2:Array Bool:=#[T_,T_,T_,T_,T_,T_,T_,T_,T_,F_,F_]
abbrev bq_3:Array Bool:=#[F_,F_,F_,F_,F_,F_,F_,F_]
abbrev bq_4:Array Bool:=#[T_,F_,F_,F_,F_,F_,F_,F_]
abbrev bq_5:Array Bool:=#[T_,T_,T_,T_,T_,T_,F_,F_]
abbrev bq_6:Array Bool:=#[T_,T_,T_,T_,T_,T_,T_,F_]
abbrev bq_7:Array Bool:=#[T_,T_,T_,T_,T_,T_,T_,T_]
abbrev bq_8:Array Bool:=#[F_,F_,F_,F_,F_,F_,F_,F_,F_,F_,F_,F_,F_,F_,F_,F_,F_,F_,F_]
abbrev bq_9:Array Bool:=#[T_,T_,F_,F_,F_,F_,F_,F_,F_,F_,F_,F_,F_,F_,F_,F_,F_,F_,F_]
abbrev bq_10:Array Bool:=#[T_,T_,T_,F_,F_,F_,F_,F_,F_,F_,F_,F_,F_,F_,F_,F_,F_,F_,F_]
abbrev bq_11:Array Bool:=#[T_,T_,T_,T_,F_,F_,F_,F_,F_,F_,F_,F_,F_,F_,F_,F_,F_,F_,F_]
abbrev bq_12:Array Bool:=#[T_,T_,T_,T_,T_,F_,F_,F_,F_,F_,F_,F_,F_,F_,F_,F_,F_,F_,F_]
abbrev bq_13:Array Bool:=#[T_,T_,T_,T_,T_,T_,F_,F_,F_,F_,F_,F_,F_,F_,F_,F_,F_,F_,F_]
abbrev bq_14:Array Bool:=#[T_,T_,T_,T_,T_,T_,T_,F_,F_,F_,F_,F_,F_,F_,F_,F_,F_,F_,F_]
abbrev bq_15:Array Bool:=#[T_,T_,T_,T_,T_,T_,T_,T_,F_,F_,F_,F_,F_,F_,F_,F_,F_,F_,F_]
abbrev bq_16:Array Bool:=#[T_,T_,T_,T_,T_,T_,T_,T_,T_,T_,T_,T_,T_,T_,T_,F_,F_,F_,F_]
abbrev bq_17:Array Bool:=#[T_,T_,T_,T_,T_,T_,T_,T_,T_,T_,T_,T_,T_,T_,T_,T_,F_,F_,F_]
abbrev bq_18:Array Bool:=#[T_,T_,T_,T_,T_,T_,T_,T_,T_,T_,T_,T_,T_,T_,T_,T_,T_,F_,F_]
abbrev bq_19:Array Bool:=#[T_,T_,T_,T_,T_,T_,T_,T_,T_,T_,T_,T_,T_,T_,T_,T_,T_,T_,F_]
abbrev bq_20:Array Bool:=#[T_,T_,T_,T_,T_,T_,T_,T_,T_,T_,T_,T_,T_,T_,T_,T_,T_,T_,T_]
abbrev bq_21:Array Bool:=#[T_,T_,T_,T_,T_,T_,F_,F_,F_,F_,T_,F_,F_]
abbrev bq_22:Array Bool:=#[T_,T_,T_,T_,T_,T_,T_,F_,F_,F_,T_,F_,F_]
abbrev bq_23:Array Bool:=#[T_,T_,T_,T_,T_,T_,T_,T_,F_,F_,T_,F_,F_]
abbrev bq_24:Array Bool:=#[T_,T_,T_,T_,T_,T_,T_,T_,T_,F_,T_,F_,F_]
abbrev bq_25:Array Bool:=#[T_,T_,T_,T_,T_,F_,F_,F_,F_,T_,F_,F_]
abbrev bq_26:Array Bool:=#[T_,T_,T_,T_,T_,T_,F_,F_,F_,T_,F_,F_]
abbrev bq_27:Array Bool:=#[T_,T_,T_,T_,T_,T_,T_,F_,F_,T_,F_,F_]
abbrev bq_28:Array Bool:=#[T_,T_,T_,T_,T_,T_,T_,T_,F_,T_,F_,F_]
abbrev bq_29:Array Bool:=#[T_,T_,T_,T_,T_,T_,T_,T_,F_]
abbrev bq_30:Array Bool:=#[F_,F_,F_,F_,F_,F_,F_,F_,F_,F_,F_,F_,F_]
abbrev bq_31:Array Bool:=#[T_,T_,T_,T_,T_,T_,T_,T_,T_,F_,F_,F_,F_]
abbrev bq_32:Array Bool:=#[T_,T_,T_,T_,T_,T_,T_,T_,T_,T_,F_,F_,F_]
abbrev bq_33:Array Bool:=#[T_,T_,T_,T_,T_,T_,T_,T_,T_,T_,T_,T_,F_]
abbrev bq_34:Array Bool:=#[T_,T_,T_,T_,T_,T_,T_,T_,T_,T_,T_,T_,T_]
abbrev bq_35:Array Bool:=#[T_,T_,T_,T_,T_,T_,T_,T_,T_,F_,F_,F_,F_,F_,F_,F_,F_,F_,F_]
abbrev bq_36:Array Bool:=#[T_,T_,T_,T_,T_,T_,T_,T_,T_,T_,F_,F_,F_,F_,F_,F_,F_,F_,F_]
abbrev bq_37:Array Bool:=#[T_,T_,T_,T_,T_,T_,T_,T_,T_,T_,T_,T_,T_,F_,F_,F_,F_,F_,F_]
abbrev bq_38:Array Bool:=#[T_,T_,T_,T_,T_,T_,T_,T_,T_,T_,T_,T_,T_,T_,F_,F_,F_,F_,F_]
abbrev bq_39:Array Bool:=#[F_,F_,F_,F_,F_,F_,F_,F_,F_,F_,F_,F_,F_,F_,F_,F_,F_,F_,F_,F_,F_,F_,F_,F_,F_,F_,F_,F_,F_,F_,F_,F_,F_]
abbrev bq_40:Array Bool:=#[T_,F_,F_,F_,F_,F_,F_,F_,F_,F_,F_,F_,F_,F_,F_,F_,F_,F_,F_,F_,F_,F_,F_,F_,F_,F_,F_,F_,F_,F_,F_,F_,F_]
abbrev bq_41:Array Bool:=#[T_,F_,T_,F_,F_,F_,F_,F_,F_,F_,F_,F_,F_,F_,F_,F_,F_,F_,F_,F_,F_,F_,F_,F_,F_,F_,F_,F_,F_,F_,F_,F_,F_]
abbrev bq_42:Array Bool:=#[T_,T_,T_,F_,F_,F_,F_,F_,F_,F_,F_,F_,F_,F_,F_,F_,F_,F_,F_,F_,F_,F_,F_,F_,F_,F_,F_,F_,F_,F_,F_,F_,F_]
abbrev bq_43:Array Bool:=#[T_,T_,T_,T_,F_,F_,F_,F_,F_,F_,F_,F_,F_,F_,F_,F_,F_,F_,F_,F_,F_,F_,F_,F_,F_,F_,F_,F_,F_,F_,F_,F_,F_]
abbrev bq_44:Array Bool:=#[T_,T_,T_,T_,T_,F_,F_,F_,F_,F_,F_,F_,F_,F_,F_,F_,F_,F_,F_,F_,F_,F_,F_,F_,F_,F_,F_,F_,F_,F_,F_,F_,F_]
abbrev bq_45:Array Bool:=#[T_,T_,T_,T_,T_,T_,F_,F_,F_,F_,F_,F_,F_,F_,F_,F_,F_,F_,F_,F_,F_,F_,F_,F_,F_,F_,F_,F_,F_,F_,F_,F_,F_]
abbrev bq_46:Array Bool:=#[T_,T_,T_,T_,T_,T_,T_,F_,F_,F_,F_,F_,F_,F_,F_,F_,F_,F_,F_,F_,F_,F_,F_,F_,F_,F_,F_,F_,F_,F_,F_,F_,F_]
abbrev bq_47:Array Bool:=#[T_,T_,T_,T_,T_,T_,T_,T_,F_,F_,F_,F_,F_,F_,F_,F_,F_,F_,F_,F_,F_,F_,F_,F_,F_,F_,F_,F_,F_,F_,F_,F_,F_]
abbrev bq_48:Array Bool:=#[T_,T_,T_,T_,T_,T_,T_,T_,T_,F_,F_,F_,F_,F_,F_,F_,F_,F_,F_,F_,F_,F_,F_,F_,F_,F_,F_,F_,F_,F_,F_,F_,F_]
abbrev bq_49:Array Bool:=#[T_,T_,T_,T_,T_,T_,T_,T_,T_,T_,F_,F_,F_,F_,F_,F_,F_,F_,F_,F_,F_,F_,F_,F_,F_,F_,F_,F_,F_,F_,F_,F_,F_]
abbrev bq_50:Array Bool:=#[T_,T_,T_,T_,T_,T_,T_,T_,T_,T_,T_,F_,F_,F_,F_,F_,F_,F_,F_,F_,F_,F_,F_,F_,F_,F_,F_,F_,F_,F_,F_,F_,F_]
abbrev bq_51:Array Bool:=#[T_,T_,T_,T_,T_,T_,T_,T_,T_,T_,T_,T_,F_,F_,F_,F_,F_,F_,F_,F_,F_,F_,F_,F_,F_,F_,F_,F_,F_,F_,F_,F_,F_]
abbrev bq_52:Array Bool:=#[T_,T_,T_,T_,T_,T_,T_,T_,T_,T_,T_,T_,T_,F_,F_,F_,F_,F_,F_,F_,F_,F_,F_,F_,F_,F_,F_,F_,F_,F_,F_,F_,F_]
abbrev bq_53:Array Bool:=#[T_,T_,T_,T_,T_,T_,T_,T_,T_,T_,T_,T_,T_,T_,F_,F_,F_,F_,F_,F_,F_,F_,F_,F_,F_,F_,F_,F_,F_,F_,F_,F_,F_]
abbrev bq_54:Array Bool:=#[T_,T_,T_,T_,T_,T_,T_,T_,T_,T_,T_,T_,T_,T_,T_,F_,F_,F_,F_,F_,F_,F_,F_,F_,F_,F_,F_,F_,F_,F_,F_,F_,F_]
abbrev bq_55:Array Bool:=#[T_,T_,T_,T_,T_,T_,T_,T_,T_,T_,T_,T_,T_,T_,T_,T_,F_,F_,F_,F_,F_,F_,F_,F_,F_,F_,F_,F_,F_,F_,F_,F_,F_]
abbrev bq_56:Array Bool:=#[T_,T_,T_,T_,T_,T_,T_,T_,T_,T_,T_,T_,T_,T_,T_,T_,T_,F_,F_,F_,F_,F_,F_,F_,F_,F_,F_,F_,F_,F_,F_,F_,F_]
abbrev bq_57:Array Bool:=#[T_,T_,T_,T_,T_,T_,T_,T_,T_,T_,T_,T_,T_,T_,T_,T_,T_,T_,F_,F_,F_,F_,F_,F_,F_,F_,F_,F_,F_,F_,F_,F_,F_]
abbrev bq_58:Array Bool:=#[T_,T_,T_,T_,T_,T_,T_,T_,T_,T_,T_,T_,T_,T_,T_,T_,T_,T_,T_,F_,F_,F_,F_,F_,F_,F_,F_,F_,F_,F_,F_,F_,F_]
abbrev bq_59:Array Bool:=#[T_,T_,T_,T_,T_,T_,T_,T_,T_,T_,T_,T_,T_,T_,T_,T_,T_,T_,T_,T_,F_,F_,F_,F_,F_,F_,F_,F_,F_,F_,F_,F_,F_]
abbrev bq_60:Array Bool:=#[T_,T_,T_,T_,T_,T_,T_,T_,T_,T_,T_,T_,T_,T_,T_,T_,T_,T_,T_,T_,T_,F_,F_,F_,F_,F_,F_,F_,F_,F_,F_,F_,F_]
abbrev bq_61:Array Bool:=#[T_,T_,T_,T_,T_,T_,T_,T_,T_,T_,T_,T_,T_,T_,T_,T_,T_,T_,T_,T_,T_,T_,F_,F_,F_,F_,F_,F_,F_,F_,F_,F_,F_]
abbrev bq_62:Array Bool:=#[T_,T_,T_,T_,T_,T_,T_,T_,T_,T_,T_,T_,T_,T_,T_,T_,T_,T_,T_,T_,T_,T_,T_,T_,T_,T_,T_,T_,T_,F_,F_,F_,F_]
abbrev bq_63:Array Bool:=#[T_,T_,T_,T_,T_,T_,T_,T_,T_,T_,T_,T_,T_,T_,T_,T_,T_,T_,T_,T_,T_,T_,T_,T_,T_,T_,T_,T_,T_,T_,F_,F_,F_]
abbrev bq_64:Array Bool:=#[T_,T_,T_,T_,T_,T_,T_,T_,T_,T_,T_,T_,T_,T_,T_,T_,T_,T_,T_,T_,T_,T_,T_,T_,T_,T_,T_,T_,T_,T_,T_,F_,F_]
abbrev bq_65:Array Bool:=#[T_,T_,T_,T_,T_,T_,T_,T_,T_,T_,T_,T_,T_,T_,T_,T_,T_,T_,T_,T_,T_,T_,T_,T_,T_,T_,T_,T_,T_,T_,T_,T_,F_]
abbrev bq_66:Array Bool:=#[T_,T_,T_,T_,T_,T_,T_,T_,T_,T_,T_,T_,T_,T_,T_,T_,T_,T_,T_,T_,T_,T_,T_,T_,T_,T_,T_,T_,T_,T_,T_,T_,T_]
abbrev bq_67:Array Bool:=#[T_,T_,F_,F_,F_,F_,F_,F_]
abbrev bq_68:Array Bool:=#[T_,T_,T_,F_,F_,F_,F_,F_]
abbrev bq_69:Array Bool:=#[T_,T_,T_,T_,F_,F_,F_,F_]
abbrev bq_70:Array Bool:=#[F_,F_,F_,F_,F_,F_,F_,F_,F_,F_,F_]
abbrev bq_71:Array Bool:=#[T_,T_,T_,T_,T_,T_,T_,T_,T_,T_,F_]
abbrev bq_72:Array Bool:=#[T_,T_,T_,T_,T_,T_,T_,T_,T_,T_,T_]
abbrev bq_73:Array Bool:=#[F_,F_,F_,F_,F_,F_,F_,F_,F_,F_,F_,F_,F_,F_,F_,F_,F_,F_,F_,F_,F_,F_,F_,F_,F_]
abbrev bq_74:Array Bool:=#[T_,F_,F_,F_,F_,F_,F_,F_,F_,F_,F_,F_,F_,F_,F_,F_,F_,F_,F_,F_,F_,F_,F_,F_,F_]
abbrev bq_75:Array Bool:=#[T_,T_,F_,F_,F_,F_,F_,F_,F_,F_,F_,F_,F_,F_,F_,F_,F_,F_,F_,F_,F_,F_,F_,F_,F_]
abbrev bq_76:Array Bool:=#[T_,T_,T_,F_,F_,F_,F_,F_,F_,F_,F_,F_,F_,F_,F_,F_,F_,F_,F_,F_,F_,F_,F_,F_,F_]
abbrev bq_77:Array Bool:=#[T_,T_,T_,T_,F_,F_,F_,F_,F_,F_,F_,F_,F_,F_,F_,F_,F_,F_,F_,F_,F_,F_,F_,F_,F_]
abbrev bq_78:Array Bool:=#[T_,T_,T_,T_,T_,F_,F_,F_,F_,F_,F_,F_,F_,F_,F_,F_,F_,F_,F_,F_,F_,F_,F_,F_,F_]
abbrev bq_79:Array Bool:=#[T_,T_,T_,T_,T_,T_,F_,F_,F_,F_,F_,F_,F_,F_,F_,F_,F_,F_,F_,F_,F_,F_,F_,F_,F_]
abbrev bq_80:Array Bool:=#[T_,T_,T_,T_,T_,T_,T_,F_,F_,F_,F_,F_,F_,F_,F_,F_,F_,F_,F_,F_,F_,F_,F_,F_,F_]
abbrev bq_81:Array Bool:=#[T_,T_,T_,T_,T_,T_,T_,T_,F_,F_,F_,F_,F_,F_,F_,F_,F_,F_,F_,F_,F_,F_,F_,F_,F_]
abbrev bq_82:Array Bool:=#[T_,T_,T_,T_,T_,T_,T_,T_,T_,F_,F_,F_,F_,F_,F_,F_,F_,F_,F_,F_,F_,F_,F_,F_,F_]
abbrev bq_83:Array Bool:=#[T_,T_,T_,T_,T_,T_,T_,T_,T_,T_,F_,F_,F_,F_,F_,F_,F_,F_,F_,F_,F_,F_,F_,F_,F_]
abbrev bq_84:Array Bool:=#[T_,T_,T_,T_,T_,T_,T_,T_,T_,T_,T_,F_,F_,F_,F_,F_,F_,F_,F_,F_,F_,F_,F_,F_,F_]
abbrev bq_85:Array Bool:=#[T_,T_,T_,T_,T_,T_,T_,T_,T_,T_,T_,T_,F_,F_,F_,F_,F_,F_,F_,F_,F_,F_,F_,F_,F_]
abbrev bq_86:Array Bool:=#[T_,T_,T_,T_,T_,T_,T_,T_,T_,T_,T_,T_,T_,T_,T_,F_,F_,F_,F_,F_,F_,F_,F_,F_,F_]
abbrev bq_87:Array Bool:=#[T_,T_,T_,T_,T_,T_,T_,T_,T_,T_,T_,T_,T_,T_,T_,T_,F_,F_,F_,F_,F_,F_,F_,F_,F_]
abbrev bq_88:Array Bool:=#[T_,T_,T_,T_,T_,T_,T_,T_,T_,T_,T_,T_,T_,T_,T_,T_,T_,F_,F_,F_,F_,F_,F_,F_,F_]
abbrev bq_89:Array Bool:=#[T_,T_,T_,T_,T_,T_,T_,T_,T_,T_,T_,T_,T_,T_,T_,T_,T_,T_,F_,F_,F_,F_,F_,F_,F_]
abbrev bq_90:Array Bool:=#[T_,T_,T_,T_,T_,T_,T_,T_,T_,T_,T_,T_,T_,T_,T_,T_,T_,T_,T_,F_,F_,F_,F_,F_,F_]
abbrev bq_91:Array Bool:=#[T_,T_,T_,T_,T_,T_,T_,T_,T_,T_,T_,T_,T_,T_,T_,T_,T_,T_,T_,T_,F_,F_,F_,F_,F_]
abbrev bq_92:Array Bool:=#[T_,T_,T_,T_,T_,T_,T_,T_,T_,T_,T_,T_,T_,T_,T_,T_,T_,T_,T_,T_,T_,F_,F_,F_,F_]
abbrev bq_93:Array Bool:=#[T_,T_,T_,T_,T_,T_,T_,T_,T_,T_,T_,T_,T_,T_,T_,T_,T_,T_,T_,T_,T_,T_,F_,F_,F_]
abbrev bq_94:Array Bool:=#[T_,T_,T_,T_,T_,T_,T_,T_,T_,T_,T_,T_,T_,T_,T_,T_,T_,T_,T_,T_,T_,T_,T_,F_,F_]
abbrev bq_95:Array Bool:=#[T_,T_,T_,T_,T_,T_,T_,T_,T_,T_,T_,T_,T_,T_,T_,T_,T_,T_,T_,T_,T_,T_,T_,T_,F_]
abbrev bq_96:Array Bool:=#[T_,T_,T_,T_,T_,T_,T_,T_,T_,T_,T_,T_,T_,T_,T_,T_,T_,T_,T_,T_,T_,T_,T_,T_,T_]
abbrev bq_97:Array Bool:=#[T_,T_,T_,T_,T_,T_,T_,T_,T_,T_,T_,F_,F_,F_,F_,F_,F_,F_,F_]
abbrev bq_98:Array Bool:=#[T_,T_,T_,T_,T_,T_,T_,T_,T_,T_,T_,T_,F_,F_,F_,F_,F_,F_,F_]
abbrev bq_99:Array Bool:=#[F_,F_,T_,F_,F_,F_,F_,F_,F_,F_,F_,F_,F_]
abbrev bq_100:Array Bool:=#[T_,T_,T_,T_,T_,T_,T_,F_,F_,F_,F_,F_,F_]
abbrev bq_101:Array Bool:=#[T_,T_,T_,T_,T_,T_,T_,T_,F_,F_,F_,F_,F_]
abbrev bq_102:Array Bool:=#[T_,T_,T_,T_,T_,F_,F_,F_,F_,F_,T_,F_,F_]
abbrev bq_103:Array Bool:=#[F_,F_,F_,F_,F_,F_,F_,F_,F_,F_,F_,F_,F_,F_,F_,F_,F_,F_,F_,F_,F_,F_,F_,F_,F_,F_,F_,F_,F_,F_,F_]
abbrev bq_104:Array Bool:=#[T_,F_,F_,F_,F_,F_,F_,F_,F_,F_,F_,F_,F_,F_,F_,F_,F_,F_,F_,F_,F_,F_,F_,F_,F_,F_,F_,F_,F_,F_,F_]
abbrev bq_105:Array Bool:=#[T_,F_,T_,F_,F_,F_,F_,F_,F_,F_,F_,F_,F_,F_,F_,F_,F_,F_,F_,F_,F_,F_,F_,F_,F_,F_,F_,F_,F_,F_,F_]
abbrev bq_106:Array Bool:=#[T_,T_,T_,F_,F_,F_,F_,F_,F_,F_,F_,F_,F_,F_,F_,F_,F_,F_,F_,F_,F_,F_,F_,F_,F_,F_,F_,F_,F_,F_,F_]
abbrev bq_107:Array Bool:=#[T_,T_,T_,T_,F_,F_,F_,F_,F_,F_,F_,F_,F_,F_,F_,F_,F_,F_,F_,F_,F_,F_,F_,F_,F_,F_,F_,F_,F_,F_,F_]
abbrev bq_108:Array Bool:=#[T_,T_,T_,T_,T_,F_,F_,F_,F_,F_,F_,F_,F_,F_,F_,F_,F_,F_,F_,F_,F_,F_,F_,F_,F_,F_,F_,F_,F_,F_,F_]
abbrev bq_109:Array Bool:=#[T_,T_,T_,T_,T_,T_,F_,F_,F_,F_,F_,F_,F_,F_,F_,F_,F_,F_,F_,F_,F_,F_,F_,F_,F_,F_,F_,F_,F_,F_,F_]
abbrev bq_110:Array Bool:=#[T_,T_,T_,T_,T_,T_,T_,F_,F_,F_,F_,F_,F_,F_,F_,F_,F_,F_,F_,F_,F_,F_,F_,F_,F_,F_,F_,F_,F_,F_,F_]
abbrev bq_111:Array Bool:=#[T_,T_,T_,T_,T_,T_,T_,T_,F_,F_,F_,F_,F_,F_,F_,F_,F_,F_,F_,F_,F_,F_,F_,F_,F_,F_,F_,F_,F_,F_,F_]
abbrev bq_112:Array Bool:=#[T_,T_,T_,T_,T_,T_,T_,T_,T_,F_,F_,F_,F_,F_,F_,F_,F_,F_,F_,F_,F_,F_,F_,F_,F_,F_,F_,F_,F_,F_,F_]
abbrev bq_113:Array Bool:=#[T_,T_,T_,T_,T_,T_,T_,T_,T_,T_,F_,F_,F_,F_,F_,F_,F_,F_,F_,F_,F_,F_,F_,F_,F_,F_,F_,F_,F_,F_,F_]
abbrev bq_114:Array Bool:=#[T_,T_,T_,T_,T_,T_,T_,T_,T_,T_,T_,F_,F_,F_,F_,F_,F_,F_,F_,F_,F_,F_,F_,F_,F_,F_,F_,F_,F_,F_,F_]
abbrev bq_115:Array Bool:=#[T_,T_,T_,T_,T_,T_,T_,T_,T_,T_,T_,T_,F_,F_,F_,F_,F_,F_,F_,F_,F_,F_,F_,F_,F_,F_,F_,F_,F_,F_,F_]
abbrev bq_116:Array Bool:=#[T_,T_,T_,T_,T_,T_,T_,T_,T_,T_,T_,T_,T_,F_,F_,F_,F_,F_,F_,F_,F_,F_,F_,F_,F_,F_,F_,F_,F_,F_,F_]
abbrev bq_117:Array Bool:=#[T_,T_,T_,T_,T_,T_,T_,T_,T_,T_,T_,T_,T_,T_,F_,F_,F_,F_,F_,F_,F_,F_,F_,F_,F_,F_,F_,F_,F_,F_,F_]
abbrev bq_118:Array Bool:=#[T_,T_,T_,T_,T_,T_,T_,T_,T_,T_,T_,T_,T_,T_,T_,F_,F_,F_,F_,F_,F_,F_,F_,F_,F_,F_,F_,F_,F_,F_,F_]
abbrev bq_119:Array Bool:=#[T_,T_,T_,T_,T_,T_,T_,T_,T_,T_,T_,T_,T_,T_,T_,T_,F_,F_,F_,F_,F_,F_,F_,F_,F_,F_,F_,F_,F_,F_,F_]
abbrev bq_120:Array Bool:=#[T_,T_,T_,T_,T_,T_,T_,T_,T_,T_,T_,T_,T_,T_,T_,T_,T_,F_,F_,F_,F_,F_,F_,F_,F_,F_,F_,F_,F_,F_,F_]
abbrev bq_121:Array Bool:=#[T_,T_,T_,T_,T_,T_,T_,T_,T_,T_,T_,T_,T_,T_,T_,T_,T_,T_,F_,F_,F_,F_,F_,F_,F_,F_,F_,F_,F_,F_,F_]
abbrev bq_122:Array Bool:=#[T_,T_,T_,T_,T_,T_,T_,T_,T_,T_,T_,T_,T_,T_,T_,T_,T_,T_,T_,F_,F_,F_,F_,F_,F_,F_,F_,F_,F_,F_,F_]
abbrev bq_123:Array Bool:=#[T_,T_,T_,T_,T_,T_,T_,T_,T_,T_,T_,T_,T_,T_,T_,T_,T_,T_,T_,T_,F_,F_,F_,F_,F_,F_,F_,F_,F_,F_,F_]
abbrev bq_124:Array Bool:=#[T_,T_,T_,T_,T_,T_,T_,T_,T_,T_,T_,T_,T_,T_,T_,T_,T_,T_,T_,T_,T_,T_,T_,T_,T_,F_,F_,F_,F_,F_,F_]
abbrev bq_125:Array Bool:=#[T_,T_,T_,T_,T_,T_,T_,T_,T_,T_,T_,T_,T_,T_,T_,T_,T_,T_,T_,T_,T_,T_,T_,T_,T_,T_,F_,F_,F_,F_,F_]
abbrev bq_126:Array Bool:=#[T_,T_,T_,T_,T_,T_,T_,T_,T_,T_,T_,T_,T_,T_,T_,T_,T_,T_,T_,T_,T_,T_,T_,T_,T_,T_,T_,F_,F_,F_,F_]
abbrev bq_127:Array Bool:=#[T_,T_,T_,T_,T_,T_,T_,T_,T_,T_,T_,T_,T_,T_,T_,T_,T_,T_,T_,T_,T_,T_,T_,T_,T_,T_,T_,T_,F_,F_,F_]
abbrev bq_128:Array Bool:=#[T_,T_,T_,T_,T_,T_,T_,T_,T_,T_,T_,T_,T_,T_,T_,T_,T_,T_,T_,T_,T_,T_,T_,T_,T_,T_,T_,T_,T_,F_,F_]
abbrev bq_129:Array Bool:=#[T_,T_,T_,T_,T_,T_,T_,T_,T_,T_,T_,T_,T_,T_,T_,T_,T_,T_,T_,T_,T_,T_,T_,T_,T_,T_,T_,T_,T_,T_,F_]
abbrev bq_130:Array Bool:=#[T_,T_,T_,T_,T_,T_,T_,T_,T_,T_,T_,T_,T_,T_,T_,T_,T_,T_,T_,T_,T_,T_,T_,T_,T_,T_,T_,T_,T_,T_,T_]
abbrev bq_131:Array Bool:=#[F_,F_,F_,F_,F_,F_,F_,F_,F_,F_]
abbrev bq_132:Array Bool:=#[T_,F_,F_,F_,F_,F_,F_,F_,F_,F_]
abbrev bq_133:Array Bool:=#[T_,T_,F_,F_,F_,F_,F_,F_,F_,F_]
abbrev bq_134:Array Bool:=#[T_,T_,T_,F_,F_,F_,F_,F_,F_,F_]
abbrev bq_135:Array Bool:=#[T_,T_,T_,F_,T_,F_,F_,F_,F_,F_]
abbrev bq_136:Array Bool:=#[T_,T_,T_,F_,T_,T_,F_,F_,F_,F_]
abbrev bq_137:Array Bool:=#[T_,T_,T_,F_,T_,T_,T_,F_,F_,F_]
abbrev bq_138:Array Bool:=#[T_,T_,T_,T_,T_,T_,T_,F_,F_,F_]
abbrev bq_139:Array Bool:=#[T_,T_,T_,T_,T_,T_,T_,T_,F_,F_]
abbrev bq_140:Array Bool:=#[T_,T_,T_,T_,T_,T_,T_,T_,T_,F_]
abbrev bq_141:Array Bool:=#[T_,T_,T_,T_,T_,T_,T_,T_,T_,T_]
abbrev bq_142:Array Bool:=#[T_,T_,T_,F_,T_,F_,F_,F_,F_,T_,F_,F_]
abbrev bq_143:Array Bool:=#[T_,T_,T_,T_,T_,T_,T_,T_,T_,T_,T_,T_,T_,T_,T_,T_,T_,T_,T_,T_,T_,T_,T_,F_,F_,F_,F_,F_,F_,F_,F_,F_,F_]
abbrev bq_144:Array Bool:=#[T_,T_,T_,T_,T_,T_,T_,T_,T_,T_,T_,T_,T_,T_,T_,T_,T_,T_,T_,T_,T_,T_,T_,T_,F_,F_,F_,F_,F_,F_,F_,F_,F_]
abbrev bq_145:Array Bool:=#[T_,T_,T_,T_,T_,T_,T_,T_,T_,T_,T_,T_,T_,T_,T_,T_,T_,T_,T_,T_,T_,T_,T_,T_,T_,F_,F_,F_,F_,F_,F_,F_,F_]
abbrev bq_146:Array Bool:=#[T_,T_,T_,T_,T_,T_,T_,T_,T_,T_,T_,T_,T_,T_,T_,T_,T_,T_,T_,T_,T_,T_,T_,T_,T_,T_,F_,F_,F_,F_,F_,F_,F_]
abbrev bq_147:Array Bool:=#[T_,T_,T_,T_,T_,T_,T_,T_,T_,T_,T_,T_,T_,T_,T_,T_,T_,T_,T_,T_,T_,T_,T_,T_,T_,T_,T_,F_,F_,F_,F_,F_,F_]
abbrev bq_148:Array Bool:=#[T_,T_,T_,T_,T_,T_,T_,T_,T_,T_,T_,T_,T_,T_,T_,T_,T_,T_,T_,T_,T_,T_,T_,T_,T_,T_,T_,T_,F_,F_,F_,F_,F_]
abbrev bq_149:Array Bool:=#[T_,T_,T_,T_,T_,F_,F_,F_]
abbrev bq_150:Array Bool:=#[T_,F_,F_,T_,F_,F_,F_,F_,F_,F_,F_]
abbrev bq_151:Array Bool:=#[F_,F_,F_,F_,F_,F_,F_,F_,F_]
abbrev bq_152:Array Bool:=#[T_,F_,F_,F_,F_,F_,F_,F_,F_]
abbrev bq_153:Array Bool:=#[T_,F_,F_,T_,F_,F_,F_,F_,F_]
abbrev bq_154:Array Bool:=#[T_,F_,F_,T_,T_,F_,F_,F_,F_]
abbrev bq_155:Array Bool:=#[T_,T_,T_,T_,T_,T_,F_,F_,F_]
abbrev bq_156:Array Bool:=#[T_,T_,T_,T_,T_,T_,T_,F_,F_]
abbrev bq_157:Array Bool:=#[T_,T_,T_,T_,T_,T_,T_,T_,T_]
abbrev bq_158:Array Bool:=#[F_,F_,F_,F_,F_,F_,F_,F_,F_,F_,F_,F_,F_,F_,F_,F_,F_,F_,F_,F_,F_,F_,F_,F_,F_,F_,F_]
abbrev bq_159:Array Bool:=#[T_,F_,F_,F_,F_,F_,F_,F_,F_,F_,F_,F_,F_,F_,F_,F_,F_,F_,F_,F_,F_,F_,F_,F_,F_,F_,F_]
abbrev bq_160:Array Bool:=#[T_,F_,T_,F_,F_,F_,F_,F_,F_,F_,F_,F_,F_,F_,F_,F_,F_,F_,F_,F_,F_,F_,F_,F_,F_,F_,F_]
abbrev bq_161:Array Bool:=#[T_,T_,T_,F_,F_,F_,F_,F_,F_,F_,F_,F_,F_,F_,F_,F_,F_,F_,F_,F_,F_,F_,F_,F_,F_,F_,F_]
abbrev bq_162:Array Bool:=#[T_,T_,T_,T_,F_,F_,F_,F_,F_,F_,F_,F_,F_,F_,F_,F_,F_,F_,F_,F_,F_,F_,F_,F_,F_,F_,F_]
abbrev bq_163:Array Bool:=#[T_,T_,T_,T_,T_,F_,F_,F_,F_,F_,F_,F_,F_,F_,F_,F_,F_,F_,F_,F_,F_,F_,F_,F_,F_,F_,F_]
abbrev bq_164:Array Bool:=#[T_,T_,T_,T_,T_,T_,F_,F_,F_,F_,F_,F_,F_,F_,F_,F_,F_,F_,F_,F_,F_,F_,F_,F_,F_,F_,F_]
abbrev bq_165:Array Bool:=#[T_,T_,T_,T_,T_,T_,T_,F_,F_,F_,F_,F_,F_,F_,F_,F_,F_,F_,F_,F_,F_,F_,F_,F_,F_,F_,F_]
abbrev bq_166:Array Bool:=#[T_,T_,T_,T_,T_,T_,T_,T_,F_,F_,F_,F_,F_,F_,F_,F_,F_,F_,F_,F_,F_,F_,F_,F_,F_,F_,F_]
abbrev bq_167:Array Bool:=#[T_,T_,T_,T_,T_,T_,T_,T_,T_,F_,F_,F_,F_,F_,F_,F_,F_,F_,F_,F_,F_,F_,F_,F_,F_,F_,F_]
abbrev bq_168:Array Bool:=#[T_,T_,T_,T_,T_,T_,T_,T_,T_,T_,F_,F_,F_,F_,F_,F_,F_,F_,F_,F_,F_,F_,F_,F_,F_,F_,F_]
abbrev bq_169:Array Bool:=#[T_,T_,T_,T_,T_,T_,T_,T_,T_,T_,T_,F_,F_,F_,F_,F_,F_,F_,F_,F_,F_,F_,F_,F_,F_,F_,F_]
abbrev bq_170:Array Bool:=#[T_,T_,T_,T_,T_,T_,T_,T_,T_,T_,T_,T_,F_,F_,F_,F_,F_,F_,F_,F_,F_,F_,F_,F_,F_,F_,F_]
abbrev bq_171:Array Bool:=#[T_,T_,T_,T_,T_,T_,T_,T_,T_,T_,T_,T_,T_,T_,T_,T_,T_,T_,T_,T_,T_,F_,F_,F_,F_,F_,F_]
abbrev bq_172:Array Bool:=#[T_,T_,T_,T_,T_,T_,T_,T_,T_,T_,T_,T_,T_,T_,T_,T_,T_,T_,T_,T_,T_,T_,F_,F_,F_,F_,F_]
abbrev bq_173:Array Bool:=#[T_,T_,T_,T_,T_,T_,T_,T_,T_,T_,T_,T_,T_,T_,T_,T_,T_,T_,T_,T_,T_,T_,T_,F_,F_,F_,F_]
abbrev bq_174:Array Bool:=#[T_,T_,T_,T_,T_,T_,T_,T_,T_,T_,T_,T_,T_,T_,T_,T_,T_,T_,T_,T_,T_,T_,T_,T_,F_,F_,F_]
abbrev bq_175:Array Bool:=#[T_,T_,T_,T_,T_,T_,T_,T_,T_,T_,T_,T_,T_,T_,T_,T_,T_,T_,T_,T_,T_,T_,T_,T_,T_,F_,F_]
abbrev bq_176:Array Bool:=#[T_,T_,T_,T_,T_,T_,T_,T_,T_,T_,T_,T_,T_,T_,T_,T_,T_,T_,T_,T_,T_,T_,T_,T_,T_,T_,F_]
abbrev bq_177:Array Bool:=#[T_,T_,T_,T_,T_,T_,T_,T_,T_,T_,T_,T_,T_,T_,T_,T_,T_,T_,T_,T_,T_,T_,T_,T_,T_,T_,T_]
abbrev bq_178:Array Bool:=#[F_,T_,F_,F_,F_,F_,F_,F_,F_,F_,F_,F_,F_,F_,F_,F_,F_,F_,F_]
abbrev bq_179:Array Bool:=#[T_,T_,T_,T_,T_,T_,T_,T_,T_,T_,T_,T_,T_,T_,T_,T_,T_,T_,T_,T_,T_,F_,F_,F_,F_,F_,F_,F_,F_,F_,F_]
abbrev bq_180:Array Bool:=#[T_,T_,T_,T_,T_,T_,T_,T_,T_,T_,T_,T_,T_,T_,T_,T_,T_,T_,T_,T_,T_,T_,F_,F_,F_,F_,F_,F_,F_,F_,F_]
abbrev bq_181:Array Bool:=#[T_,T_,T_,T_,T_,T_,T_,T_,T_,T_,T_,T_,T_,T_,T_,T_,T_,T_,T_,T_,T_,T_,T_,F_,F_,F_,F_,F_,F_,F_,F_]
abbrev bq_182:Array Bool:=#[T_,T_,T_,T_,T_,T_,T_,T_,T_,T_,T_,T_,T_,T_,T_,T_,T_,T_,T_,T_,T_,T_,T_,T_,F_,F_,F_,F_,F_,F_,F_]
abbrev bq_183:Array Bool:=#[F_,F_,F_,F_,F_,F_,F_,F_,F_,F_,F_,F_,F_,F_,F_,F_]
abbrev bq_184:Array Bool:=#[T_,F_,F_,F_,F_,F_,F_,F_,F_,F_,F_,F_,F_,F_,F_,F_]
abbrev bq_185:Array Bool:=#[T_,T_,F_,F_,F_,F_,F_,F_,F_,F_,F_,F_,F_,F_,F_,F_]
abbrev bq_186:Array Bool:=#[T_,T_,T_,F_,F_,F_,F_,F_,F_,F_,F_,F_,F_,F_,F_,F_]
abbrev bq_187:Array Bool:=#[T_,T_,T_,T_,F_,F_,F_,F_,F_,F_,F_,F_,F_,F_,F_,F_]
abbrev bq_188:Array Bool:=#[T_,T_,T_,T_,T_,F_,F_,F_,F_,F_,F_,F_,F_,F_,F_,F_]
abbrev bq_189:Array Bool:=#[T_,T_,T_,T_,T_,T_,F_,F_,F_,F_,F_,F_,F_,F_,F_,F_]
abbrev bq_190:Array Bool:=#[T_,T_,T_,T_,T_,T_,T_,F_,F_,F_,F_,F_,F_,F_,F_,F_]
abbrev bq_191:Array Bool:=#[T_,T_,T_,T_,T_,T_,T_,T_,F_,F_,F_,F_,F_,F_,F_,F_]
abbrev bq_192:Array Bool:=#[T_,T_,T_,T_,T_,T_,T_,T_,T_,F_,F_,F_,F_,F_,F_,F_]
abbrev bq_193:Array Bool:=#[T_,T_,T_,T_,T_,T_,T_,T_,T_,T_,F_,F_,F_,F_,F_,F_]
abbrev bq_194:Array Bool:=#[T_,T_,T_,T_,T_,T_,T_,T_,T_,T_,T_,F_,F_,F_,F_,F_]
abbrev bq_195:Array Bool:=#[T_,T_,T_,T_,T_,T_,T_,T_,T_,T_,T_,T_,F_,F_,F_,F_]
abbrev bq_196:Array Bool:=#[T_,T_,T_,T_,T_,T_,T_,T_,T_,T_,T_,T_,T_,F_,F_,F_]
abbrev bq_197:Array Bool:=#[T_,T_,T_,T_,T_,T_,T_,T_,T_,T_,T_,T_,T_,T_,F_,F_]
abbrev bq_198:Array Bool:=#[T_,T_,T_,T_,T_,T_,T_,T_,T_,T_,T_,T_,T_,T_,T_,F_]
abbrev bq_199:Array Bool:=#[T_,T_,T_,T_,T_,T_,T_,T_,T_,T_,T_,T_,T_,T_,T_,T_]
abbrev bq_200:Array Bool:=#[T_,F_,F_,F_,F_,F_,F_,F_,F_,F_,F_,F_,F_,F_,F_,F_,F_,F_,F_]
abbrev bq_201:Array Bool:=#[F_,F_,F_,F_,F_,F_,F_,F_,F_,F_,F_,F_]
abbrev bq_202:Array Bool:=#[T_,T_,T_,T_,T_,T_,T_,T_,T_,T_,T_,F_]
abbrev bq_203:Array Bool:=#[T_,T_,T_,T_,T_,T_,T_,T_,T_,T_,T_,T_]
abbrev bq_204:Array Bool:=#[T_,T_,T_,T_,F_,T_,F_,F_]
abbrev bq_205:Array Bool:=#[F_,F_,F_,F_,F_,F_,F_,F_,F_,F_,F_,F_,F_,F_]
abbrev bq_206:Array Bool:=#[T_,F_,F_,F_,F_,F_,F_,F_,F_,F_,F_,F_,F_,F_]
abbrev bq_207:Array Bool:=#[T_,T_,F_,F_,F_,F_,F_,F_,F_,F_,F_,F_,F_,F_]
abbrev bq_208:Array Bool:=#[T_,T_,T_,F_,F_,F_,F_,F_,F_,F_,F_,F_,F_,F_]
abbrev bq_209:Array Bool:=#[T_,T_,T_,T_,F_,F_,F_,F_,F_,F_,F_,F_,F_,F_]
abbrev bq_210:Array Bool:=#[T_,T_,T_,T_,T_,F_,F_,F_,F_,F_,F_,F_,F_,F_]
abbrev bq_211:Array Bool:=#[T_,T_,T_,T_,T_,T_,F_,F_,F_,F_,F_,F_,F_,F_]
abbrev bq_212:Array Bool:=#[T_,T_,T_,T_,T_,T_,T_,F_,F_,F_,F_,F_,F_,F_]
abbrev bq_213:Array Bool:=#[T_,T_,T_,T_,T_,T_,T_,T_,F_,F_,F_,F_,F_,F_]
abbrev bq_214:Array Bool:=#[T_,T_,T_,T_,T_,T_,T_,T_,T_,F_,F_,F_,F_,F_]
abbrev bq_215:Array Bool:=#[T_,T_,T_,T_,T_,T_,T_,T_,T_,T_,F_,F_,F_,F_]
abbrev bq_216:Array Bool:=#[T_,T_,T_,T_,T_,T_,T_,T_,T_,T_,T_,F_,F_,F_]
abbrev bq_217:Array Bool:=#[T_,T_,T_,T_,T_,T_,T_,T_,T_,T_,T_,T_,F_,F_]
abbrev bq_218:Array Bool:=#[T_,T_,T_,T_,T_,T_,T_,T_,T_,T_,T_,T_,T_,F_]
abbrev bq_219:Array Bool:=#[T_,T_,T_,T_,T_,T_,T_,T_,T_,T_,T_,T_,T_,T_]
abbrev bq_220:Array Bool:=#[T_,F_,F_,F_,F_,F_,F_,F_,F_,F_,F_]
abbrev bq_221:Array Bool:=#[T_,F_,F_,T_,F_,F_,F_,T_,F_,F_,F_]
abbrev bq_222:Array Bool:=#[T_,T_,F_,T_,F_,F_,F_,T_,F_,F_,F_]
abbrev bq_223:Array Bool:=#[T_,T_,F_,T_,T_,F_,F_,T_,F_,F_,F_]
abbrev bq_224:Array Bool:=#[T_,T_,F_,T_,T_,F_,F_,T_,T_,F_,F_]
abbrev bq_225:Array Bool:=#[T_,T_,T_,T_,T_,F_,F_,T_,T_,F_,F_]
abbrev bq_226:Array Bool:=#[T_,T_,T_,T_,T_,T_,F_,T_,T_,F_,F_]
abbrev bq_227:Array Bool:=#[T_,F_,F_,T_,F_,F_,F_,F_]
abbrev bq_228:Array Bool:=#[T_,T_,F_,T_,F_,F_,F_,F_]
abbrev bq_229:Array Bool:=#[T_,T_,F_,T_,T_,F_,F_,F_]
abbrev bq_230:Array Bool:=#[T_,F_,F_,T_,T_,T_,F_,F_,F_]
abbrev bq_231:Array Bool:=#[T_,T_,F_,T_,T_,T_,F_,F_,F_]
abbrev bq_232:Array Bool:=#[T_,T_,T_,T_,T_,T_,T_,T_,T_,T_,T_,T_,T_,F_,F_,F_,F_,F_,F_,F_,F_,F_,F_,F_,F_,F_,F_]
abbrev bq_233:Array Bool:=#[T_,T_,T_,T_,T_,T_,T_,T_,T_,T_,T_,T_,T_,T_,F_,F_,F_,F_,F_,F_,F_,F_,F_,F_,F_,F_,F_]
abbrev bq_234:Array Bool:=#[T_,T_,T_,T_,T_,T_,T_,T_,T_,T_,T_,T_,T_,T_,T_,F_,F_,F_,F_,F_,F_,F_,F_,F_,F_,F_,F_]
abbrev bq_235:Array Bool:=#[T_,T_,T_,T_,T_,T_,T_,T_,T_,T_,T_,T_,T_,T_,T_,T_,F_,F_,F_,F_,F_,F_,F_,F_,F_,F_,F_]
abbrev bq_236:Array Bool:=#[T_,T_,T_,T_,T_,T_,T_,T_,T_,T_,T_,T_,T_,T_,T_,T_,T_,F_,F_,F_,F_,F_,F_,F_,F_,F_,F_]
abbrev bq_237:Array Bool:=#[T_,T_,T_,T_,T_,T_,T_,T_,T_,T_,T_,T_,T_,T_,T_,T_,T_,T_,F_,F_,F_,F_,F_,F_,F_,F_,F_]
abbrev bq_238:Array Bool:=#[T_,T_,T_,T_,T_,T_,T_,T_,T_,T_,T_,T_,T_,T_,T_,T_,T_,T_,T_,F_,F_,F_,F_,F_,F_,F_,F_]
abbrev bq_239:Array Bool:=#[T_,T_,T_,T_,T_,T_,T_,T_,T_,T_,T_,T_,T_,T_,T_,T_,T_,T_,T_,T_,F_,F_,F_,F_,F_,F_,F_]
abbrev bq_240:Array Bool:=#[T_,T_,T_,T_,T_,T_,T_,T_,T_,T_,T_,T_,T_,F_,F_,F_,F_,F_,F_,F_,F_,F_,F_,F_,F_]
abbrev bq_241:Array Bool:=#[T_,T_,T_,T_,T_,T_,T_,T_,T_,T_,T_,T_,T_,T_,F_,F_,F_,F_,F_,F_,F_,F_,F_,F_,F_]
abbrev bq_242:Array Bool:=#[T_,T_,T_,T_,T_,T_,T_,T_,T_,T_,T_,T_,F_,F_,T_,F_,F_,F_,F_,F_,F_,F_,F_,F_,F_]
abbrev bq_243:Array Bool:=#[T_,T_,T_,T_,T_,T_,T_,T_,T_,T_,T_,T_,T_,F_,T_,F_,F_,F_,F_,F_,F_,F_,F_,F_,F_]
abbrev bq_244:Array Bool:=#[F_,F_,F_,F_,F_,F_,F_,F_,F_,F_,F_,F_,F_,F_,F_,F_,F_]
abbrev bq_245:Array Bool:=#[T_,F_,F_,F_,F_,F_,F_,F_,F_,F_,F_,F_,F_,F_,F_,F_,F_]
abbrev bq_246:Array Bool:=#[T_,F_,F_,T_,F_,F_,F_,F_,F_,F_,F_,F_,F_,F_,F_,F_,F_]
abbrev bq_247:Array Bool:=#[T_,F_,F_,T_,F_,F_,F_,T_,F_,F_,F_,F_,F_,F_,F_,F_,F_]
abbrev bq_248:Array Bool:=#[T_,F_,F_,T_,F_,F_,F_,T_,F_,F_,F_,F_,T_,F_,F_,F_,F_]
abbrev bq_249:Array Bool:=#[T_,T_,F_,T_,F_,F_,F_,T_,F_,F_,F_,F_,T_,F_,F_,F_,F_]
abbrev bq_250:Array Bool:=#[T_,T_,F_,T_,T_,F_,F_,T_,F_,F_,F_,F_,T_,F_,F_,F_,F_]
abbrev bq_251:Array Bool:=#[T_,T_,F_,T_,T_,F_,F_,T_,T_,F_,F_,F_,T_,F_,F_,F_,F_]
abbrev bq_252:Array Bool:=#[T_,T_,F_,T_,T_,F_,F_,T_,T_,F_,F_,F_,T_,T_,F_,F_,F_]
abbrev bq_253:Array Bool:=#[T_,T_,T_,T_,T_,F_,F_,T_,T_,F_,F_,F_,T_,T_,F_,F_,F_]
abbrev bq_254:Array Bool:=#[T_,T_,T_,T_,T_,T_,F_,T_,T_,F_,F_,F_,T_,T_,F_,F_,F_]
abbrev bq_255:Array Bool:=#[T_,T_,T_,T_,T_,T_,T_,T_,T_,F_,F_,F_,T_,T_,F_,F_,F_]
abbrev bq_256:Array Bool:=#[T_,T_,T_,T_,T_,T_,T_,T_,T_,T_,F_,F_,T_,T_,F_,F_,F_]
abbrev bq_257:Array Bool:=#[T_,T_,T_,T_,T_,T_,T_,T_,T_,T_,T_,F_,T_,T_,F_,F_,F_]
abbrev bq_258:Array Bool:=#[T_,T_,T_,T_,T_,T_,T_,T_,T_,T_,T_,T_,T_,T_,F_,F_,F_]
abbrev bq_259:Array Bool:=#[T_,T_,T_,T_,T_,T_,T_,T_,T_,T_,T_,T_,T_,T_,T_,F_,F_]
abbrev bq_260:Array Bool:=#[T_,T_,T_,T_,T_,T_,T_,T_,T_,T_,T_,T_,T_,T_,T_,T_,F_]
abbrev bq_261:Array Bool:=#[T_,T_,T_,T_,T_,T_,T_,T_,T_,T_,T_,T_,T_,T_,T_,T_,T_]
abbrev bq_262:Array Bool:=#[F_,F_,T_,F_,F_,T_,F_,F_,F_,F_,F_,F_,F_]
abbrev bq_263:Array Bool:=#[T_,F_,T_,F_,F_,T_,F_,F_,F_,F_,F_,F_,F_]
abbrev bq_264:Array Bool:=#[T_,T_,T_,F_,F_,T_,F_,F_,F_,F_,F_,F_,F_]
abbrev bq_265:Array Bool:=#[T_,T_,T_,F_,F_,T_,T_,F_,F_,F_,F_,F_,F_]
abbrev bq_266:Array Bool:=#[T_,T_,T_,T_,F_,T_,T_,F_,F_,F_,F_,F_,F_]
abbrev bq_267:Array Bool:=#[F_,F_,T_,T_,F_,F_,F_,F_,F_,F_,F_,F_,F_]
abbrev bq_268:Array Bool:=#[T_,F_,T_,T_,F_,F_,F_,F_,F_,F_,F_,F_,F_]
abbrev bq_269:Array Bool:=#[T_,T_,T_,T_,F_,F_,F_,F_,F_,F_,F_,F_,F_]
abbrev bq_270:Array Bool:=#[T_,T_,T_,T_,T_,F_,F_,F_,F_,F_,F_,F_,F_]
abbrev bq_271:Array Bool:=#[T_,T_,T_,T_,F_,F_,F_,F_,F_,F_,T_,F_,F_]
abbrev bq_272:Array Bool:=#[T_,T_,T_,T_,T_,T_,F_,F_,F_,F_,F_,F_,F_]
abbrev bq_273:Array Bool:=#[T_,T_,T_,T_,F_,F_,F_,F_,F_,F_,F_]
abbrev bq_274:Array Bool:=#[T_,T_,T_,T_,T_,F_,F_,F_,F_,F_,F_]
abbrev bq_275:Array Bool:=#[T_,T_,T_,T_,T_,T_,F_,F_,F_,F_,F_]
abbrev bq_276:Array Bool:=#[T_,T_,T_,T_,T_,T_,T_,F_,F_,F_,F_]
abbrev bq_277:Array Bool:=#[T_,T_,T_,T_,T_,T_,T_,T_,F_,F_,F_]
abbrev bq_278:Array Bool:=#[F_,F_,F_,F_,T_,F_,F_,F_,F_,F_,F_,F_]
abbrev bq_279:Array Bool:=#[T_,F_,F_,F_,T_,F_,F_,F_,F_,F_,F_,F_]
abbrev bq_280:Array Bool:=#[T_,F_,T_,F_,T_,F_,F_,F_,F_,F_,F_,F_]
abbrev bq_281:Array Bool:=#[T_,T_,T_,F_,T_,F_,F_,F_,F_,F_,F_,F_]
abbrev bq_282:Array Bool:=#[T_,F_,T_,F_,T_,F_,F_,F_,F_,T_,F_,F_]
abbrev bq_283:Array Bool:=#[T_,T_,T_,T_,T_,F_,F_,F_,F_,F_,F_,F_]
abbrev bq_284:Array Bool:=#[T_,T_,T_,T_,T_,T_,F_,F_,F_,F_,F_,F_]
abbrev bq_285:Array Bool:=#[T_,T_,T_,T_,T_,T_,T_,F_,F_,F_,F_,F_]
abbrev bq_286:Array Bool:=#[T_,T_,T_,T_,T_,T_,T_,T_,F_,F_,F_,F_]
abbrev bq_287:Array Bool:=#[T_,T_,T_,T_,T_,T_,T_,T_,T_,F_,F_,F_]
abbrev bq_288:Array Bool:=#[T_,T_,T_,T_,F_,F_,F_,F_,T_,F_,F_]
abbrev bq_289:Array Bool:=#[T_,T_,T_,T_,T_,F_,F_,F_,T_,F_,F_]
abbrev bq_290:Array Bool:=#[T_,T_,T_,T_,T_,T_,F_,F_,T_,F_,F_]
abbrev bq_291:Array Bool:=#[T_,T_,T_,T_,T_,T_,T_,F_,T_,F_,F_]
section
variable {P:Program} {ops:Array Oper} {Q:Exit→Act→World→Prop} {md:Region.Mode} {S:World→Prop} {ds:List Nat}
theorem yq_ {i:Nat} {N:Option Tmp} {oi:Oper} {v:Value} {fuel:Nat} {l:Array Bool} {a:Act} {w:World} (l':Array Bool) (hc:anyB md ops l l' i=true) {a':Act}
 (h:wpAnyLast P md ops Q S ds fuel l' a' w) (hi:ops[i]?=some oi:=by rfl) (hN:oi.dst=N:=by rfl) (hQ:∀ c a w,Q (.panic c) (a.put oi.dst v) w→Q (.panic c) a w:=by exact fun _ _ _ h=>h)
 (h1:Region.wanted oi (yielded ops a.tmps)=true:=by rfl) (h2:∀ w',(execOp a.eval oi).run P w'=.ok (.value v) w':=by (intro w';go_simp;with_reducible rfl))
 (ha:a.put N v=a':=by (simp only [Act.put,List.setIfInBounds_toArray,List.set_cons_zero,List.set_cons_succ,i64_w,i32_w];rfl)):wpAnyLast P md ops Q S ds (fuel+1) l a w :=
 pure_ l' hi hN hc hQ (Or.inl ⟨h1,h2⟩) ha h
end

section
variable {P:Program} {ops:Array Oper} {Q:Exit→Act→World→Prop} {md:Region.Mode} {S:World→Prop} {ds:List Nat}
theorem nm_ (N:Option Tmp) {fuel:Nat} {l:Array Bool} {a0 a':Act} {v:Value} {w:World} (h:wpAnyLast P md ops Q S ds fuel l a' w)
 (ha:a0.put N v=a':=by (simp only [Act.put,List.setIfInBounds_toArray,List.set_cons_zero,List.set_cons_succ,i64_w,i32_w];rfl)):wpAnyLast P md ops Q S ds fuel l (a0.put N v) w:=norm_ ha h
end

theorem a_ {p:Prop} (h:p):Aside0 p:=⟨h⟩
theorem p_ {p q:Prop} (h:p) (k:q):Aside0 p∧q:=⟨⟨h⟩,k⟩
theorem q_ {p q:Prop} (h:p) (k:q):p∧q:=⟨h,k⟩
theorem bk2_ {w:World} {g:Nat} {t:TypeId} {v0 v1:Value} (h:w.heap[g]?=some (.cells #[v0,v1] t (0,0))):w.cell? ⟨g,0,none⟩=some v0∧w.cell? ⟨g,1,none⟩=some v1:=⟨(blk_cell h 0).trans rfl,(blk_cell h 1).trans rfl⟩
theorem bc2_ {w:World} {g:Nat} {t:TypeId} {v0 v1:Value} {R:Prop} (h:w.heap[g]?=some (.cells #[v0,v1] t (0,0))) (r:R):w.cell? ⟨g,0,none⟩=some v0∧w.cell? ⟨g,1,none⟩=some v1∧R:=⟨(blk_cell h 0).trans rfl,(blk_cell h 1).trans rfl,r⟩
theorem bk3_ {w:World} {g:Nat} {t:TypeId} {v0 v1 v2:Value} (h:w.heap[g]?=some (.cells #[v0,v1,v2] t (0,0))):w.cell? ⟨g,0,none⟩=some v0∧w.cell? ⟨g,1,none⟩=some v1∧w.cell? ⟨g,2,none⟩=some v2:=⟨(blk_cell h 0).trans rfl,(blk_cell h 1).trans rfl,(blk_cell h 2).trans rfl⟩
theorem bc3_ {w:World} {g:Nat} {t:TypeId} {v0 v1 v2:Value} {R:Prop} (h:w.heap[g]?=some (.cells #[v0,v1,v2] t (0,0))) (r:R):w.cell? ⟨g,0,none⟩=some v0∧w.cell? ⟨g,1,none⟩=some v1∧w.cell? ⟨g,2,none⟩=some v2∧R:=⟨(blk_cell h 0).trans rfl,(blk_cell h 1).trans rfl,(blk_cell h 2).trans rfl,r⟩
theorem bk4_ {w:World} {g:Nat} {t:TypeId} {v0 v1 v2 v3:Value} (h:w.heap[g]?=some (.cells #[v0,v1,v2,v3] t (0,0))):w.cell? ⟨g,0,none⟩=some v0∧w.cell? ⟨g,1,none⟩=some v1∧w.cell? ⟨g,2,none⟩=some v2∧w.cell? ⟨g,3,none⟩=some v3:=⟨(blk_cell h 0).trans rfl,(blk_cell h 1).trans rfl,(blk_cell h 2).trans rfl,(blk_cell h 3).trans rfl⟩
theorem bc4_ {w:World} {g:Nat} {t:TypeId} {v0 v1 v2 v3:Value} {R:Prop} (h:w.heap[g]?=some (.cells #[v0,v1,v2,v3] t (0,0))) (r:R):w.cell? ⟨g,0,none⟩=some v0∧w.cell? ⟨g,1,none⟩=some v1∧w.cell? ⟨g,2,none⟩=some v2∧w.cell? ⟨g,3,none⟩=some v3∧R:=⟨(blk_cell h 0).trans rfl,(blk_cell h 1).trans rfl,(blk_cell h 2).trans rfl,(blk_cell h 3).trans rfl,r⟩
theorem bk6_ {w:World} {g:Nat} {t:TypeId} {v0 v1 v2 v3 v4 v5:Value} (h:w.heap[g]?=some (.cells #[v0,v1,v2,v3,v4,v5] t (0,0))):w.cell? ⟨g,0,none⟩=some v0∧w.cell? ⟨g,1,none⟩=some v1∧w.cell? ⟨g,2,none⟩=some v2∧w.cell? ⟨g,3,none⟩=some v3∧w.cell? ⟨g,4,none⟩=some v4∧w.cell? ⟨g,5,none⟩=some v5:=⟨(blk_cell h 0).trans rfl,(blk_cell h 1).trans rfl,(blk_cell h 2).trans rfl,(blk_cell h 3).trans rfl,(blk_cell h 4).trans rfl,(blk_cell h 5).trans rfl⟩
theorem bc6_ {w:World} {g:Nat} {t:TypeId} {v0 v1 v2 v3 v4 v5:Value} {R:Prop} (h:w.heap[g]?=some (.cells #[v0,v1,v2,v3,v4,v5] t (0,0))) (r:R):w.cell? ⟨g,0,none⟩=some v0∧w.cell? ⟨g,1,none⟩=some v1∧w.cell? ⟨g,2,none⟩=some v2∧w.cell? ⟨g,3,none⟩=some v3∧w.cell? ⟨g,4,none⟩=some v4∧w.cell? ⟨g,5,none⟩=some v5∧R:=⟨(blk_cell h 0).trans rfl,(blk_cell h 1).trans rfl,(blk_cell h 2).trans rfl,(blk_cell h 3).trans rfl,(blk_cell h 4).trans rfl,(blk_cell h 5).trans rfl,r⟩

theorem hx_ {w w':World} {p:Addr} {v:Value} (hB:Below w.heap.size w w') (h:w.cell? p=some v):w'.cell? p=some v:=(hB.cell (World.block_lt_of_cell? w _ h)).trans h
theorem ltne_ {g g':Nat} {W:World} (hg:g'=W.heap.size) (h:g < W.heap.size):g≠g':=by rw [hg];exact Nat.ne_of_lt h
theorem gtne_ {g g':Nat} {W:World} (hg:g'=W.heap.size) (h:g < W.heap.size):g'≠g:=by rw [hg];exact Nat.ne_of_gt h
theorem gb_ {w W:World} {g:Nat} (hg:g=W.heap.size) (h:Below w.heap.size w W):w.heap.size≤g:=by rw [hg];exact below_size h

section
variable {P:Program} {ops:Array Oper} {Q:Exit→Act→World→Prop} {md:Region.Mode} {S:World→Prop} {ds:List Nat} {T:Bool × List (List Nat × List Nat)}
theorem yr_ (i n:Nat) {oi:Oper} {v:Value} {fuel:Nat} {l:Array Bool} {a:Act} {w:World} (l':Array Bool) (HT:Aside0 (rtab md ops=T)) {a':Act}
 (h:wpAnyLast P md ops Q S ds fuel l' a' w) (hc:anyT T l.toList l'.toList i=true:=by kernel_rfl) (hi:ops[i]?=some oi:=by rfl) (hN:oi.dst=some n:=by rfl) (hQ:∀ c a w,Q (.panic c) (a.put oi.dst v) w→Q (.panic c) a w:=by exact fun _ _ _ h=>h)
 (h1:Region.wanted oi (yielded ops a.tmps)=true:=by rfl) (h2:∀ w',(execOp a.eval oi).run P w'=.ok (.value v) w':=by (intro w';go_simp;with_reducible rfl))
 (ha:a.put (some n) v=a':=by (simp only [Act.put,List.setIfInBounds_toArray,List.set_cons_zero,List.set_cons_succ,i64_w,i32_w];rfl)):wpAnyLast P md ops Q S ds (fuel+1) l a w :=
 pure_ l' hi hN (any_of HT.out hc) hQ (Or.inl ⟨h1,h2⟩) ha h
theorem ur_ (i n:Nat) {oi:Oper} {fuel:Nat} {l:Array Bool} {a:Act} {w:World} (l':Array Bool) (HT:Aside0 (rtab md ops=T)) {a':Act}
 (h:wpAnyLast P md ops Q S ds fuel l' a' w) (hc:anyT T l.toList l'.toList i=true:=by kernel_rfl) (hi:ops[i]?=some oi:=by rfl) (hN:oi.dst=some n:=by rfl) (hQ:∀ c a w,Q (.panic c) (a.put oi.dst undef) w→Q (.panic c) a w:=by exact fun _ _ _ h=>h)
 (h1:Region.wanted oi (yielded ops a.tmps)=false:=by rfl)
 (ha:a.put (some n) undef=a':=by (simp only [Act.put,List.setIfInBounds_toArray,List.set_cons_zero,List.set_cons_succ,i64_w,i32_w];rfl)):wpAnyLast P md ops Q S ds (fuel+1) l a w :=
 pure_ (v:=undef) l' hi hN (any_of HT.out hc) hQ (Or.inr ⟨h1,rfl⟩) ha h
end

section
variable {P:Program} {ops:Array Oper} {Q:Exit→Act→World→Prop} {md:Region.Mode} {S:World→Prop} {ds:List Nat} {T:Bool × List (List Nat × List Nat)} {B:List Nat}
theorem tr_ (i n:Nat) {oi:Oper} {v:Value} {fuel:Nat} {l:Array Bool} {a:Act} {w:World} (l':Array Bool) (HT:Aside0 (rtab md ops=T)) (HW:Aside0 (waitsOk T.2 B=true)) (hS:S w) {a':Act}
 (h:wpAnyLast P md ops Q S ds fuel l' a' w) (hc:takeW T B ds l.toList l'.toList i=true:=by kernel_rfl) (hi:ops[i]?=some oi:=by rfl) (hN:oi.dst=some n:=by rfl) (hQ:∀ c a w,Q (.panic c) (a.put oi.dst v) w→Q (.panic c) a w:=by exact fun _ _ _ h=>h)
 (h1:Region.wanted oi (yielded ops a.tmps)=true:=by rfl) (h2:∀ w',S w'→(execOp a.eval oi).run P w'=.ok (.value v) w':=by (intro w' hS_;(repeat (obtain ⟨_,hS_⟩:=hS_));go_simp;with_reducible rfl))
 (ha:a.put (some n) v=a':=by (simp only [Act.put,List.setIfInBounds_toArray,List.set_cons_zero,List.set_cons_succ,i64_w,i32_w];rfl)):wpAnyLast P md ops Q S ds (fuel+1) l a w :=
 take_ l' hi hN (take_ofW HT.out HW.out hc) hQ (Or.inl ⟨h1,h2⟩) hS ha h
end
theorem an2_ {p0 p1:Prop} (h0:Aside0 p0) (h1:Aside0 p1):p0∧p1:=⟨h0.out,h1.out⟩
theorem an4_ {p0 p1 p2 p3:Prop} (h0:Aside0 p0) (h1:Aside0 p1) (h2:Aside0 p2) (h3:Aside0 p3):p0∧p1∧p2∧p3:=⟨h0.out,h1.out,h2.out,h3.out⟩
theorem an6_ {p0 p1 p2 p3 p4 p5:Prop} (h0:Aside0 p0) (h1:Aside0 p1) (h2:Aside0 p2) (h3:Aside0 p3) (h4:Aside0 p4) (h5:Aside0 p5):p0∧p1∧p2∧p3∧p4∧p5:=⟨h0.out,h1.out,h2.out,h3.out,h4.out,h5.out⟩
theorem an8_ {p0 p1 p2 p3 p4 p5 p6 p7:Prop} (h0:Aside0 p0) (h1:Aside0 p1) (h2:Aside0 p2) (h3:Aside0 p3) (h4:Aside0 p4) (h5:Aside0 p5) (h6:Aside0 p6) (h7:Aside0 p7):p0∧p1∧p2∧p3∧p4∧p5∧p6∧p7:=⟨h0.out,h1.out,h2.out,h3.out,h4.out,h5.out,h6.out,h7.out⟩
theorem cf_ {W:World} {p a:Addr} {u:Value} {v:Option Value} (n:Aside0 (a.block≠p.block)) (h:W.cell? a=v):(W.setCell p u).cell? a=v:=(cell_far n.out u).trans h
theorem rR_ {α:Type} {d:Kd α} {e:TypeId} {w:World} {base:Nat} {ok:Nat→Prop} {v:Value} {xs:List α} (h:Kd.R d e w base ok v xs) {p:Addr} {u:Value} (hok:∀ k,ok k→k≠p.block:=by exact fun _ hk=>hk.2):Kd.R d e (w.setCell p u) base ok v xs:=Kd.R_far h hok u
theorem raR_ {p q:Prop} (H:Aside0 q) (h:q→p:=by (intro h_;(with_reducible repeat (first|apply Kd.R_alloc|apply Kd.R_drewN|apply Kd.R_drew));exact h_)):p:=h H.out
theorem rS_ {α:Type} {d:Kd α} {e:TypeId} {w:World} {base:Nat} {ok:Nat→Prop} {v:Value} {xs:List α} (h:Kd.S d e w base ok v xs) {p:Addr} {u:Value} (hok:∀ k,ok k→k≠p.block:=by exact fun _ hk=>hk.2):Kd.S d e (w.setCell p u) base ok v xs:=Kd.S_far h hok u
theorem raS_ {p q:Prop} (H:Aside0 q) (h:q→p:=by (intro h_;(with_reducible repeat (first|apply Kd.S_alloc|apply Kd.S_drewN|apply Kd.S_drew));exact h_)):p:=h H.out
theorem th_ {p:Prop} (h:p:=by (repeat (first|(with_reducible first|exact HB.out|apply below_alloc|apply pw_below_drewN|apply below_drew1)|(with_reducible refine below_set ?_ (Aside0.out (by assumption)))|exact HB.out))):p:=h
theorem kb_ {p q:Prop} (H:Aside0 q) (h:q→p:=by (intro h_;(with_reducible repeat (first|refine blk_drewN ?_ _|refine blk_drew ?_|refine blk_alloc ?_ _));exact h_)):p:=h H.out
theorem tb_ {p:Prop} (h:p:=by (repeat' (first|(with_reducible first|refine blk_drewN ?_ _|refine blk_drew ?_|refine blk_alloc ?_ _)|(with_reducible exact Aside0.out (by assumption))|(refine blk_far ?_ (Aside0.out (by with_reducible assumption)) _)|(refine blk_put (cs:=?_) ?_ _ _ ?_)|rfl))):p:=h
theorem be_ {P:Program} {ops:Array Oper} {Q:Exit→Act→World→Prop} {rest:List Oper} {o:Oper} {a:Act} {W:World} (N:Tmp) {cs:Array Value} (t:TypeId)
 (h:∀ g,g=W.heap.size→∀ w1,w1.heap[g]?=some (.cells cs t (0,0))→Below W.heap.size W w1→wpList P ops Q rest (a.put o.dst (.pointer (some ⟨g,0,none⟩))) w1) (hgd:o.guard=none:=by rfl) (hd:o.dst=some N:=by rfl)
 (hrun:(execOp a.eval o).run P W=.ok (.value (.pointer (some ⟨W.heap.size,0,none⟩))) (W.alloc (.cells cs t (0,0))):=by first|(go_simp;done)|(go_simp;rfl)):wpList P ops Q (o :: rest) a W:=box_event hgd hd hrun h
theorem bw1_ {w W W':World} {g0:Nat} {o0:Obj} (h0:W.heap[g0]?=some o0) (hB:Below w.heap.size w W) (hb:Below W.heap.size W W'):Aside0 (W'.heap[g0]?=some o0)∧Aside0 (Below w.heap.size w W'):=⟨⟨blk_below h0 hb⟩,⟨below_step hB hb⟩⟩
theorem bw2_ {w W W':World} {g0 g1:Nat} {o0 o1:Obj} (h0:W.heap[g0]?=some o0) (h1:W.heap[g1]?=some o1) (hB:Below w.heap.size w W) (hb:Below W.heap.size W W'):Aside0 (W'.heap[g0]?=some o0)∧Aside0 (W'.heap[g1]?=some o1)∧Aside0 (Below w.heap.size w W'):=⟨⟨blk_below h0 hb⟩,⟨blk_below h1 hb⟩,⟨below_step hB hb⟩⟩
theorem bw3_ {w W W':World} {g0 g1 g2:Nat} {o0 o1 o2:Obj} (h0:W.heap[g0]?=some o0) (h1:W.heap[g1]?=some o1) (h2:W.heap[g2]?=some o2) (hB:Below w.heap.size w W) (hb:Below W.heap.size W W'):Aside0 (W'.heap[g0]?=some o0)∧Aside0 (W'.heap[g1]?=some o1)∧Aside0 (W'.heap[g2]?=some o2)∧Aside0 (Below w.heap.size w W'):=⟨⟨blk_below h0 hb⟩,⟨blk_below h1 hb⟩,⟨blk_below h2 hb⟩,⟨below_step hB hb⟩⟩
theorem bw4_ {w W W':World} {g0 g1 g2 g3:Nat} {o0 o1 o2 o3:Obj} (h0:W.heap[g0]?=some o0) (h1:W.heap[g1]?=some o1) (h2:W.heap[g2]?=some o2) (h3:W.heap[g3]?=some o3) (hB:Below w.heap.size w W) (hb:Below W.heap.size W W'):Aside0 (W'.heap[g0]?=some o0)∧Aside0 (W'.heap[g1]?=some o1)∧Aside0 (W'.heap[g2]?=some o2)∧Aside0 (W'.heap[g3]?=some o3)∧Aside0 (Below w.heap.size w W'):=⟨⟨blk_below h0 hb⟩,⟨blk_below h1 hb⟩,⟨blk_below h2 hb⟩,⟨blk_below h3 hb⟩,⟨below_step hB hb⟩⟩
theorem bw5_ {w W W':World} {g0 g1 g2 g3 g4:Nat} {o0 o1 o2 o3 o4:Obj} (h0:W.heap[g0]?=some o0) (h1:W.heap[g1]?=some o1) (h2:W.heap[g2]?=some o2) (h3:W.heap[g3]?=some o3) (h4:W.heap[g4]?=some o4) (hB:Below w.heap.size w W) (hb:Below W.heap.size W W'):Aside0 (W'.heap[g0]?=some o0)∧Aside0 (W'.heap[g1]?=some o1)∧Aside0 (W'.heap[g2]?=some o2)∧Aside0 (W'.heap[g3]?=some o3)∧Aside0 (W'.heap[g4]?=some o4)∧Aside0 (Below w.heap.size w W'):=⟨⟨blk_below h0 hb⟩,⟨blk_below h1 hb⟩,⟨blk_below h2 hb⟩,⟨blk_below h3 hb⟩,⟨blk_below h4 hb⟩,⟨below_step hB hb⟩⟩
theorem bw6_ {w W W':World} {g0 g1 g2 g3 g4 g5:Nat} {o0 o1 o2 o3 o4 o5:Obj} (h0:W.heap[g0]?=some o0) (h1:W.heap[g1]?=some o1) (h2:W.heap[g2]?=some o2) (h3:W.heap[g3]?=some o3) (h4:W.heap[g4]?=some o4) (h5:W.heap[g5]?=some o5) (hB:Below w.heap.size w W) (hb:Below W.heap.size W W'):Aside0 (W'.heap[g0]?=some o0)∧Aside0 (W'.heap[g1]?=some o1)∧Aside0 (W'.heap[g2]?=some o2)∧Aside0 (W'.heap[g3]?=some o3)∧Aside0 (W'.heap[g4]?=some o4)∧Aside0 (W'.heap[g5]?=some o5)∧Aside0 (Below w.heap.size w W'):=⟨⟨blk_below h0 hb⟩,⟨blk_below h1 hb⟩,⟨blk_below h2 hb⟩,⟨blk_below h3 hb⟩,⟨blk_below h4 hb⟩,⟨blk_below h5 hb⟩,⟨below_step hB hb⟩⟩
theorem bx0_ {w W W':World} {g':Nat} {o':Obj}  (hB:Below w.heap.size w W) (hb:Below W.heap.size W W') (hbox:W'.heap[g']?=some o') (hg:g'=W.heap.size):Aside0 (Below w.heap.size w W')∧Aside0 (W'.heap[g']?=some o')∧Aside0 (w.heap.size≤g')∧Aside0 (w.heap.size≤g'):=⟨⟨below_step hB hb⟩,⟨hbox⟩,⟨gb_ hg hB⟩,⟨gb_ hg hB⟩⟩
theorem bx1_ {w W W':World} {g':Nat} {o':Obj} {g0:Nat} {o0:Obj} (h0:W.heap[g0]?=some o0) (hB:Below w.heap.size w W) (hb:Below W.heap.size W W') (hbox:W'.heap[g']?=some o') (hg:g'=W.heap.size):Aside0 (W'.heap[g0]?=some o0)∧Aside0 (Below w.heap.size w W')∧Aside0 (W'.heap[g']?=some o')∧Aside0 (w.heap.size≤g')∧Aside0 (w.heap.size≤g')∧Aside0 (g0≠g')∧Aside0 (g'≠g0):=⟨⟨blk_below h0 hb⟩,⟨below_step hB hb⟩,⟨hbox⟩,⟨gb_ hg hB⟩,⟨gb_ hg hB⟩,⟨ltne_ hg (blk_lt h0)⟩,⟨gtne_ hg (blk_lt h0)⟩⟩
theorem bx2_ {w W W':World} {g':Nat} {o':Obj} {g0 g1:Nat} {o0 o1:Obj} (h0:W.heap[g0]?=some o0) (h1:W.heap[g1]?=some o1) (hB:Below w.heap.size w W) (hb:Below W.heap.size W W') (hbox:W'.heap[g']?=some o') (hg:g'=W.heap.size):Aside0 (W'.heap[g0]?=some o0)∧Aside0 (W'.heap[g1]?=some o1)∧Aside0 (Below w.heap.size w W')∧Aside0 (W'.heap[g']?=some o')∧Aside0 (w.heap.size≤g')∧Aside0 (w.heap.size≤g')∧Aside0 (g0≠g')∧Aside0 (g'≠g0)∧Aside0 (g1≠g')∧Aside0 (g'≠g1):=⟨⟨blk_below h0 hb⟩,⟨blk_below h1 hb⟩,⟨below_step hB hb⟩,⟨hbox⟩,⟨gb_ hg hB⟩,⟨gb_ hg hB⟩,⟨ltne_ hg (blk_lt h0)⟩,⟨gtne_ hg (blk_lt h0)⟩,⟨ltne_ hg (blk_lt h1)⟩,⟨gtne_ hg (blk_lt h1)⟩⟩
theorem bx3_ {w W W':World} {g':Nat} {o':Obj} {g0 g1 g2:Nat} {o0 o1 o2:Obj} (h0:W.heap[g0]?=some o0) (h1:W.heap[g1]?=some o1) (h2:W.heap[g2]?=some o2) (hB:Below w.heap.size w W) (hb:Below W.heap.size W W') (hbox:W'.heap[g']?=some o') (hg:g'=W.heap.size):Aside0 (W'.heap[g0]?=some o0)∧Aside0 (W'.heap[g1]?=some o1)∧Aside0 (W'.heap[g2]?=some o2)∧Aside0 (Below w.heap.size w W')∧Aside0 (W'.heap[g']?=some o')∧Aside0 (w.heap.size≤g')∧Aside0 (w.heap.size≤g')∧Aside0 (g0≠g')∧Aside0 (g'≠g0)∧Aside0 (g1≠g')∧Aside0 (g'≠g1)∧Aside0 (g2≠g')∧Aside0 (g'≠g2):=⟨⟨blk_below h0 hb⟩,⟨blk_below h1 hb⟩,⟨blk_below h2 hb⟩,⟨below_step hB hb⟩,⟨hbox⟩,⟨gb_ hg hB⟩,⟨gb_ hg hB⟩,⟨ltne_ hg (blk_lt h0)⟩,⟨gtne_ hg (blk_lt h0)⟩,⟨ltne_ hg (blk_lt h1)⟩,⟨gtne_ hg (blk_lt h1)⟩,⟨ltne_ hg (blk_lt h2)⟩,⟨gtne_ hg (blk_lt h2)⟩⟩
theorem bx4_ {w W W':World} {g':Nat} {o':Obj} {g0 g1 g2 g3:Nat} {o0 o1 o2 o3:Obj} (h0:W.heap[g0]?=some o0) (h1:W.heap[g1]?=some o1) (h2:W.heap[g2]?=some o2) (h3:W.heap[g3]?=some o3) (hB:Below w.heap.size w W) (hb:Below W.heap.size W W') (hbox:W'.heap[g']?=some o') (hg:g'=W.heap.size):Aside0 (W'.heap[g0]?=some o0)∧Aside0 (W'.heap[g1]?=some o1)∧Aside0 (W'.heap[g2]?=some o2)∧Aside0 (W'.heap[g3]?=some o3)∧Aside0 (Below w.heap.size w W')∧Aside0 (W'.heap[g']?=some o')∧Aside0 (w.heap.size≤g')∧Aside0 (w.heap.size≤g')∧Aside0 (g0≠g')∧Aside0 (g'≠g0)∧Aside0 (g1≠g')∧Aside0 (g'≠g1)∧Aside0 (g2≠g')∧Aside0 (g'≠g2)∧Aside0 (g3≠g')∧Aside0 (g'≠g3):=⟨⟨blk_below h0 hb⟩,⟨blk_below h1 hb⟩,⟨blk_below h2 hb⟩,⟨blk_below h3 hb⟩,⟨below_step hB hb⟩,⟨hbox⟩,⟨gb_ hg hB⟩,⟨gb_ hg hB⟩,⟨ltne_ hg (blk_lt h0)⟩,⟨gtne_ hg (blk_lt h0)⟩,⟨ltne_ hg (blk_lt h1)⟩,⟨gtne_ hg (blk_lt h1)⟩,⟨ltne_ hg (blk_lt h2)⟩,⟨gtne_ hg (blk_lt h2)⟩,⟨ltne_ hg (blk_lt h3)⟩,⟨gtne_ hg (blk_lt h3)⟩⟩
theorem bx5_ {w W W':World} {g':Nat} {o':Obj} {g0 g1 g2 g3 g4:Nat} {o0 o1 o2 o3 o4:Obj} (h0:W.heap[g0]?=some o0) (h1:W.heap[g1]?=some o1) (h2:W.heap[g2]?=some o2) (h3:W.heap[g3]?=some o3) (h4:W.heap[g4]?=some o4) (hB:Below w.heap.size w W) (hb:Below W.heap.size W W') (hbox:W'.heap[g']?=some o') (hg:g'=W.heap.size):Aside0 (W'.heap[g0]?=some o0)∧Aside0 (W'.heap[g1]?=some o1)∧Aside0 (W'.heap[g2]?=some o2)∧Aside0 (W'.heap[g3]?=some o3)∧Aside0 (W'.heap[g4]?=some o4)∧Aside0 (Below w.heap.size w W')∧Aside0 (W'.heap[g']?=some o')∧Aside0 (w.heap.size≤g')∧Aside0 (w.heap.size≤g')∧Aside0 (g0≠g')∧Aside0 (g'≠g0)∧Aside0 (g1≠g')∧Aside0 (g'≠g1)∧Aside0 (g2≠g')∧Aside0 (g'≠g2)∧Aside0 (g3≠g')∧Aside0 (g'≠g3)∧Aside0 (g4≠g')∧Aside0 (g'≠g4):=⟨⟨blk_below h0 hb⟩,⟨blk_below h1 hb⟩,⟨blk_below h2 hb⟩,⟨blk_below h3 hb⟩,⟨blk_below h4 hb⟩,⟨below_step hB hb⟩,⟨hbox⟩,⟨gb_ hg hB⟩,⟨gb_ hg hB⟩,⟨ltne_ hg (blk_lt h0)⟩,⟨gtne_ hg (blk_lt h0)⟩,⟨ltne_ hg (blk_lt h1)⟩,⟨gtne_ hg (blk_lt h1)⟩,⟨ltne_ hg (blk_lt h2)⟩,⟨gtne_ hg (blk_lt h2)⟩,⟨ltne_ hg (blk_lt h3)⟩,⟨gtne_ hg (blk_lt h3)⟩,⟨ltne_ hg (blk_lt h4)⟩,⟨gtne_ hg (blk_lt h4)⟩⟩
theorem dw1_ {b:Nat} {w W:World} {g0:Nat} {o0:Obj} (h0:Aside0 (W.heap[g0]?=some o0)) (hB:Aside0 (Below b w W)):Aside0 (W.drew.heap[g0]?=some o0)∧Aside0 (Below b w W.drew):=⟨⟨blk_drew h0.out⟩,⟨below_drew1 hB.out⟩⟩
theorem dw2_ {b:Nat} {w W:World} {g0 g1:Nat} {o0 o1:Obj} (h0:Aside0 (W.heap[g0]?=some o0)) (h1:Aside0 (W.heap[g1]?=some o1)) (hB:Aside0 (Below b w W)):Aside0 (W.drew.heap[g0]?=some o0)∧Aside0 (W.drew.heap[g1]?=some o1)∧Aside0 (Below b w W.drew):=⟨⟨blk_drew h0.out⟩,⟨blk_drew h1.out⟩,⟨below_drew1 hB.out⟩⟩
theorem dw3_ {b:Nat} {w W:World} {g0 g1 g2:Nat} {o0 o1 o2:Obj} (h0:Aside0 (W.heap[g0]?=some o0)) (h1:Aside0 (W.heap[g1]?=some o1)) (h2:Aside0 (W.heap[g2]?=some o2)) (hB:Aside0 (Below b w W)):Aside0 (W.drew.heap[g0]?=some o0)∧Aside0 (W.drew.heap[g1]?=some o1)∧Aside0 (W.drew.heap[g2]?=some o2)∧Aside0 (Below b w W.drew):=⟨⟨blk_drew h0.out⟩,⟨blk_drew h1.out⟩,⟨blk_drew h2.out⟩,⟨below_drew1 hB.out⟩⟩
theorem dw4_ {b:Nat} {w W:World} {g0 g1 g2 g3:Nat} {o0 o1 o2 o3:Obj} (h0:Aside0 (W.heap[g0]?=some o0)) (h1:Aside0 (W.heap[g1]?=some o1)) (h2:Aside0 (W.heap[g2]?=some o2)) (h3:Aside0 (W.heap[g3]?=some o3)) (hB:Aside0 (Below b w W)):Aside0 (W.drew.heap[g0]?=some o0)∧Aside0 (W.drew.heap[g1]?=some o1)∧Aside0 (W.drew.heap[g2]?=some o2)∧Aside0 (W.drew.heap[g3]?=some o3)∧Aside0 (Below b w W.drew):=⟨⟨blk_drew h0.out⟩,⟨blk_drew h1.out⟩,⟨blk_drew h2.out⟩,⟨blk_drew h3.out⟩,⟨below_drew1 hB.out⟩⟩
theorem dw5_ {b:Nat} {w W:World} {g0 g1 g2 g3 g4:Nat} {o0 o1 o2 o3 o4:Obj} (h0:Aside0 (W.heap[g0]?=some o0)) (h1:Aside0 (W.heap[g1]?=some o1)) (h2:Aside0 (W.heap[g2]?=some o2)) (h3:Aside0 (W.heap[g3]?=some o3)) (h4:Aside0 (W.heap[g4]?=some o4)) (hB:Aside0 (Below b w W)):Aside0 (W.drew.heap[g0]?=some o0)∧Aside0 (W.drew.heap[g1]?=some o1)∧Aside0 (W.drew.heap[g2]?=some o2)∧Aside0 (W.drew.heap[g3]?=some o3)∧Aside0 (W.drew.heap[g4]?=some o4)∧Aside0 (Below b w W.drew):=⟨⟨blk_drew h0.out⟩,⟨blk_drew h1.out⟩,⟨blk_drew h2.out⟩,⟨blk_drew h3.out⟩,⟨blk_drew h4.out⟩,⟨below_drew1 hB.out⟩⟩
section
variable {p:Prop}
theorem tq_0 (h:p:=by ((try simp only [List.map_toArray,List.map_cons,List.map_nil]);first|done|rfl|(simp only [List.length_drop,List.length_take];rfl))):p:=h
theorem tq_1 (h:p:=by (first|rfl|(simp [errW_none,errW_some] <;> rfl)|(simp [*,errW_none,errW_some] <;> rfl))):p:=h
theorem tq_2 (h:p:=by (first|(with_reducible assumption)|assumption)):p:=h
theorem tq_3 (h:p:=by (first|rfl|(simp;done)|(simp [*];done))):p:=h
theorem tq_4 (h:p:=by (repeat (first|exact (Kd.C_below HR0_1.out HB.out)|(with_reducible refine Kd.C_alloc ?_ _)|(with_reducible refine Kd.C_drewN ?_ _)|(with_reducible refine Kd.C_drew ?_)))):p:=h
theorem tq_5 (h:p:=by (first|exact Kd.R_nil _ _ _ _ _|exact Kd.N_nil _ _ _ _ _|exact Kd.V_nil _ _ _ _ _|exact Kd.Q_nil _ _ _ _ _|exact Kd.S_nil _ _ _ _ _)):p:=h
theorem tq_6 (h:p:=by (repeat (first|(with_reducible first|exact HK.out|apply Kept.alloc|apply Kept.drewN|apply Kept.drew)|exact HK.out))):p:=h
theorem tq_7 (h:p:=by ((with_reducible repeat (first|refine blk_drewN ?_ _|refine blk_drew ?_|refine blk_alloc ?_ _));refine blk_put (cs:=#[.int .i64 ((rd_T86 l0_4 x8_1).f0),.int .i64 ((rd_T86 l0_4 x8_1).f1),.string (⟨#[]⟩:ByteArray)]) ?_ 2 _ rfl;(with_reducible repeat (first|refine blk_drewN ?_ _|refine blk_drew ?_|refine blk_alloc ?_ _));refine blk_put (cs:=#[.int .i64 ((rd_T86 l0_4 x8_1).f0),.int .i64 0,.string (⟨#[]⟩:ByteArray)]) ?_ 1 _ rfl;(with_reducible repeat (first|refine blk_drewN ?_ _|refine blk_drew ?_|refine blk_alloc ?_ _));refine blk_put (cs:=#[.int .i64 0,.int .i64 0,.string (⟨#[]⟩:ByteArray)]) ?_ 0 _ rfl;(with_reducible repeat (first|refine blk_drewN ?_ _|refine blk_drew ?_|refine blk_alloc ?_ _));exact BK525.out)):p:=h
theorem tq_8 (h:p:=by (repeat (first|exact Drawn0.refl _|apply Drawn0.step))):p:=h
theorem tq_9 (h:p:=by ((with_reducible repeat (first|refine blk_drewN ?_ _|refine blk_drew ?_|refine blk_alloc ?_ _));refine blk_far ?_ NB521_525.out _;(with_reducible repeat (first|refine blk_drewN ?_ _|refine blk_drew ?_|refine blk_alloc ?_ _));refine blk_far ?_ NB521_525.out _;(with_reducible repeat (first|refine blk_drewN ?_ _|refine blk_drew ?_|refine blk_alloc ?_ _));refine blk_far ?_ NB521_525.out _;(with_reducible repeat (first|refine blk_drewN ?_ _|refine blk_drew ?_|refine blk_alloc ?_ _));exact BK521.out)):p:=h
theorem tq_10 (h:p:=by simp only [putAll,Act.put,List.setIfInBounds_toArray,List.set_cons_zero,List.set_cons_succ]):p:=h
theorem tq_11 (h:p:=by (repeat (first|exact (Kd.C_below HR0.out HB.out)|(with_reducible refine Kd.C_alloc ?_ _)|(with_reducible refine Kd.C_drewN ?_ _)|(with_reducible refine Kd.C_drew ?_)))):p:=h
theorem tq_12 (h:p:=by (first|omega|exact Nat.le_refl _)):p:=h
theorem tq_13 (h:p:=by (first|exact Kd.S_nil _ _ _ _ _|exact Kd.N_nil _ _ _ _ _|exact Kd.V_nil _ _ _ _ _|exact Kd.Q_nil _ _ _ _ _|exact Kd.R_nil _ _ _ _ _)):p:=h
theorem tq_14 (h:p:=by (have:=HK1.out;omega)):p:=h
theorem tq_15 (h:p:=by (repeat (first|exact (Kd.R_reads' HO_7.out).2.2|(with_reducible refine Kd.C_alloc ?_ _)|(with_reducible refine Kd.C_drewN ?_ _)|(with_reducible refine Kd.C_drew ?_)))):p:=h
theorem tq_16 (h:p:=by (have:=World.block_lt_of_cell? _ _ hx578_0;first|rwa [add_block] at this|exact this)):p:=h
theorem tq_17 (h:p:=by ((with_reducible repeat (first|refine blk_drewN ?_ _|refine blk_drew ?_|refine blk_alloc ?_ _));refine blk_put (cs:=#[.int .i64 t791,.slice Ao140 t792.length co140,.slice none 0 0]) ?_ 2 _ rfl;(with_reducible repeat (first|refine blk_drewN ?_ _|refine blk_drew ?_|refine blk_alloc ?_ _));refine blk_put (cs:=#[.int .i64 t791,.slice none 0 0,.slice none 0 0]) ?_ 1 _ rfl;(with_reducible repeat (first|refine blk_drewN ?_ _|refine blk_drew ?_|refine blk_alloc ?_ _));refine blk_put (cs:=#[.int .i64 0,.slice none 0 0,.slice none 0 0]) ?_ 0 _ rfl;(with_reducible repeat (first|refine blk_drewN ?_ _|refine blk_drew ?_|refine blk_alloc ?_ _));exact BK799.out)):p:=h
theorem tq_18 (h:p:=by ((with_reducible repeat (first|refine blk_drewN ?_ _|refine blk_drew ?_|refine blk_alloc ?_ _));refine blk_put (cs:=#[.int .i64 t761,.slice Ao48 t762.length co48,.slice none 0 0]) ?_ 2 _ rfl;(with_reducible repeat (first|refine blk_drewN ?_ _|refine blk_drew ?_|refine blk_alloc ?_ _));refine blk_put (cs:=#[.int .i64 t761,.slice none 0 0,.slice none 0 0]) ?_ 1 _ rfl;(with_reducible repeat (first|refine blk_drewN ?_ _|refine blk_drew ?_|refine blk_alloc ?_ _));refine blk_put (cs:=#[.int .i64 0,.slice none 0 0,.slice none 0 0]) ?_ 0 _ rfl;(with_reducible repeat (first|refine blk_drewN ?_ _|refine blk_drew ?_|refine blk_alloc ?_ _));exact BK769.out)):p:=h
theorem tq_19 (h:p:=by (repeat (first|exact (Kd.R_reads' HO_569005.out).2.2|(with_reducible refine Kd.C_alloc ?_ _)|(with_reducible refine Kd.C_drewN ?_ _)|(with_reducible refine Kd.C_drew ?_)))):p:=h
theorem tq_20 (h:p:=by (repeat (first|exact (Kd.R_reads' HO_569004.out).2.2|(with_reducible refine Kd.C_alloc ?_ _)|(with_reducible refine Kd.C_drewN ?_ _)|(with_reducible refine Kd.C_drew ?_)))):p:=h
theorem tq_21 (h:p:=by (have:=World.block_lt_of_cell? _ _ hx575_0;first|rwa [add_block] at this|exact this)):p:=h
theorem tq_22 (h:p:=by ((with_reducible repeat (first|apply Kd.S_alloc|apply Kd.S_drewN|apply Kd.S_drew));exact (Kd.S_mono (rS_ (rS_ (rS_ (Kd.S_types HO_752002.out BK799.out (by decide))))) (fun _ h_=>h_.1)))):p:=h
theorem tq_23 (h:p:=by ((with_reducible repeat (first|apply Kd.R_alloc|apply Kd.R_drewN|apply Kd.R_drew));exact (Kd.R_mono (rR_ (rR_ (rR_ (Kd.R_types HO_752001.out BK799.out (by decide))))) (fun _ h_=>h_.1)))):p:=h
theorem tq_24 (h:p:=by (repeat (first|exact HR0.out|(with_reducible refine Kd.C_alloc ?_ _)|(with_reducible refine Kd.C_drewN ?_ _)|(with_reducible refine Kd.C_drew ?_)))):p:=h
theorem tq_25 (h:p:=by ((with_reducible repeat (first|apply Kd.S_alloc|apply Kd.S_drewN|apply Kd.S_drew));exact (Kd.S_mono (rS_ (rS_ (rS_ (Kd.S_types HO797.out BK799.out (by decide))))) (fun _ h_=>h_.1)))):p:=h
theorem tq_26 (h:p:=by ((with_reducible repeat (first|apply Kd.S_alloc|apply Kd.S_drewN|apply Kd.S_drew));exact (Kd.S_mono (rS_ (rS_ (rS_ (Kd.S_types HO767.out BK769.out (by decide))))) (fun _ h_=>h_.1)))):p:=h
theorem tq_27 (h:p:=by ((with_reducible repeat (first|apply Kd.S_alloc|apply Kd.S_drewN|apply Kd.S_drew));exact (Kd.S_mono (rS_ (rS_ (rS_ (Kd.S_types HO749.out BK769.out (by decide))))) (fun _ h_=>h_.1)))):p:=h
theorem tq_28 (h:p:=by ((with_reducible repeat (first|apply Kd.R_alloc|apply Kd.R_drewN|apply Kd.R_drew));exact (Kd.R_mono (rR_ (rR_ (rR_ (Kd.R_types HO794.out BK799.out (by decide))))) (fun _ h_=>h_.1)))):p:=h
theorem tq_29 (h:p:=by ((with_reducible repeat (first|apply Kd.R_alloc|apply Kd.R_drewN|apply Kd.R_drew));exact (Kd.R_mono (rR_ (rR_ (rR_ (Kd.R_types HO764.out BK769.out (by decide))))) (fun _ h_=>h_.1)))):p:=h
theorem tq_30 (h:p:=by ((with_reducible repeat (first|apply Kd.R_alloc|apply Kd.R_drewN|apply Kd.R_drew));exact (Kd.R_mono (rR_ (rR_ (rR_ (Kd.R_types HO746.out BK769.out (by decide))))) (fun _ h_=>h_.1)))):p:=h
theorem tq_31 (h:p:=by ((with_reducible repeat (first|refine blk_drewN ?_ _|refine blk_drew ?_|refine blk_alloc ?_ _));refine blk_far ?_ NB769_799.out _;(with_reducible repeat (first|refine blk_drewN ?_ _|refine blk_drew ?_|refine blk_alloc ?_ _));refine blk_far ?_ NB769_799.out _;(with_reducible repeat (first|refine blk_drewN ?_ _|refine blk_drew ?_|refine blk_alloc ?_ _));refine blk_far ?_ NB769_799.out _;(with_reducible repeat (first|refine blk_drewN ?_ _|refine blk_drew ?_|refine blk_alloc ?_ _));exact BK769.out)):p:=h
theorem tq_32 (h:p:=by ((with_reducible repeat (first|refine blk_drewN ?_ _|refine blk_drew ?_|refine blk_alloc ?_ _));refine blk_far ?_ NB756_799.out _;(with_reducible repeat (first|refine blk_drewN ?_ _|refine blk_drew ?_|refine blk_alloc ?_ _));refine blk_far ?_ NB756_799.out _;(with_reducible repeat (first|refine blk_drewN ?_ _|refine blk_drew ?_|refine blk_alloc ?_ _));refine blk_far ?_ NB756_799.out _;(with_reducible repeat (first|refine blk_drewN ?_ _|refine blk_drew ?_|refine blk_alloc ?_ _));exact BK756.out)):p:=h
theorem tq_33 (h:p:=by ((with_reducible repeat (first|refine blk_drewN ?_ _|refine blk_drew ?_|refine blk_alloc ?_ _));refine blk_far ?_ NB756_769.out _;(with_reducible repeat (first|refine blk_drewN ?_ _|refine blk_drew ?_|refine blk_alloc ?_ _));refine blk_far ?_ NB756_769.out _;(with_reducible repeat (first|refine blk_drewN ?_ _|refine blk_drew ?_|refine blk_alloc ?_ _));refine blk_far ?_ NB756_769.out _;(with_reducible repeat (first|refine blk_drewN ?_ _|refine blk_drew ?_|refine blk_alloc ?_ _));exact BK756.out)):p:=h
theorem tq_34 (h:p:=by ((with_reducible repeat (first|refine blk_drewN ?_ _|refine blk_drew ?_|refine blk_alloc ?_ _));refine blk_far ?_ NB751_799.out _;(with_reducible repeat (first|refine blk_drewN ?_ _|refine blk_drew ?_|refine blk_alloc ?_ _));refine blk_far ?_ NB751_799.out _;(with_reducible repeat (first|refine blk_drewN ?_ _|refine blk_drew ?_|refine blk_alloc ?_ _));refine blk_far ?_ NB751_799.out _;(with_reducible repeat (first|refine blk_drewN ?_ _|refine blk_drew ?_|refine blk_alloc ?_ _));exact BK751.out)):p:=h
theorem tq_35 (h:p:=by ((with_reducible repeat (first|refine blk_drewN ?_ _|refine blk_drew ?_|refine blk_alloc ?_ _));refine blk_far ?_ NB751_769.out _;(with_reducible repeat (first|refine blk_drewN ?_ _|refine blk_drew ?_|refine blk_alloc ?_ _));refine blk_far ?_ NB751_769.out _;(with_reducible repeat (first|refine blk_drewN ?_ _|refine blk_drew ?_|refine blk_alloc ?_ _));refine blk_far ?_ NB751_769.out _;(with_reducible repeat (first|refine blk_drewN ?_ _|refine blk_drew ?_|refine blk_alloc ?_ _));exact BK751.out)):p:=h
theorem tq_36 (h:p:=by ((with_reducible repeat (first|refine blk_drewN ?_ _|refine blk_drew ?_|refine blk_alloc ?_ _));refine blk_far ?_ NB733_799.out _;(with_reducible repeat (first|refine blk_drewN ?_ _|refine blk_drew ?_|refine blk_alloc ?_ _));refine blk_far ?_ NB733_799.out _;(with_reducible repeat (first|refine blk_drewN ?_ _|refine blk_drew ?_|refine blk_alloc ?_ _));refine blk_far ?_ NB733_799.out _;(with_reducible repeat (first|refine blk_drewN ?_ _|refine blk_drew ?_|refine blk_alloc ?_ _));exact BK733.out)):p:=h
theorem tq_37 (h:p:=by ((with_reducible repeat (first|refine blk_drewN ?_ _|refine blk_drew ?_|refine blk_alloc ?_ _));refine blk_far ?_ NB733_769.out _;(with_reducible repeat (first|refine blk_drewN ?_ _|refine blk_drew ?_|refine blk_alloc ?_ _));refine blk_far ?_ NB733_769.out _;(with_reducible repeat (first|refine blk_drewN ?_ _|refine blk_drew ?_|refine blk_alloc ?_ _));refine blk_far ?_ NB733_769.out _;(with_reducible repeat (first|refine blk_drewN ?_ _|refine blk_drew ?_|refine blk_alloc ?_ _));exact BK733.out)):p:=h
theorem tq_38 (h:p:=by ((with_reducible repeat (first|refine blk_drewN ?_ _|refine blk_drew ?_|refine blk_alloc ?_ _));refine blk_far ?_ NB732_799.out _;(with_reducible repeat (first|refine blk_drewN ?_ _|refine blk_drew ?_|refine blk_alloc ?_ _));refine blk_far ?_ NB732_799.out _;(with_reducible repeat (first|refine blk_drewN ?_ _|refine blk_drew ?_|refine blk_alloc ?_ _));refine blk_far ?_ NB732_799.out _;(with_reducible repeat (first|refine blk_drewN ?_ _|refine blk_drew ?_|refine blk_alloc ?_ _));exact BK732.out)):p:=h
theorem tq_39 (h:p:=by ((with_reducible repeat (first|refine blk_drewN ?_ _|refine blk_drew ?_|refine blk_alloc ?_ _));refine blk_far ?_ NB732_769.out _;(with_reducible repeat (first|refine blk_drewN ?_ _|refine blk_drew ?_|refine blk_alloc ?_ _));refine blk_far ?_ NB732_769.out _;(with_reducible repeat (first|refine blk_drewN ?_ _|refine blk_drew ?_|refine blk_alloc ?_ _));refine blk_far ?_ NB732_769.out _;(with_reducible repeat (first|refine blk_drewN ?_ _|refine blk_drew ?_|refine blk_alloc ?_ _));exact BK732.out)):p:=h
theorem tq_40 (h:p:=by (have:=World.block_lt_of_cell? _ _ hx572_0;first|rwa [add_block] at this|exact this)):p:=h
theorem tq_41 (h:p:=by (have:=World.block_lt_of_cell? _ _ hx292_0;first|rwa [add_block] at this|exact this)):p:=h
theorem tq_42 (h:p:=by (repeat (first|exact (Kd.S_reads' HO_770002.out).2.2|(with_reducible refine Kd.C_alloc ?_ _)|(with_reducible refine Kd.C_drewN ?_ _)|(with_reducible refine Kd.C_drew ?_)))):p:=h
theorem tq_43 (h:p:=by (repeat (first|exact (Kd.R_reads' HO_770001.out).2.2|(with_reducible refine Kd.C_alloc ?_ _)|(with_reducible refine Kd.C_drewN ?_ _)|(with_reducible refine Kd.C_drew ?_)))):p:=h
theorem tq_44 (h:p:=by (repeat (first|exact (Kd.R_reads' HO786.out).2.2|(with_reducible refine Kd.C_alloc ?_ _)|(with_reducible refine Kd.C_drewN ?_ _)|(with_reducible refine Kd.C_drew ?_)))):p:=h
theorem tq_45 (h:p:=by (repeat (first|exact (Kd.R_reads' HO738.out).2.2|(with_reducible refine Kd.C_alloc ?_ _)|(with_reducible refine Kd.C_drewN ?_ _)|(with_reducible refine Kd.C_drew ?_)))):p:=h
theorem tq_46 (h:p:=by (repeat (first|exact (Kd.R_reads' HO624.out).2.2|(with_reducible refine Kd.C_alloc ?_ _)|(with_reducible refine Kd.C_drewN ?_ _)|(with_reducible refine Kd.C_drew ?_)))):p:=h
theorem tq_47 (h:p:=by (repeat (first|exact (Kd.R_reads' HO347.out).2.2|(with_reducible refine Kd.C_alloc ?_ _)|(with_reducible refine Kd.C_drewN ?_ _)|(with_reducible refine Kd.C_drew ?_)))):p:=h
theorem tq_48 (h:p:=by (have:=World.block_lt_of_cell? _ _ hx569_0;first|rwa [add_block] at this|exact this)):p:=h
theorem tq_49 (h:p:=by (have:=World.block_lt_of_cell? _ _ hx289_0;first|rwa [add_block] at this|exact this)):p:=h
theorem tq_50 (h:p:=by ((with_reducible repeat (first|apply Kd.S_alloc|apply Kd.S_drewN|apply Kd.S_drew));exact Kd.S_mono HO_0.out (fun k_ hk=>⟨hk,fun e_=>e_⟩))):p:=h
theorem tq_51 (h:p:=by ((with_reducible repeat (first|apply Kd.S_alloc|apply Kd.S_drewN|apply Kd.S_drew));exact Kd.S_mono HO_770002.out (fun _ hk=>⟨hk.2,hk.1⟩))):p:=h
theorem tq_52 (h:p:=by ((with_reducible repeat (first|apply Kd.S_alloc|apply Kd.S_drewN|apply Kd.S_drew));exact Kd.S_mono HO_752002.out (fun _ hk=>⟨hk.2,hk.1⟩))):p:=h
theorem tq_53 (h:p:=by ((with_reducible repeat (first|apply Kd.R_alloc|apply Kd.R_drewN|apply Kd.R_drew));exact Kd.R_mono HO_770001.out (fun _ hk=>⟨hk.2,hk.1⟩))):p:=h
theorem tq_54 (h:p:=by ((with_reducible repeat (first|apply Kd.R_alloc|apply Kd.R_drewN|apply Kd.R_drew));exact Kd.R_mono HO_752001.out (fun _ hk=>⟨hk.2,hk.1⟩))):p:=h
theorem tq_55 (h:p:=by ((with_reducible repeat (first|apply Kd.S_alloc|apply Kd.S_drewN|apply Kd.S_drew));exact Kd.S_mono HO797.out (fun _ hk=>⟨hk.1.2,hk.2⟩))):p:=h
theorem tq_56 (h:p:=by ((with_reducible repeat (first|apply Kd.R_alloc|apply Kd.R_drewN|apply Kd.R_drew));exact Kd.R_mono HO794.out (fun _ hk=>⟨hk.1.2,hk.2⟩))):p:=h
theorem tq_57 (h:p:=by ((with_reducible repeat (first|apply Kd.S_alloc|apply Kd.S_drewN|apply Kd.S_drew));exact (Kd.S_mono (Kd.S_far  (p:=⟨gb769,2,none⟩) (Kd.S_far  (p:=⟨gb769,1,none⟩) (Kd.S_far  (p:=⟨gb769,0,none⟩) (Kd.S_types HG_.out BK769.out (by decide)) (fun _ hk=>hk.2) (.int .i64 t761)) (fun _ hk=>hk.2) (.slice Ao48 t762.length co48)) (fun _ hk=>hk.2) (.slice Ao50 t765.length co50)) (fun _ h_=>h_.1)))):p:=h
theorem tq_58 (h:p:=by ((with_reducible repeat (first|apply Kd.S_alloc|apply Kd.S_drewN|apply Kd.S_drew));exact (Kd.S_mono (Kd.S_far  (p:=⟨gb769,2,none⟩) (Kd.S_far  (p:=⟨gb769,1,none⟩) (Kd.S_far  (p:=⟨gb769,0,none⟩) (Kd.S_types HA_.out BK769.out (by decide)) (fun _ hk=>hk.2) (.int .i64 t761)) (fun _ hk=>hk.2) (.slice Ao48 t762.length co48)) (fun _ hk=>hk.2) (.slice Ao50 t765.length co50)) (fun _ h_=>h_.1)))):p:=h
theorem tq_59 (h:p:=by ((with_reducible repeat (first|apply Kd.R_alloc|apply Kd.R_drewN|apply Kd.R_drew));exact Kd.R_mono HO_757001.out (fun _ hk=>hk.2))):p:=h
theorem tq_60 (h:p:=by ((with_reducible repeat (first|apply Kd.R_alloc|apply Kd.R_drewN|apply Kd.R_drew));exact Kd.R_mono HO786.out (fun _ hk=>hk.2))):p:=h
theorem tq_61 (h:p:=by (repeat (first|(with_reducible first|exact HK.out|apply Kept.alloc|apply Kept.drewN|apply Kept.drew|refine Kept.setCell ?_ (.inr GW707.out) _)|exact HK.out))):p:=h
theorem tq_62 (h:p:=by (repeat (first|exact (Kd.C_below HR530.out HB.out)|(with_reducible refine Kd.C_alloc ?_ _)|(with_reducible refine Kd.C_drewN ?_ _)|(with_reducible refine Kd.C_drew ?_)))):p:=h
theorem tq_63 (h:p:=by (repeat (first|exact (Kd.R_reads' HO755.out).2.2|(with_reducible refine Kd.C_alloc ?_ _)|(with_reducible refine Kd.C_drewN ?_ _)|(with_reducible refine Kd.C_drew ?_)))):p:=h
theorem tq_64 (h:p:=by (repeat (first|exact (Kd.R_reads' HO483.out).2.2|(with_reducible refine Kd.C_alloc ?_ _)|(with_reducible refine Kd.C_drewN ?_ _)|(with_reducible refine Kd.C_drew ?_)))):p:=h
theorem tq_65 (h:p:=by (repeat (first|exact (Kd.R_reads' HO191.out).2.2|(with_reducible refine Kd.C_alloc ?_ _)|(with_reducible refine Kd.C_drewN ?_ _)|(with_reducible refine Kd.C_drew ?_)))):p:=h
theorem tq_66 (h:p:=by ((with_reducible repeat (first|apply Kd.S_alloc|apply Kd.S_drewN|apply Kd.S_drew));exact Kd.S_mono HO_621002.out (fun _ hk=>⟨hk.1.2,⟨hk.2,hk.1.1.2⟩⟩))):p:=h
theorem tq_67 (h:p:=by ((with_reducible repeat (first|apply Kd.S_alloc|apply Kd.S_drewN|apply Kd.S_drew));exact Kd.S_mono HO_331002.out (fun _ hk=>⟨hk.1.2,⟨hk.2,hk.1.1.2⟩⟩))):p:=h
theorem tq_68 (h:p:=by (repeat (first|(with_reducible first|exact HB.out|apply below_alloc|apply pw_below_drewN|apply below_drew1|refine below_set ?_ GE732.out|refine below_set ?_ GE733.out|refine below_set ?_ GE751.out|refine below_set ?_ GE756.out|refine below_set ?_ GE769.out)|exact HB.out))):p:=h
theorem tq_69 (h:p:=by ((with_reducible repeat (first|apply Kd.S_alloc|apply Kd.S_drewN|apply Kd.S_drew));exact Kd.S_mono HO767.out (fun _ hk=>hk.2))):p:=h
theorem tq_70 (h:p:=by ((with_reducible repeat (first|apply Kd.S_alloc|apply Kd.S_drewN|apply Kd.S_drew));exact Kd.S_mono HO749.out (fun _ hk=>hk.2))):p:=h
theorem tq_71 (h:p:=by ((with_reducible repeat (first|apply Kd.R_alloc|apply Kd.R_drewN|apply Kd.R_drew));exact Kd.R_mono HO764.out (fun _ hk=>hk.2))):p:=h
theorem tq_72 (h:p:=by ((with_reducible repeat (first|apply Kd.R_alloc|apply Kd.R_drewN|apply Kd.R_drew));exact Kd.R_mono HO746.out (fun _ hk=>hk.2))):p:=h
theorem tq_73 (h:p:=by (have:=HJ1.out;have:=HJ12.out;have:=HK3.out;first|omega|exact Nat.le_refl _)):p:=h
theorem tq_74 (h:p:=by (rw [← hq_];exact th_)):p:=h
theorem tq_75 (h:p:=by ((with_reducible repeat (first|apply Kd.R_alloc|apply Kd.R_drewN|apply Kd.R_drew));exact Kd.R_mono (rR_ (rR_ (Kd.R_mono HO_569005.out (fun k_ hk=>(⟨hk,hk.2⟩:_∧k_≠gb590))))) (fun _ hk=>hk.1.2))):p:=h
theorem tq_76 (h:p:=by (rw [← add_field _ _ 1 (by omega)];exact hc 1 _ rfl)):p:=h
theorem tq_77 (h:p:=by ((with_reducible repeat (first|apply Kd.S_alloc|apply Kd.S_drewN|apply Kd.S_drew));exact (Kd.S_mono (rS_ (rS_ (rS_ (Kd.S_types HO_770002.out BK799.out (by decide))))) (fun _ h_=>h_.1)))):p:=h
theorem tq_78 (h:p:=by ((with_reducible repeat (first|apply Kd.R_alloc|apply Kd.R_drewN|apply Kd.R_drew));exact (Kd.R_mono (rR_ (rR_ (rR_ (Kd.R_types HO_770001.out BK799.out (by decide))))) (fun _ h_=>h_.1)))):p:=h
theorem tq_79 (h:p:=by ((with_reducible repeat (first|apply Kd.R_alloc|apply Kd.R_drewN|apply Kd.R_drew));exact (Kd.R_mono (rR_ (rR_ (rR_ (Kd.R_types HO_757001.out BK799.out (by decide))))) (fun _ h_=>h_.1)))):p:=h
theorem tq_80 (h:p:=by ((with_reducible repeat (first|apply Kd.R_alloc|apply Kd.R_drewN|apply Kd.R_drew));exact (Kd.R_mono (rR_ (rR_ (rR_ (Kd.R_types HO786.out BK799.out (by decide))))) (fun _ h_=>h_.1)))):p:=h
theorem tq_81 (h:p:=by ((with_reducible repeat (first|apply Kd.R_alloc|apply Kd.R_drewN|apply Kd.R_drew));exact (Kd.R_mono (rR_ (rR_ (rR_ (Kd.R_types HO755.out BK769.out (by decide))))) (fun _ h_=>h_.1)))):p:=h
theorem tq_82 (h:p:=by ((with_reducible repeat (first|apply Kd.R_alloc|apply Kd.R_drewN|apply Kd.R_drew));exact (Kd.R_mono (rR_ (rR_ (rR_ (Kd.R_types HO738.out BK769.out (by decide))))) (fun _ h_=>h_.1)))):p:=h
theorem tq_83 (h:p:=by ((with_reducible repeat (first|apply Kd.R_alloc|apply Kd.R_drewN|apply Kd.R_drew));exact (Kd.R_mono (rR_ (rR_ (rR_ (Kd.R_types HO738.out BK751.out (by decide))))) (fun _ h_=>h_.1)))):p:=h
theorem tq_84 (h:p:=by ((with_reducible repeat (first|apply Kd.R_alloc|apply Kd.R_drewN|apply Kd.R_drew));exact Kd.R_mono (rR_ (rR_ (Kd.R_types HO_569004.out BK590.out (by decide)))) (fun _ hk=>hk.1.2))):p:=h
theorem tq_85 (h:p:=by ((try simp only [hl757001_83]);(with_reducible repeat (first|apply Kd.S_alloc|apply Kd.S_drewN|apply Kd.S_drew));exact Kd.S_mono HO_770002.out (fun _ hk=>⟨hk.2,hk.1⟩))):p:=h
theorem tq_86 (h:p:=by ((try simp only [hl757001_83]);(with_reducible repeat (first|apply Kd.S_alloc|apply Kd.S_drewN|apply Kd.S_drew));exact Kd.S_mono HO_752002.out (fun _ hk=>⟨hk.2,hk.1⟩))):p:=h
theorem tq_87 (h:p:=by ((try simp only [hl757001_83]);(with_reducible repeat (first|apply Kd.R_alloc|apply Kd.R_drewN|apply Kd.R_drew));exact Kd.R_mono HO_770001.out (fun _ hk=>⟨hk.2,hk.1⟩))):p:=h
theorem tq_88 (h:p:=by ((try simp only [hl757001_83]);(with_reducible repeat (first|apply Kd.R_alloc|apply Kd.R_drewN|apply Kd.R_drew));exact Kd.R_mono HO_752001.out (fun _ hk=>⟨hk.2,hk.1⟩))):p:=h
theorem tq_89 (h:p:=by ((try simp only [hl757001_83]);(with_reducible repeat (first|apply Kd.R_alloc|apply Kd.R_drewN|apply Kd.R_drew));exact Kd.R_mono HO_757001.out (fun _ hk=>trivial))):p:=h
theorem tq_90 (h:p:=by (first|rfl|(simp [errW_none,errW_some] <;> rfl)|(simp only [← hji6];first|rfl|(simp [errW_none,errW_some] <;> rfl))|(simp [*,errW_none,errW_some] <;> rfl))):p:=h
theorem tq_91 (h:p:=by (first|rfl|(simp [errW_none,errW_some] <;> rfl)|(simp only [← hji4];first|rfl|(simp [errW_none,errW_some] <;> rfl))|(simp [*,errW_none,errW_some] <;> rfl))):p:=h
theorem tq_92 (h:p:=by (repeat (first|(with_reducible first|exact HK.out|apply Kept.alloc|apply Kept.drewN|apply Kept.drew|refine Kept.setCell ?_ (.inr GW691.out) _)|exact HK.out))):p:=h
theorem tq_93 (h:p:=by (repeat (first|exact (Kd.S_reads' HO_752002.out).2.2|(with_reducible refine Kd.C_alloc ?_ _)|(with_reducible refine Kd.C_drewN ?_ _)|(with_reducible refine Kd.C_drew ?_)))):p:=h
theorem tq_94 (h:p:=by (repeat (first|exact (Kd.R_reads' HO_752001.out).2.2|(with_reducible refine Kd.C_alloc ?_ _)|(with_reducible refine Kd.C_drewN ?_ _)|(with_reducible refine Kd.C_drew ?_)))):p:=h
theorem tq_95 (h:p:=by (repeat (first|exact (Kd.R_reads' HO_289005.out).2.2|(with_reducible refine Kd.C_alloc ?_ _)|(with_reducible refine Kd.C_drewN ?_ _)|(with_reducible refine Kd.C_drew ?_)))):p:=h
theorem tq_96 (h:p:=by (repeat (first|exact (Kd.R_reads' HO_289004.out).2.2|(with_reducible refine Kd.C_alloc ?_ _)|(with_reducible refine Kd.C_drewN ?_ _)|(with_reducible refine Kd.C_drew ?_)))):p:=h
theorem tq_97 (h:p:=by (repeat (first|exact (Kd.C_below HR1_1.out HB.out)|(with_reducible refine Kd.C_alloc ?_ _)|(with_reducible refine Kd.C_drewN ?_ _)|(with_reducible refine Kd.C_drew ?_)))):p:=h
theorem tq_98 (h:p:=by (repeat (first|exact (Kd.C_below HR0_5.out HB.out)|(with_reducible refine Kd.C_alloc ?_ _)|(with_reducible refine Kd.C_drewN ?_ _)|(with_reducible refine Kd.C_drew ?_)))):p:=h
theorem tq_99 (h:p:=by (repeat (first|exact (Kd.C_below HR0_4.out HB.out)|(with_reducible refine Kd.C_alloc ?_ _)|(with_reducible refine Kd.C_drewN ?_ _)|(with_reducible refine Kd.C_drew ?_)))):p:=h
theorem tq_100 (h:p:=by (repeat (first|exact (Kd.R_reads' HO600.out).2.2|(with_reducible refine Kd.C_alloc ?_ _)|(with_reducible refine Kd.C_drewN ?_ _)|(with_reducible refine Kd.C_drew ?_)))):p:=h
theorem tq_101 (h:p:=by (repeat (first|exact (Kd.R_reads' HO317.out).2.2|(with_reducible refine Kd.C_alloc ?_ _)|(with_reducible refine Kd.C_drewN ?_ _)|(with_reducible refine Kd.C_drew ?_)))):p:=h
theorem tq_102 (h:p:=by (repeat (first|exact (Kd.C_below HR0_5.out th_)|(with_reducible refine Kd.C_alloc ?_ _)|(with_reducible refine Kd.C_drewN ?_ _)|(with_reducible refine Kd.C_drew ?_)))):p:=h
theorem tq_103 (h:p:=by (repeat (first|exact (Kd.C_below HR0_4.out th_)|(with_reducible refine Kd.C_alloc ?_ _)|(with_reducible refine Kd.C_drewN ?_ _)|(with_reducible refine Kd.C_drew ?_)))):p:=h
theorem tq_104 (h:p:=by (repeat (first|exact (Kd.C_below HR0_2.out th_)|(with_reducible refine Kd.C_alloc ?_ _)|(with_reducible refine Kd.C_drewN ?_ _)|(with_reducible refine Kd.C_drew ?_)))):p:=h
theorem tq_105 (h:p:=by (repeat (first|(with_reducible first|exact HB.out|apply below_alloc|apply pw_below_drewN|apply below_drew1|refine below_set ?_ GE707.out)|exact HB.out))):p:=h
theorem tq_106 (h:p:=by (rw [← add_field _ _ 2 (by omega)];exact hc 2 _ rfl)):p:=h
theorem tq_107 (h:p:=by ((try simp only [hl757001_83]);(with_reducible repeat (first|refine blk_drewN ?_ _|refine blk_drew ?_|refine blk_alloc ?_ _));exact BK799.out)):p:=h
theorem tq_108 (h:p:=by ((try simp only [hl757001_83]);(with_reducible repeat (first|refine blk_drewN ?_ _|refine blk_drew ?_|refine blk_alloc ?_ _));exact BK769.out)):p:=h
theorem tq_109 (h:p:=by ((try simp only [hl757001_83]);(with_reducible repeat (first|refine blk_drewN ?_ _|refine blk_drew ?_|refine blk_alloc ?_ _));exact BK756.out)):p:=h
theorem tq_110 (h:p:=by ((try simp only [hl757001_83]);(with_reducible repeat (first|refine blk_drewN ?_ _|refine blk_drew ?_|refine blk_alloc ?_ _));exact BK751.out)):p:=h
theorem tq_111 (h:p:=by ((try simp only [hl757001_83]);(with_reducible repeat (first|refine blk_drewN ?_ _|refine blk_drew ?_|refine blk_alloc ?_ _));exact BK733.out)):p:=h
theorem tq_112 (h:p:=by ((try simp only [hl757001_83]);(with_reducible repeat (first|refine blk_drewN ?_ _|refine blk_drew ?_|refine blk_alloc ?_ _));exact BK732.out)):p:=h
theorem tq_113 (h:p:=by ((with_reducible repeat (first|apply Kd.R_alloc|apply Kd.R_drewN|apply Kd.R_drew));exact Kd.R_mono HO755.out (fun _ hk=>trivial))):p:=h
theorem tq_114 (h:p:=by ((try simp only [hl757001_83]);(with_reducible repeat (first|apply Kd.S_alloc|apply Kd.S_drewN|apply Kd.S_drew));exact HO797.out)):p:=h
theorem tq_115 (h:p:=by ((try simp only [hl757001_83]);(with_reducible repeat (first|apply Kd.R_alloc|apply Kd.R_drewN|apply Kd.R_drew));exact HO794.out)):p:=h
end

theorem bb2_ {w:World} {g:Nat} {t:TypeId} {v0 v1:Value} (h:w.heap[g]?=some (.cells #[v0,v1] t (0,0))):w.cell? ⟨g,0,none⟩=some v0∧w.cell? ⟨g,1,none⟩=some v1∧w.frozen? ⟨g,0,none⟩=false∧w.frozen? ⟨g,1,none⟩=false:=⟨(blk_cell h 0).trans rfl,(blk_cell h 1).trans rfl,blk_frozen h 0,blk_frozen h 1⟩
theorem bb3_ {w:World} {g:Nat} {t:TypeId} {v0 v1 v2:Value} (h:w.heap[g]?=some (.cells #[v0,v1,v2] t (0,0))):w.cell? ⟨g,0,none⟩=some v0∧w.cell? ⟨g,1,none⟩=some v1∧w.cell? ⟨g,2,none⟩=some v2∧w.frozen? ⟨g,0,none⟩=false∧w.frozen? ⟨g,1,none⟩=false∧w.frozen? ⟨g,2,none⟩=false:=⟨(blk_cell h 0).trans rfl,(blk_cell h 1).trans rfl,(blk_cell h 2).trans rfl,blk_frozen h 0,blk_frozen h 1,blk_frozen h 2⟩
theorem bb4_ {w:World} {g:Nat} {t:TypeId} {v0 v1 v2 v3:Value} (h:w.heap[g]?=some (.cells #[v0,v1,v2,v3] t (0,0))):w.cell? ⟨g,0,none⟩=some v0∧w.cell? ⟨g,1,none⟩=some v1∧w.cell? ⟨g,2,none⟩=some v2∧w.cell? ⟨g,3,none⟩=some v3∧w.frozen? ⟨g,0,none⟩=false∧w.frozen? ⟨g,1,none⟩=false∧w.frozen? ⟨g,2,none⟩=false∧w.frozen? ⟨g,3,none⟩=false:=⟨(blk_cell h 0).trans rfl,(blk_cell h 1).trans rfl,(blk_cell h 2).trans rfl,(blk_cell h 3).trans rfl,blk_frozen h 0,blk_frozen h 1,blk_frozen h 2,blk_frozen h 3⟩
theorem bb6_ {w:World} {g:Nat} {t:TypeId} {v0 v1 v2 v3 v4 v5:Value} (h:w.heap[g]?=some (.cells #[v0,v1,v2,v3,v4,v5] t (0,0))):w.cell? ⟨g,0,none⟩=some v0∧w.cell? ⟨g,1,none⟩=some v1∧w.cell? ⟨g,2,none⟩=some v2∧w.cell? ⟨g,3,none⟩=some v3∧w.cell? ⟨g,4,none⟩=some v4∧w.cell? ⟨g,5,none⟩=some v5∧w.frozen? ⟨g,0,none⟩=false∧w.frozen? ⟨g,1,none⟩=false∧w.frozen? ⟨g,2,none⟩=false∧w.frozen? ⟨g,3,none⟩=false∧w.frozen? ⟨g,4,none⟩=false∧w.frozen? ⟨g,5,none⟩=false:=⟨(blk_cell h 0).trans rfl,(blk_cell h 1).trans rfl,(blk_cell h 2).trans rfl,(blk_cell h 3).trans rfl,(blk_cell h 4).trans rfl,(blk_cell h 5).trans rfl,blk_frozen h 0,blk_frozen h 1,blk_frozen h 2,blk_frozen h 3,blk_frozen h 4,blk_frozen h 5⟩
theorem blk_cs {w:World} {g:Nat} {t:TypeId} {cs cs':Array Value} (h:w.heap[g]?=some (.cells cs t (0,0))) (e:cs=cs'):w.heap[g]?=some (.cells cs' t (0,0)):=e ▸ h
theorem pt_ {q p:Prop} (h:q) (k:q→p:=by (intro h_;apply blk_cs;(repeat (first|(with_reducible first|exact h_|refine blk_drewN ?_ _|refine blk_drew ?_|refine blk_alloc ?_ _)|apply blk_set));(try exact h_);exact rfl)):p:=k h
theorem fr_ {q r p:Prop} (h:q) (n:r) (k:q→r→p:=by (intro h_ n_;(repeat (first|(with_reducible first|exact h_|refine blk_drewN ?_ _|refine blk_drew ?_|refine blk_alloc ?_ _)|refine blk_far ?_ n_ _));(try exact h_))):p:=k h n
theorem ab_ {q p:Prop} (h:q) (k:q→p:=by (intro h_;first|(rw [add_block];exact h_)|(show (Addr.add _ _).block≠_;rw [add_block];exact h_)|exact h_)):p:=k h
theorem rh_ {a b p:Prop} (x:a) (h:b) (k:a→b→p:=by (intro x_ h_;first|(rw [x_];with_reducible exact h_)|(have h2_:=(Option.bind_some _ _).symm.trans h_;rw [x_];with_reducible exact h2_)|(have h2_:=(Option.bind_some _ _).symm.trans h_;with_reducible exact h2_)|with_reducible exact h_|(rw [x_];exact h_)|exact h_)):p:=k x h
end Go.Proofs.YtleoknilacjakaaGreatDoor.PFnExactReadPart
-- min
