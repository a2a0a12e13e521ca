/- Contracts of Go functions, written by a program of ours over the print of the kit: each says that the call returns what the Lean function beside it computes. Conditions: as each theorem states them. -/
import Derived.Test.YtfgammfdaiicpaaProg
import Derived.Below
import Derived.Deep.Draws
import Derived.Deep.AppendLies
import Derived.Maps.AppendAt
import Derived.OwnWalk
import Derived.Laws.BytesArg
import Derived.Laws.MakeOwn
import Derived.Laws.OwnMore
import Derived.Deep.OwnRows
import Derived.Tactics
import Derived.Lib.ConvBytes
import Derived.Laws.Slices
import Derived.WalkKit
import Derived.KernelRfl
import Derived.RowKit3
import Derived.Deep.LoopGhost
import Derived.Deep.QuietTactic
import Derived.BigQuiet
import Derived.WideLaws
import Derived.Deep.DeepCutAuto
import Derived.Deep.CutBlock
import Derived.Deep.RegionHeld3
import Derived.Laws.Rows
import Derived.Lib.AppendStr
import Derived.ArgAppend
import Derived.Laws.IdiomCopy
import Derived.OrdersHeld
import Derived.Laws.BitsLemmas
import Derived.RowKit
import Derived.Lib.SliceRun
import Derived.Test.YtfgammfdaiicpaaShelf
import Derived.Test.YtfgammfdaiicpaaWWords
import Derived.Test.YtfgammfdaiicpaaWLast
import Derived.Test.YtfgammfdaiicpaaWTab
import Derived.Test.YtfgammfdaiicpaaWFour
import Derived.Test.YtfgammfdaiicpaaWQPut
import Derived.Test.YtfgammfdaiicpaaWApart
import Derived.Test.YtfgammfdaiicpaaWArr
import Derived.Test.YtfgammfdaiicpaaWZeros
import Derived.Test.YtfgammfdaiicpaaWFoot
import Derived.Test.YtfgammfdaiicpaaWKept
import Derived.Test.YtfgammfdaiicpaaWShare
import Derived.Test.YtfgammfdaiicpaaWN
import Derived.Test.YtfgammfdaiicpaaWFootNe
import Derived.Test.YtfgammfdaiicpaaWAt
import Derived.Test.YtfgammfdaiicpaaWEqStruct
import Derived.Test.YtfgammfdaiicpaaWRepsOne
import Derived.Test.YtfgammfdaiicpaaWInv
import Derived.Test.YtfgammfdaiicpaaWInvWords
import Derived.Test.YtfgammfdaiicpaaWGuard
import Derived.Test.YtfgammfdaiicpaaWNEv
import Derived.Test.YtfgammfdaiicpaaWMore
namespace Go.Proofs.Ytfgammfdaiicpaa.PFnWritten
open Go.RowKit Go.Proofs.YtfgammfdaiicpaaW.PrintWords Go.Proofs.YtfgammfdaiicpaaW.PrintLast Go.Proofs.YtfgammfdaiicpaaW.PrintMore
attribute [local go_sem] max2_int min2_int max_two min_two max_three min_three max_four min_four   -- for this text's walks alone
set_option linter.unusedVariables false
set_option linter.unusedSimpArgs false



def errW : Option Int → Value
  | none => .nilIface
  | some c => .iface 0 (.int .i64 c)
theorem errW_none : errW none = .nilIface := rfl
theorem errW_some (c : Int) : errW (some c) = .iface 0 (.int .i64 c) := rfl

theorem info3 : (Try.prog.info? 3).map (fun i => (i.zero, i.size, i.bytes)) = some (some (.int .i64 0), 1, 8) := by kernel_rfl
theorem info5 : (Try.prog.info? 5).map (fun i => (i.zero, i.size, i.bytes)) = some (some (.int .u8 0), 1, 1) := by kernel_rfl
-- the values' own types

end Go.Proofs.Ytfgammfdaiicpaa.PFnWritten
