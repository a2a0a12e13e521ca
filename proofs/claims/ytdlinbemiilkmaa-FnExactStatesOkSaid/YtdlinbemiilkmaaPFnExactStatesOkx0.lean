/- Contracts of Go functions, written by a program of ours over the print of the kit: each says that the call returns what the Lean function beside it computes. Conditions: as each theorem states them. -/
import Derived.Test.YtdlinbemiilkmaaProg
import Derived.Below
import Derived.Deep.Draws
import Derived.Deep.AppendLies
import Derived.Maps.AppendAt
import Derived.OwnWalk
import Derived.Laws.BytesArg
import Derived.Laws.MakeOwn
import Derived.Laws.OwnMore
import Derived.Deep.OwnRows
import Derived.Tactics
import Derived.Lib.ConvBytes
import Derived.Laws.Slices
import Derived.WalkKit
import Derived.KernelRfl
import Derived.RowKit3
import Derived.Deep.LoopGhost
import Derived.Deep.QuietTactic
import Derived.BigQuiet
import Derived.WideLaws
import Derived.Deep.DeepCutAuto
import Derived.Deep.CutBlock
import Derived.Deep.RegionHeld3
import Derived.Laws.Rows
import Derived.Lib.AppendStr
import Derived.ArgAppend
import Derived.Laws.IdiomCopy
import Derived.OrdersHeld
import Derived.Laws.BitsLemmas
import Derived.RowKit
import Derived.Lib.SliceRun
import Derived.Test.YtdlinbemiilkmaaWWords
import Derived.Test.YtdlinbemiilkmaaWLast
import Derived.Test.YtdlinbemiilkmaaWTab
import Derived.Test.YtdlinbemiilkmaaWFour
import Derived.Test.YtdlinbemiilkmaaWQPut
import Derived.Test.YtdlinbemiilkmaaWApart
import Derived.Test.YtdlinbemiilkmaaWArr
import Derived.Test.YtdlinbemiilkmaaWZeros
import Derived.Test.YtdlinbemiilkmaaWFoot
import Derived.Test.YtdlinbemiilkmaaWKept
import Derived.Test.YtdlinbemiilkmaaWShare
import Derived.Test.YtdlinbemiilkmaaWN
import Derived.Test.YtdlinbemiilkmaaWFootNe
import Derived.Test.YtdlinbemiilkmaaWAt
import Derived.Test.YtdlinbemiilkmaaWEqStruct
import Derived.Test.YtdlinbemiilkmaaWRepsOne
import Derived.Test.YtdlinbemiilkmaaWInv
import Derived.Test.YtdlinbemiilkmaaWInvWords
import Derived.Test.YtdlinbemiilkmaaWGuard
import Derived.Test.YtdlinbemiilkmaaWNEv
import Derived.Test.YtdlinbemiilkmaaWMore
namespace Go.Proofs.Ytdlinbemiilkmaa.PFnExactStatesOk
open Go.RowKit Go.Proofs.YtdlinbemiilkmaaW.PrintWords Go.Proofs.YtdlinbemiilkmaaW.PrintLast Go.Proofs.YtdlinbemiilkmaaW.PrintMore
attribute [local go_sem] max2_int min2_int max_two min_two max_three min_three max_four min_four   -- for this text's walks alone
set_option linter.unusedVariables false
set_option linter.unusedSimpArgs false



def errW : Option Int → Value
  | none => .nilIface
  | some c => .iface 0 (.int .i64 c)
theorem errW_none : errW none = .nilIface := rfl
theorem errW_some (c : Int) : errW (some c) = .iface 0 (.int .i64 c) := rfl

theorem info3 : (Try.prog.info? 3).map (fun i => (i.zero, i.size, i.bytes)) = some (some (.int .i64 0), 1, 8) := by kernel_rfl
-- the values' own types

end Go.Proofs.Ytdlinbemiilkmaa.PFnExactStatesOk
