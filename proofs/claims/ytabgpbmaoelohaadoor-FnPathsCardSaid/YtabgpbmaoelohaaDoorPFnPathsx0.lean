/- Contracts of Go functions, written by a program of ours over the print of the kit: each says that the call returns what the Lean function beside it computes. Conditions: as each theorem states them. -/
import Derived.Test.YtabgpbmaoelohaaDoorProg
import Derived.Below
import Derived.Deep.Draws
import Derived.Deep.AppendLies
import Derived.Maps.AppendAt
import Derived.OwnWalk
import Derived.Laws.BytesArg
import Derived.Laws.MakeOwn
import Derived.Laws.OwnMore
import Derived.Deep.OwnRows
import Derived.Tactics
import Derived.Lib.ConvBytes
import Derived.Laws.Slices
import Derived.WalkKit
import Derived.KernelRfl
import Derived.RowKit3
import Derived.Deep.LoopGhost
import Derived.Deep.QuietTactic
import Derived.BigQuiet
import Derived.WideLaws
import Derived.Deep.DeepCutAuto
import Derived.Deep.CutBlock
import Derived.Deep.RegionHeld3
import Derived.Laws.Rows
import Derived.Lib.AppendStr
import Derived.ArgAppend
import Derived.Laws.IdiomCopy
import Derived.OrdersHeld
import Derived.Laws.BitsLemmas
import Derived.RowKit
import Derived.Lib.SliceRun
import Derived.Test.YtabgpbmaoelohaaDoorShelf
import Derived.Test.YtabgpbmaoelohaaDoorDoor
import Derived.Test.YtabgpbmaoelohaaDoorWWords
import Derived.Test.YtabgpbmaoelohaaDoorWLast
import Derived.Test.YtabgpbmaoelohaaDoorWTab
import Derived.Test.YtabgpbmaoelohaaDoorWFour
import Derived.Test.YtabgpbmaoelohaaDoorWQPut
import Derived.Test.YtabgpbmaoelohaaDoorWApart
import Derived.Test.YtabgpbmaoelohaaDoorWArr
import Derived.Test.YtabgpbmaoelohaaDoorWZeros
import Derived.Test.YtabgpbmaoelohaaDoorWFoot
import Derived.Test.YtabgpbmaoelohaaDoorWKept
import Derived.Test.YtabgpbmaoelohaaDoorWShare
import Derived.Test.YtabgpbmaoelohaaDoorWN
import Derived.Test.YtabgpbmaoelohaaDoorWFootNe
import Derived.Test.YtabgpbmaoelohaaDoorWAt
import Derived.Test.YtabgpbmaoelohaaDoorWEqStruct
import Derived.Test.YtabgpbmaoelohaaDoorWRepsOne
import Derived.Test.YtabgpbmaoelohaaDoorWInv
import Derived.Test.YtabgpbmaoelohaaDoorWInvWords
import Derived.Test.YtabgpbmaoelohaaDoorWGuard
import Derived.Test.YtabgpbmaoelohaaDoorWNEv
import Derived.Test.YtabgpbmaoelohaaDoorWMore
namespace Go.Proofs.YtabgpbmaoelohaaDoor.PFnPaths
open Go.RowKit Go.Proofs.YtabgpbmaoelohaaDoorW.PrintWords Go.Proofs.YtabgpbmaoelohaaDoorW.PrintLast Go.Proofs.YtabgpbmaoelohaaDoorW.PrintMore
attribute [local go_sem] max2_int min2_int max_two min_two max_three min_three max_four min_four   -- for this text's walks alone
set_option linter.unusedVariables false
set_option linter.unusedSimpArgs false



def errW : Option Int → Value
  | none => .nilIface
  | some c => .iface 0 (.int .i64 c)
theorem errW_none : errW none = .nilIface := rfl
theorem errW_some (c : Int) : errW (some c) = .iface 0 (.int .i64 c) := rfl

theorem info9 : (Tryd.prog.info? 9).map (fun i => (i.zero, i.size, i.bytes)) = some (some (.string ⟨#[]⟩), 1, 16) := by kernel_rfl
-- the values' own types

end Go.Proofs.YtabgpbmaoelohaaDoor.PFnPaths
