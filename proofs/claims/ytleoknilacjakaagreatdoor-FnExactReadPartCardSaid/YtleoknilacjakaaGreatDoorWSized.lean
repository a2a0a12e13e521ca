

import Derived.SizedLaws
import Derived.ChangeSlices
namespace Go.Proofs.YtleoknilacjakaaGreatDoorW.PrintWords
open Go.ChangeShapes Go.WideShapes
end Go.Proofs.YtleoknilacjakaaGreatDoorW.PrintWords
