

import Derived.SizedLaws
import Derived.ChangeSlices
namespace Go.Proofs.YtleoknilacjakaaGreatW.PrintWords
open Go.ChangeShapes Go.WideShapes
end Go.Proofs.YtleoknilacjakaaGreatW.PrintWords
