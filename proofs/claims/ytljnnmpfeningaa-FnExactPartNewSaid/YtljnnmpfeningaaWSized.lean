

import Derived.SizedLaws
import Derived.ChangeSlices
namespace Go.Proofs.YtljnnmpfeningaaW.PrintWords
open Go.ChangeShapes Go.WideShapes
end Go.Proofs.YtljnnmpfeningaaW.PrintWords
