

import Derived.SizedLaws
import Derived.ChangeSlices
namespace Go.Proofs.YtjfhddenmnjgbaaDoorW.PrintWords
open Go.ChangeShapes Go.WideShapes
end Go.Proofs.YtjfhddenmnjgbaaDoorW.PrintWords
