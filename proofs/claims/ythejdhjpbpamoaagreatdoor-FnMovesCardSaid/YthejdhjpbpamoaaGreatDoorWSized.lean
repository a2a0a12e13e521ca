

import Derived.SizedLaws
import Derived.ChangeSlices
namespace Go.Proofs.YthejdhjpbpamoaaGreatDoorW.iK
open Go.ChangeShapes Go.WideShapes
end Go.Proofs.YthejdhjpbpamoaaGreatDoorW.iK
