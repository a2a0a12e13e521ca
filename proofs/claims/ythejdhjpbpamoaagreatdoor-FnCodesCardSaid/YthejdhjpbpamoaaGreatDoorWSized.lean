

import Derived.SizedLaws
import Derived.ChangeSlices
namespace Go.Proofs.YthejdhjpbpamoaaGreatDoorW.iw
open Go.ChangeShapes Go.WideShapes
end Go.Proofs.YthejdhjpbpamoaaGreatDoorW.iw
