

import Derived.SizedLaws
import Derived.ChangeSlices
namespace Go.Proofs.YthejdhjpbpamoaaGreatDoorW.jk
open Go.ChangeShapes Go.WideShapes
end Go.Proofs.YthejdhjpbpamoaaGreatDoorW.jk
