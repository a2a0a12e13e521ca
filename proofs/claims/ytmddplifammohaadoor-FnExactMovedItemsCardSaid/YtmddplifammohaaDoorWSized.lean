

import Derived.SizedLaws
import Derived.ChangeSlices
namespace Go.Proofs.YtmddplifammohaaDoorW.PrintWords
open Go.ChangeShapes Go.WideShapes
end Go.Proofs.YtmddplifammohaaDoorW.PrintWords
