

import Derived.SizedLaws
import Derived.ChangeSlices
namespace Go.Proofs.YtcdnfkoahajhhaaW.PrintWords
open Go.ChangeShapes Go.WideShapes
end Go.Proofs.YtcdnfkoahajhhaaW.PrintWords
