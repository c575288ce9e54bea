import Derived.SizedLaws
import Derived.ChangeSlices
namespace Go.Proofs.YtlbaldejaapbiaaW.PrintWords
open Go.ChangeShapes Go.WideShapes
end Go.Proofs.YtlbaldejaapbiaaW.PrintWords
