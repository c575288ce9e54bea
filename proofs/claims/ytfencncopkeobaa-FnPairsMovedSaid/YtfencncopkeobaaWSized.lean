import Derived.SizedLaws
import Derived.ChangeSlices
namespace Go.Proofs.YtfencncopkeobaaW.PrintWords
open Go.ChangeShapes Go.WideShapes
end Go.Proofs.YtfencncopkeobaaW.PrintWords
