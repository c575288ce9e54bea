import Derived.Test.YtlbaldejaapbiaaWInv
import Derived.Test.YtlbaldejaapbiaaWFootNe
namespace Go.Proofs.YtlbaldejaapbiaaW.PrintWords
open Go.RowKit
end Go.Proofs.YtlbaldejaapbiaaW.PrintWords
namespace Go.Proofs.YtlbaldejaapbiaaW.PrintLast
section
variable {ops : Array Oper} {a : Act} {o og : Oper} {g : Nat} {t : Tmp} {u : Bool}
end
end Go.Proofs.YtlbaldejaapbiaaW.PrintLast
