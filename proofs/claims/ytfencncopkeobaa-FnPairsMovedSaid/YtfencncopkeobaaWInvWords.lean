import Derived.Test.YtfencncopkeobaaWInv
import Derived.Test.YtfencncopkeobaaWFootNe
namespace Go.Proofs.YtfencncopkeobaaW.PrintWords
open Go.RowKit
end Go.Proofs.YtfencncopkeobaaW.PrintWords
namespace Go.Proofs.YtfencncopkeobaaW.PrintLast
section
variable {ops : Array Oper} {a : Act} {o og : Oper} {g : Nat} {t : Tmp} {u : Bool}
end
end Go.Proofs.YtfencncopkeobaaW.PrintLast
