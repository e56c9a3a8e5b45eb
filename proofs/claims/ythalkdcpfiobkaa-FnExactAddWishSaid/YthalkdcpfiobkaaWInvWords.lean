/- A print's words, of which this session's program trim.py left out what this claim does not name. -/
import Derived.Test.YthalkdcpfiobkaaWInv
import Derived.Test.YthalkdcpfiobkaaWFootNe
namespace Go.Proofs.YthalkdcpfiobkaaW.PrintWords
open Go.RowKit
end Go.Proofs.YthalkdcpfiobkaaW.PrintWords
namespace Go.Proofs.YthalkdcpfiobkaaW.PrintLast
section
variable {ops : Array Oper} {a : Act} {o og : Oper} {g : Nat} {t : Tmp} {u : Bool}
end
end Go.Proofs.YthalkdcpfiobkaaW.PrintLast
