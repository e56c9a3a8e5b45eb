/- A print's words, of which this session's program trim.py left out what this claim does not name. -/
import Derived.Test.YtiggokojffejeaaWInv
import Derived.Test.YtiggokojffejeaaWFootNe
namespace Go.Proofs.YtiggokojffejeaaW.PrintWords
open Go.RowKit
end Go.Proofs.YtiggokojffejeaaW.PrintWords
namespace Go.Proofs.YtiggokojffejeaaW.PrintLast
section
variable {ops : Array Oper} {a : Act} {o og : Oper} {g : Nat} {t : Tmp} {u : Bool}
end
end Go.Proofs.YtiggokojffejeaaW.PrintLast
