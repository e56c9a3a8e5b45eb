/- A print's words, of which this session's program trim.py left out what this claim does not name. -/
import Derived.Test.YtiggokojffejeaaWWords
import Derived.Laws.StructEq
/-! ### 53. '==' of structs as_ one Bool -/
namespace Go.Proofs.YtiggokojffejeaaW.PrintWords
open Go.RowKit
section
variable {P : Program} {d : Nat} {xs ys : Array Value} {f : Field} {fs : List Field} {a b : Value} {r s : Bool} {w : World}
end
end Go.Proofs.YtiggokojffejeaaW.PrintWords
