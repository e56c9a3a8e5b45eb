/- The pure statement of the law FnExactPricesOf, as this session's program writes it: for every input that can be read; no condition. -/
import Derived.Test.YtgnhdomnlaijpaaPFnExactPricesOfx3
namespace Go.Proofs.Ytgnhdomnlaijpaa.Pure
open Go.RowKit Go.Proofs.Ytgnhdomnlaijpaa.PFnExactPricesOf Go.Proofs.YtgnhdomnlaijpaaW.PrintWords Go.Proofs.YtgnhdomnlaijpaaW.PrintLast Go.Proofs.YtgnhdomnlaijpaaW.PrintMore
def FnExactPricesOfPure : Prop := ∀ (a0 : Int) (l1 : List Int), (Lit.int .i64 a0).wf = true → (l1.length ≤ maxLen ∧ ∀ x_ ∈ l1, (Lit.int .i64 x_).wf = true) → ∃ k, laws_FnExactPricesOf.f k a0 l1 = some true
end Go.Proofs.Ytgnhdomnlaijpaa.Pure
