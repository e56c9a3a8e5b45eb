/- The pure statement of the law FnExactNewNode, as this session's program writes it: for every input that can be read; no condition. -/
import Derived.Test.YtgnhdomnlaijpaaPFnExactNewNodex4
namespace Go.Proofs.Ytgnhdomnlaijpaa.Pure
open Go.RowKit Go.Proofs.Ytgnhdomnlaijpaa.PFnExactNewNode Go.Proofs.YtgnhdomnlaijpaaW.PrintWords Go.Proofs.YtgnhdomnlaijpaaW.PrintLast Go.Proofs.YtgnhdomnlaijpaaW.PrintMore
def FnExactNewNodePure : Prop := ∀ (l0 : List Int), (l0.length ≤ maxLen ∧ ∀ x_ ∈ l0, (Lit.int .i64 x_).wf = true) → ∃ k, laws_FnExactNewNode.f k l0 = some true
end Go.Proofs.Ytgnhdomnlaijpaa.Pure
