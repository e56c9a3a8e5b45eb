/- The pure statement of the law FnExactGoodNode, as this session's program writes it: for every input that can be read; no condition. -/
import Derived.Test.YtgnhdomnlaijpaaPFnExactGoodNodex7
namespace Go.Proofs.Ytgnhdomnlaijpaa.Pure
open Go.RowKit Go.Proofs.Ytgnhdomnlaijpaa.PFnExactGoodNode Go.Proofs.YtgnhdomnlaijpaaW.PrintWords Go.Proofs.YtgnhdomnlaijpaaW.PrintLast Go.Proofs.YtgnhdomnlaijpaaW.PrintMore
def FnExactGoodNodePure : Prop := ∀ (l0_0 : List Int) (l0_1 : List S62), (l0_0.length ≤ maxLen ∧ ∀ x_ ∈ l0_0, (Lit.int .i64 x_).wf = true) → (l0_1.length ≤ maxLen ∧ ∀ x_ ∈ l0_1, ((Lit.int .i64 x_.f0).wf = true ∧ (Lit.int .i64 x_.f1).wf = true ∧ (Lit.int .i64 x_.f2).wf = true ∧ (Lit.int .i64 x_.f3).wf = true ∧ (Lit.int .i64 x_.f4).wf = true ∧ (Lit.int .i64 x_.f5).wf = true)) → ∃ k, laws_FnExactGoodNode.f k l0_0 l0_1 = some true
end Go.Proofs.Ytgnhdomnlaijpaa.Pure
