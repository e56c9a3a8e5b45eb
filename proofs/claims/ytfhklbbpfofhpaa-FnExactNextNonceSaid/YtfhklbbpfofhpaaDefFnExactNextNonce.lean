/- The pure statement of the law FnExactNextNonce, as this session's program writes it: for every input that can be read; no condition. -/
import Derived.Test.YtfhklbbpfofhpaaPFnExactNextNoncex4
namespace Go.Proofs.Ytfhklbbpfofhpaa.Pure
open Go.RowKit Go.Proofs.Ytfhklbbpfofhpaa.PFnExactNextNonce Go.Proofs.YtfhklbbpfofhpaaW.PrintWords Go.Proofs.YtfhklbbpfofhpaaW.PrintLast Go.Proofs.YtfhklbbpfofhpaaW.PrintMore
def FnExactNextNoncePure : Prop := ∀ (l0_0 : List Int) (l0_1 : List Int) (a0_2 : Int) (a1 : Int), (l0_0.length ≤ maxLen ∧ ∀ x_ ∈ l0_0, (Lit.int .i64 x_).wf = true) → (l0_1.length ≤ maxLen ∧ ∀ x_ ∈ l0_1, (Lit.int .i64 x_).wf = true) → (Lit.int .i64 a0_2).wf = true → (Lit.int .i64 a1).wf = true → ∃ k, laws_FnExactNextNonce.f k l0_0 l0_1 a0_2 a1 = some true
end Go.Proofs.Ytfhklbbpfofhpaa.Pure
