/- The pure statement of the law FnExactSameState, as this session's program writes it: for every input that can be read; no condition. -/
import Derived.Test.YtfhklbbpfofhpaaPFnExactSameStatex5
namespace Go.Proofs.Ytfhklbbpfofhpaa.Pure
open Go.RowKit Go.Proofs.Ytfhklbbpfofhpaa.PFnExactSameState Go.Proofs.YtfhklbbpfofhpaaW.PrintWords Go.Proofs.YtfhklbbpfofhpaaW.PrintLast Go.Proofs.YtfhklbbpfofhpaaW.PrintMore
def FnExactSameStatePure : Prop := ∀ (l0_0 : List Int) (l0_1 : List Int) (a0_2 : Int) (l1_0 : List Int) (l1_1 : List Int) (a1_2 : Int), (l0_0.length ≤ maxLen ∧ ∀ x_ ∈ l0_0, (Lit.int .i64 x_).wf = true) → (l0_1.length ≤ maxLen ∧ ∀ x_ ∈ l0_1, (Lit.int .i64 x_).wf = true) → (Lit.int .i64 a0_2).wf = true → (l1_0.length ≤ maxLen ∧ ∀ x_ ∈ l1_0, (Lit.int .i64 x_).wf = true) → (l1_1.length ≤ maxLen ∧ ∀ x_ ∈ l1_1, (Lit.int .i64 x_).wf = true) → (Lit.int .i64 a1_2).wf = true → ∃ k, laws_FnExactSameState.f k l0_0 l0_1 a0_2 l1_0 l1_1 a1_2 = some true
end Go.Proofs.Ytfhklbbpfofhpaa.Pure
