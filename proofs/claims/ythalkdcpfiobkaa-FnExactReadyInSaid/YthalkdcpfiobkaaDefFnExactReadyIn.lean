/- The pure statement of the law FnExactReadyIn, as this session's program writes it: for every input that can be read; no condition. -/
import Derived.Test.YthalkdcpfiobkaaPFnExactReadyInx9
namespace Go.Proofs.Ythalkdcpfiobkaa.Pure
open Go.RowKit Go.Proofs.Ythalkdcpfiobkaa.PFnExactReadyIn Go.Proofs.YthalkdcpfiobkaaW.PrintWords Go.Proofs.YthalkdcpfiobkaaW.PrintLast Go.Proofs.YthalkdcpfiobkaaW.PrintMore
def FnExactReadyInPure : Prop := ∀ (l0_0 : List Int) (l0_1 : List Int) (a0_2 : Int) (l1 : List S46) (a2 : Int), (l0_0.length ≤ maxLen ∧ ∀ x_ ∈ l0_0, (Lit.int .i64 x_).wf = true) → (l0_1.length ≤ maxLen ∧ ∀ x_ ∈ l0_1, (Lit.int .i64 x_).wf = true) → (Lit.int .i64 a0_2).wf = true → (l1.length ≤ maxLen ∧ ∀ x_ ∈ l1, ((Lit.int .i64 x_.f0).wf = true ∧ (Lit.int .i64 x_.f1).wf = true ∧ (Lit.int .i64 x_.f2).wf = true ∧ (Lit.int .i64 x_.f3).wf = true ∧ (Lit.int .i64 x_.f4).wf = true ∧ (Lit.int .i64 x_.f5).wf = true ∧ (Lit.int .i64 x_.f6).wf = true)) → (Lit.int .i64 a2).wf = true → ∃ k, laws_FnExactReadyIn.f k l0_0 l0_1 a0_2 l1 a2 = some true
end Go.Proofs.Ythalkdcpfiobkaa.Pure
