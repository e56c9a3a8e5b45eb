/- The pure statement of the law FnExactSizeOf, as this session's program writes it: for every input that can be read; no condition. -/
import Derived.Test.YtfhklbbpfofhpaaPFnExactSizeOfx2
namespace Go.Proofs.Ytfhklbbpfofhpaa.Pure
open Go.RowKit Go.Proofs.Ytfhklbbpfofhpaa.PFnExactSizeOf Go.Proofs.YtfhklbbpfofhpaaW.PrintWords Go.Proofs.YtfhklbbpfofhpaaW.PrintLast Go.Proofs.YtfhklbbpfofhpaaW.PrintMore
def FnExactSizeOfPure : Prop := ∀ (l0 : List S43), (l0.length ≤ maxLen ∧ ∀ x_ ∈ l0, ((Lit.int .i64 x_.f0).wf = true ∧ (Lit.int .i64 x_.f1).wf = true ∧ (Lit.int .i64 x_.f2).wf = true ∧ (Lit.int .i64 x_.f3).wf = true ∧ (Lit.int .i64 x_.f4).wf = true ∧ (Lit.int .i64 x_.f5).wf = true ∧ (Lit.int .i64 x_.f6).wf = true)) → ∃ k, laws_FnExactSizeOf.f k l0 = some true
end Go.Proofs.Ytfhklbbpfofhpaa.Pure
