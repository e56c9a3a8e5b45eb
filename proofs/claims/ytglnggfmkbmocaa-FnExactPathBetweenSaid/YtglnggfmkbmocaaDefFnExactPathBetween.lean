/- The pure statement of the law FnExactPathBetween, as this session's program writes it: for every input that can be read; no condition. -/
import Derived.Test.YtglnggfmkbmocaaPFnExactPathBetweenx6
namespace Go.Proofs.Ytglnggfmkbmocaa.Pure
open Go.RowKit Go.Proofs.Ytglnggfmkbmocaa.PFnExactPathBetween Go.Proofs.YtglnggfmkbmocaaW.PrintWords Go.Proofs.YtglnggfmkbmocaaW.PrintLast Go.Proofs.YtglnggfmkbmocaaW.PrintMore
def FnExactPathBetweenPure : Prop := ∀ (l0 : List S92) (a1 : Int) (a2 : Int), (l0.length ≤ maxLen ∧ ∀ x_ ∈ l0, ((Lit.int .i64 x_.f0).wf = true ∧ (Lit.int .i64 x_.f1).wf = true)) → (Lit.int .i64 a1).wf = true → (Lit.int .i64 a2).wf = true → ∃ k, laws_FnExactPathBetween.f k l0 a1 a2 = some true
end Go.Proofs.Ytglnggfmkbmocaa.Pure
