/- The pure statement of the law FnPrices, as this session's program writes it: for every input that can be read; no condition. -/
import Derived.Test.YtglnggfmkbmocaaPFnPricesx4
namespace Go.Proofs.Ytglnggfmkbmocaa.Pure
open Go.RowKit Go.Proofs.Ytglnggfmkbmocaa.PFnPrices Go.Proofs.YtglnggfmkbmocaaW.PrintWords Go.Proofs.YtglnggfmkbmocaaW.PrintLast Go.Proofs.YtglnggfmkbmocaaW.PrintMore
def FnPricesPure : Prop := ∀ (l0 : List Int) (l1 : List Int), (l0.length ≤ maxLen ∧ ∀ x_ ∈ l0, (Lit.int .u8 x_).wf = true) → (l1.length ≤ maxLen ∧ ∀ x_ ∈ l1, (Lit.int .u8 x_).wf = true) → ∃ k, laws_FnPrices.f k l0 l1 = some true
end Go.Proofs.Ytglnggfmkbmocaa.Pure
