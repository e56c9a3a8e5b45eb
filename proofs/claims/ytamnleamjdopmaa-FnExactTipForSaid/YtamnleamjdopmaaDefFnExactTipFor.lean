/- The pure statement of the law FnExactTipFor, as this session's program writes it: for every input that can be read; no condition. -/
import Derived.Test.YtamnleamjdopmaaPFnExactTipForx1
namespace Go.Proofs.Ytamnleamjdopmaa.Pure
open Go.RowKit Go.Proofs.Ytamnleamjdopmaa.PFnExactTipFor Go.Proofs.YtamnleamjdopmaaW.PrintWords Go.Proofs.YtamnleamjdopmaaW.PrintLast Go.Proofs.YtamnleamjdopmaaW.PrintMore
def FnExactTipForPure : Prop := ∀ (a0_0 : Int) (a0_1 : Int) (a0_2 : Int) (a0_3 : Int) (a0_4 : Int) (a0_5 : Int) (a0_6 : Int) (a1 : Int), (Lit.int .i64 a0_0).wf = true → (Lit.int .i64 a0_1).wf = true → (Lit.int .i64 a0_2).wf = true → (Lit.int .i64 a0_3).wf = true → (Lit.int .i64 a0_4).wf = true → (Lit.int .i64 a0_5).wf = true → (Lit.int .i64 a0_6).wf = true → (Lit.int .i64 a1).wf = true → laws_FnExactTipFor.f a0_0 a0_1 a0_2 a0_3 a0_4 a0_5 a0_6 a1 = some true
end Go.Proofs.Ytamnleamjdopmaa.Pure
