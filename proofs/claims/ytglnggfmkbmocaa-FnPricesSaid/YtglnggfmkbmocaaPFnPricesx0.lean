/- Written by this session's program myprint.py, which runs the kit's print.py beside texts of this session's own. No condition. -/
import Derived.Test.YtglnggfmkbmocaaProg
import Derived.Below
import Derived.Deep.Draws
import Derived.Deep.AppendLies
import Derived.Maps.AppendAt
import Derived.OwnWalk
import Derived.Laws.BytesArg
import Derived.Laws.MakeOwn
import Derived.Laws.OwnMore
import Derived.Deep.OwnRows
import Derived.Tactics
import Derived.Lib.ConvBytes
import Derived.Laws.Slices
import Derived.WalkKit
import Derived.KernelRfl
import Derived.RowKit3
import Derived.Deep.LoopGhost
import Derived.Deep.QuietTactic
import Derived.BigQuiet
import Derived.WideLaws
import Derived.Deep.DeepCutAuto
import Derived.Deep.CutBlock
import Derived.Deep.RegionHeld3
import Derived.Laws.Rows
import Derived.Lib.AppendStr
import Derived.ArgAppend
import Derived.Laws.IdiomCopy
import Derived.OrdersHeld
import Derived.Laws.BitsLemmas
import Derived.RowKit
import Derived.Shelf.Abstract
import Derived.Lib.SliceRun
import Derived.Test.YtglnggfmkbmocaaOv
import Derived.Test.YtglnggfmkbmocaaWWords
import Derived.Test.YtglnggfmkbmocaaWLast
import Derived.Test.YtglnggfmkbmocaaWTab
import Derived.Test.YtglnggfmkbmocaaWFour
import Derived.Test.YtglnggfmkbmocaaWQPut
import Derived.Test.YtglnggfmkbmocaaWApart
import Derived.Test.YtglnggfmkbmocaaWArr
import Derived.Test.YtglnggfmkbmocaaWZeros
import Derived.Test.YtglnggfmkbmocaaWFoot
import Derived.Test.YtglnggfmkbmocaaWKept
import Derived.Test.YtglnggfmkbmocaaWShare
import Derived.Test.YtglnggfmkbmocaaWN
import Derived.Test.YtglnggfmkbmocaaWFootNe
import Derived.Test.YtglnggfmkbmocaaWAt
import Derived.Test.YtglnggfmkbmocaaWEqStruct
import Derived.Test.YtglnggfmkbmocaaWRepsOne
import Derived.Test.YtglnggfmkbmocaaWInv
import Derived.Test.YtglnggfmkbmocaaWInvWords
import Derived.Test.YtglnggfmkbmocaaWGuard
import Derived.Test.YtglnggfmkbmocaaWNEv
import Derived.Test.YtglnggfmkbmocaaWMore
namespace Go.Proofs.Ytglnggfmkbmocaa.PFnPrices
open Go.RowKit Go.Proofs.YtglnggfmkbmocaaW.PrintWords Go.Proofs.YtglnggfmkbmocaaW.PrintLast Go.Proofs.YtglnggfmkbmocaaW.PrintMore
attribute [local go_sem] max2_int min2_int max_two min_two max_three min_three max_four min_four   -- for this text's walks alone
set_option linter.unusedVariables false
set_option linter.unusedSimpArgs false



def errW : Option Int → Value
  | none => .nilIface
  | some c => .iface 0 (.int .i64 c)
theorem errW_none : errW none = .nilIface := rfl
theorem errW_some (c : Int) : errW (some c) = .iface 0 (.int .i64 c) := rfl

theorem info3 : (Try.prog.info? 3).map (fun i => (i.zero, i.size, i.bytes)) = some (some (.int .i64 0), 1, 8) := by kernel_rfl
-- the values' own types

end Go.Proofs.Ytglnggfmkbmocaa.PFnPrices
