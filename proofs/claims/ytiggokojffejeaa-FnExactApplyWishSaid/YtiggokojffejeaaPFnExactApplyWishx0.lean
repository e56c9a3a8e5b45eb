/- Written by this session's program myprint.py, which runs the kit's print.py beside texts of this session's own. No condition. -/
import Derived.Test.YtiggokojffejeaaProg
import Derived.Below
import Derived.Deep.Draws
import Derived.Deep.AppendLies
import Derived.Maps.AppendAt
import Derived.OwnWalk
import Derived.Laws.BytesArg
import Derived.Laws.MakeOwn
import Derived.Laws.OwnMore
import Derived.Deep.OwnRows
import Derived.Tactics
import Derived.Lib.ConvBytes
import Derived.Laws.Slices
import Derived.WalkKit
import Derived.KernelRfl
import Derived.RowKit3
import Derived.Deep.LoopGhost
import Derived.Deep.QuietTactic
import Derived.BigQuiet
import Derived.WideLaws
import Derived.Deep.DeepCutAuto
import Derived.Deep.CutBlock
import Derived.Deep.RegionHeld3
import Derived.Laws.Rows
import Derived.Lib.AppendStr
import Derived.ArgAppend
import Derived.Laws.IdiomCopy
import Derived.OrdersHeld
import Derived.Laws.BitsLemmas
import Derived.RowKit
import Derived.Shelf.Abstract
import Derived.Lib.SliceRun
import Derived.Test.YtiggokojffejeaaOv
import Derived.Test.YtiggokojffejeaaSq
import Derived.Test.YtiggokojffejeaaWWords
import Derived.Test.YtiggokojffejeaaWLast
import Derived.Test.YtiggokojffejeaaWTab
import Derived.Test.YtiggokojffejeaaWFour
import Derived.Test.YtiggokojffejeaaWQPut
import Derived.Test.YtiggokojffejeaaWApart
import Derived.Test.YtiggokojffejeaaWArr
import Derived.Test.YtiggokojffejeaaWZeros
import Derived.Test.YtiggokojffejeaaWFoot
import Derived.Test.YtiggokojffejeaaWKept
import Derived.Test.YtiggokojffejeaaWShare
import Derived.Test.YtiggokojffejeaaWN
import Derived.Test.YtiggokojffejeaaWFootNe
import Derived.Test.YtiggokojffejeaaWAt
import Derived.Test.YtiggokojffejeaaWEqStruct
import Derived.Test.YtiggokojffejeaaWRepsOne
import Derived.Test.YtiggokojffejeaaWInv
import Derived.Test.YtiggokojffejeaaWInvWords
import Derived.Test.YtiggokojffejeaaWGuard
import Derived.Test.YtiggokojffejeaaWNEv
import Derived.Test.YtiggokojffejeaaWMore
namespace Go.Proofs.Ytiggokojffejeaa.PFnExactApplyWish
open Go.RowKit Go.Proofs.YtiggokojffejeaaW.PrintWords Go.Proofs.YtiggokojffejeaaW.PrintLast Go.Proofs.YtiggokojffejeaaW.PrintMore
attribute [local go_sem] max2_int min2_int max_two min_two max_three min_three max_four min_four   -- for this text's walks alone
set_option linter.unusedVariables false
set_option linter.unusedSimpArgs false



def errW : Option Int → Value
  | none => .nilIface
  | some c => .iface 0 (.int .i64 c)
theorem errW_none : errW none = .nilIface := rfl
theorem errW_some (c : Int) : errW (some c) = .iface 0 (.int .i64 c) := rfl

theorem info3 : (Try.prog.info? 3).map (fun i => (i.zero, i.size, i.bytes)) = some (some (.int .i64 0), 1, 8) := by kernel_rfl
-- the values' own types

end Go.Proofs.Ytiggokojffejeaa.PFnExactApplyWish
