/- Written by this session's program myprint.py, which runs the kit's print.py beside texts of this session's own. No condition. -/
import Derived.Test.YtgnhdomnlaijpaaProg
import Derived.Below
import Derived.Deep.Draws
import Derived.Deep.AppendLies
import Derived.Maps.AppendAt
import Derived.OwnWalk
import Derived.Laws.BytesArg
import Derived.Laws.MakeOwn
import Derived.Laws.OwnMore
import Derived.Deep.OwnRows
import Derived.Tactics
import Derived.Lib.ConvBytes
import Derived.Laws.Slices
import Derived.WalkKit
import Derived.KernelRfl
import Derived.RowKit3
import Derived.Deep.LoopGhost
import Derived.Deep.QuietTactic
import Derived.BigQuiet
import Derived.WideLaws
import Derived.Deep.DeepCutAuto
import Derived.Deep.CutBlock
import Derived.Deep.RegionHeld3
import Derived.Laws.Rows
import Derived.Lib.AppendStr
import Derived.ArgAppend
import Derived.Laws.IdiomCopy
import Derived.OrdersHeld
import Derived.Laws.BitsLemmas
import Derived.RowKit
import Derived.Shelf.Abstract
import Derived.Lib.SliceRun
import Derived.Test.YtgnhdomnlaijpaaOv
import Derived.Test.YtgnhdomnlaijpaaWWords
import Derived.Test.YtgnhdomnlaijpaaWLast
import Derived.Test.YtgnhdomnlaijpaaWTab
import Derived.Test.YtgnhdomnlaijpaaWFour
import Derived.Test.YtgnhdomnlaijpaaWQPut
import Derived.Test.YtgnhdomnlaijpaaWApart
import Derived.Test.YtgnhdomnlaijpaaWArr
import Derived.Test.YtgnhdomnlaijpaaWZeros
import Derived.Test.YtgnhdomnlaijpaaWFoot
import Derived.Test.YtgnhdomnlaijpaaWKept
import Derived.Test.YtgnhdomnlaijpaaWShare
import Derived.Test.YtgnhdomnlaijpaaWN
import Derived.Test.YtgnhdomnlaijpaaWFootNe
import Derived.Test.YtgnhdomnlaijpaaWAt
import Derived.Test.YtgnhdomnlaijpaaWEqStruct
import Derived.Test.YtgnhdomnlaijpaaWRepsOne
import Derived.Test.YtgnhdomnlaijpaaWInv
import Derived.Test.YtgnhdomnlaijpaaWInvWords
import Derived.Test.YtgnhdomnlaijpaaWGuard
import Derived.Test.YtgnhdomnlaijpaaWNEv
import Derived.Test.YtgnhdomnlaijpaaWMore
namespace Go.Proofs.Ytgnhdomnlaijpaa.PFnExactPricesOf
open Go.RowKit Go.Proofs.YtgnhdomnlaijpaaW.PrintWords Go.Proofs.YtgnhdomnlaijpaaW.PrintLast Go.Proofs.YtgnhdomnlaijpaaW.PrintMore
attribute [local go_sem] max2_int min2_int max_two min_two max_three min_three max_four min_four   -- for this text's walks alone
set_option linter.unusedVariables false
set_option linter.unusedSimpArgs false



def errW : Option Int → Value
  | none => .nilIface
  | some c => .iface 0 (.int .i64 c)
theorem errW_none : errW none = .nilIface := rfl
theorem errW_some (c : Int) : errW (some c) = .iface 0 (.int .i64 c) := rfl

theorem info3 : (Try.prog.info? 3).map (fun i => (i.zero, i.size, i.bytes)) = some (some (.int .i64 0), 1, 8) := by kernel_rfl
-- the values' own types

end Go.Proofs.Ytgnhdomnlaijpaa.PFnExactPricesOf
