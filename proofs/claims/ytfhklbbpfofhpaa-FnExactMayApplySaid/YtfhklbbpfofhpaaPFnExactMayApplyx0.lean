/- Written by this session's program myprint.py, which runs the kit's print.py beside texts of this session's own. No condition. -/
import Derived.Test.YtfhklbbpfofhpaaProg
import Derived.Below
import Derived.Deep.Draws
import Derived.Deep.AppendLies
import Derived.Maps.AppendAt
import Derived.OwnWalk
import Derived.Laws.BytesArg
import Derived.Laws.MakeOwn
import Derived.Laws.OwnMore
import Derived.Deep.OwnRows
import Derived.Tactics
import Derived.Lib.ConvBytes
import Derived.Laws.Slices
import Derived.WalkKit
import Derived.KernelRfl
import Derived.RowKit3
import Derived.Deep.LoopGhost
import Derived.Deep.QuietTactic
import Derived.BigQuiet
import Derived.WideLaws
import Derived.Deep.DeepCutAuto
import Derived.Deep.CutBlock
import Derived.Deep.RegionHeld3
import Derived.Laws.Rows
import Derived.Lib.AppendStr
import Derived.ArgAppend
import Derived.Laws.IdiomCopy
import Derived.OrdersHeld
import Derived.Laws.BitsLemmas
import Derived.RowKit
import Derived.Shelf.Abstract
import Derived.Lib.SliceRun
import Derived.Test.YtfhklbbpfofhpaaOv
import Derived.Test.YtfhklbbpfofhpaaWWords
import Derived.Test.YtfhklbbpfofhpaaWLast
import Derived.Test.YtfhklbbpfofhpaaWTab
import Derived.Test.YtfhklbbpfofhpaaWFour
import Derived.Test.YtfhklbbpfofhpaaWQPut
import Derived.Test.YtfhklbbpfofhpaaWApart
import Derived.Test.YtfhklbbpfofhpaaWArr
import Derived.Test.YtfhklbbpfofhpaaWZeros
import Derived.Test.YtfhklbbpfofhpaaWFoot
import Derived.Test.YtfhklbbpfofhpaaWKept
import Derived.Test.YtfhklbbpfofhpaaWShare
import Derived.Test.YtfhklbbpfofhpaaWN
import Derived.Test.YtfhklbbpfofhpaaWFootNe
import Derived.Test.YtfhklbbpfofhpaaWAt
import Derived.Test.YtfhklbbpfofhpaaWEqStruct
import Derived.Test.YtfhklbbpfofhpaaWRepsOne
import Derived.Test.YtfhklbbpfofhpaaWInv
import Derived.Test.YtfhklbbpfofhpaaWInvWords
import Derived.Test.YtfhklbbpfofhpaaWGuard
import Derived.Test.YtfhklbbpfofhpaaWNEv
import Derived.Test.YtfhklbbpfofhpaaWMore
namespace Go.Proofs.Ytfhklbbpfofhpaa.PFnExactMayApply
open Go.RowKit Go.Proofs.YtfhklbbpfofhpaaW.PrintWords Go.Proofs.YtfhklbbpfofhpaaW.PrintLast Go.Proofs.YtfhklbbpfofhpaaW.PrintMore
attribute [local go_sem] max2_int min2_int max_two min_two max_three min_three max_four min_four   -- for this text's walks alone
set_option linter.unusedVariables false
set_option linter.unusedSimpArgs false



def errW : Option Int → Value
  | none => .nilIface
  | some c => .iface 0 (.int .i64 c)
theorem errW_none : errW none = .nilIface := rfl
theorem errW_some (c : Int) : errW (some c) = .iface 0 (.int .i64 c) := rfl

theorem info3 : (Try.prog.info? 3).map (fun i => (i.zero, i.size, i.bytes)) = some (some (.int .i64 0), 1, 8) := by kernel_rfl
-- the values' own types

end Go.Proofs.Ytfhklbbpfofhpaa.PFnExactMayApply
