/-
  No cell of these rows narrows 'for every input' (looked for: loops, veiled, ifaces, maps, wideKeys, modest, calm, conditions, laid).
  DERIVED. THE GIVEN ROWS OF THIS SEAT. 7 by the template 'for every input the law returns true; each argument reads behind the call as it read before'; 0 by the template 'total and deterministic' (their statements: YtgnhdomnlaijpaaTotals.lean).
  GIVEN WITH THE SEED: the statements are not yours to turn. If you find one false, say at which input.
  Laid BY PROGRAM, IN A SANDBOX (cutbox-rows.mjs): the forced cells as the released guide's own fill.sh prints them over the translation 688ef90999720466… (all of the seat's roots in one cut). By AI agents, Wed Nov 11 2026. No macro, syntax, notation, axiom, sorry.
-/
import Derived.Test.YtgnhdomnlaijpaaChecked
import GoSem.Claim
import GoSem.ClaimJoined
import GoSem.ClaimMapViews
import Derived.JoinedTies
import Derived.KernelRfl
namespace Go.Proofs.Ytgnhdomnlaijpaa
/- THE CELL 'sum', in the pinned program and in every row, IS THE sha256 OF THE DUMP (.gsa) THAT YtgnhdomnlaijpaaProg.lean LOADS. Nothing in Lean hashes anything: it is a label: what it is worth is what the hold of that sum in a sandbox is worth. -/
noncomputable def Try.pinned : Pinned := { name := "ytgnhdomnlaijpaa", sum := "688ef90999720466f2b238bf542d1744a09bf7bec796fd95f52dee305f086740", checked := Try.checked }
namespace Rows
def none {H : Type} : Left H := { results := [], args := [] }

/-- 'laws.FnExactBurnedIn': WHATEVER THE INPUT: true; the input reads as it did. -/
def fnExactBurnedInSpec : ChangeSpec := { name := "fnExactBurnedIn", fn := fun _ => fun
  | [d1, d2] => { results := [.lit (.bool true)], args := [d1, d2] }
  | _ => none }
def fnExactBurnedInRow : OpenClaim := { program := "ytgnhdomnlaijpaa", sum := "688ef90999720466f2b238bf542d1744a09bf7bec796fd95f52dee305f086740", func := "loop.example/g00564/laws.FnExactBurnedIn", spec := "fnExactBurnedIn", unfollowed := true, recurses := true, apart := false }
def FnExactBurnedInSaid : Prop := fnExactBurnedInRow.holds Try.pinned (OpenSpec.ofChange fnExactBurnedInSpec)

/-- ITS FALSE NEIGHBOUR: 'it returns false'. Refute it at one input. -/
def fnExactBurnedInWrong : ChangeSpec := { name := "fnExactBurnedIn", fn := fun _ => fun
  | [d1, d2] => { results := [.lit (.bool false)], args := [d1, d2] }
  | _ => none }
def FnExactBurnedInWrongFalsely : Prop := fnExactBurnedInRow.holds Try.pinned (OpenSpec.ofChange fnExactBurnedInWrong)

/-- 'laws.FnExactPricesOf': WHATEVER THE INPUT: true; the input reads as it did. -/
def fnExactPricesOfSpec : ChangeSpec := { name := "fnExactPricesOf", fn := fun _ => fun
  | [d1, d2] => { results := [.lit (.bool true)], args := [d1, d2] }
  | _ => none }
def fnExactPricesOfRow : OpenClaim := { program := "ytgnhdomnlaijpaa", sum := "688ef90999720466f2b238bf542d1744a09bf7bec796fd95f52dee305f086740", func := "loop.example/g00564/laws.FnExactPricesOf", spec := "fnExactPricesOf", unfollowed := true, recurses := true, apart := false }
def FnExactPricesOfSaid : Prop := fnExactPricesOfRow.holds Try.pinned (OpenSpec.ofChange fnExactPricesOfSpec)

/-- ITS FALSE NEIGHBOUR: 'it returns false'. Refute it at one input. -/
def fnExactPricesOfWrong : ChangeSpec := { name := "fnExactPricesOf", fn := fun _ => fun
  | [d1, d2] => { results := [.lit (.bool false)], args := [d1, d2] }
  | _ => none }
def FnExactPricesOfWrongFalsely : Prop := fnExactPricesOfRow.holds Try.pinned (OpenSpec.ofChange fnExactPricesOfWrong)

/-- 'laws.FnExactNewNode': WHATEVER THE INPUT: true; the input reads as it did. -/
def fnExactNewNodeSpec : ChangeSpec := { name := "fnExactNewNode", fn := fun _ => fun
  | [d] => { results := [.lit (.bool true)], args := [d] }
  | _ => none }
def fnExactNewNodeRow : OpenClaim := { program := "ytgnhdomnlaijpaa", sum := "688ef90999720466f2b238bf542d1744a09bf7bec796fd95f52dee305f086740", func := "loop.example/g00564/laws.FnExactNewNode", spec := "fnExactNewNode", unfollowed := true, recurses := true, apart := false }
def FnExactNewNodeSaid : Prop := fnExactNewNodeRow.holds Try.pinned (OpenSpec.ofChange fnExactNewNodeSpec)

/-- ITS FALSE NEIGHBOUR: 'it returns false'. Refute it at one input. -/
def fnExactNewNodeWrong : ChangeSpec := { name := "fnExactNewNode", fn := fun _ => fun
  | [d] => { results := [.lit (.bool false)], args := [d] }
  | _ => none }
def FnExactNewNodeWrongFalsely : Prop := fnExactNewNodeRow.holds Try.pinned (OpenSpec.ofChange fnExactNewNodeWrong)

/-- 'laws.FnExactGoodNode': WHATEVER THE INPUT: true; the input reads as it did. -/
def fnExactGoodNodeSpec : ChangeSpec := { name := "fnExactGoodNode", fn := fun _ => fun
  | [d] => { results := [.lit (.bool true)], args := [d] }
  | _ => none }
def fnExactGoodNodeRow : OpenClaim := { program := "ytgnhdomnlaijpaa", sum := "688ef90999720466f2b238bf542d1744a09bf7bec796fd95f52dee305f086740", func := "loop.example/g00564/laws.FnExactGoodNode", spec := "fnExactGoodNode", unfollowed := true, recurses := true, apart := false }
def FnExactGoodNodeSaid : Prop := fnExactGoodNodeRow.holds Try.pinned (OpenSpec.ofChange fnExactGoodNodeSpec)

/-- ITS FALSE NEIGHBOUR: 'it returns false'. Refute it at one input. -/
def fnExactGoodNodeWrong : ChangeSpec := { name := "fnExactGoodNode", fn := fun _ => fun
  | [d] => { results := [.lit (.bool false)], args := [d] }
  | _ => none }
def FnExactGoodNodeWrongFalsely : Prop := fnExactGoodNodeRow.holds Try.pinned (OpenSpec.ofChange fnExactGoodNodeWrong)

/-- 'laws.FnExactTreeOf': WHATEVER THE INPUT: true; the input reads as it did. -/
def fnExactTreeOfSpec : ChangeSpec := { name := "fnExactTreeOf", fn := fun _ => fun
  | [d] => { results := [.lit (.bool true)], args := [d] }
  | _ => none }
def fnExactTreeOfRow : OpenClaim := { program := "ytgnhdomnlaijpaa", sum := "688ef90999720466f2b238bf542d1744a09bf7bec796fd95f52dee305f086740", func := "loop.example/g00564/laws.FnExactTreeOf", spec := "fnExactTreeOf", unfollowed := true, recurses := true, apart := false }
def FnExactTreeOfSaid : Prop := fnExactTreeOfRow.holds Try.pinned (OpenSpec.ofChange fnExactTreeOfSpec)

/-- ITS FALSE NEIGHBOUR: 'it returns false'. Refute it at one input. -/
def fnExactTreeOfWrong : ChangeSpec := { name := "fnExactTreeOf", fn := fun _ => fun
  | [d] => { results := [.lit (.bool false)], args := [d] }
  | _ => none }
def FnExactTreeOfWrongFalsely : Prop := fnExactTreeOfRow.holds Try.pinned (OpenSpec.ofChange fnExactTreeOfWrong)

/-- 'laws.FnExactPlayNode': WHATEVER THE INPUT: true; the input reads as it did. -/
def fnExactPlayNodeSpec : ChangeSpec := { name := "fnExactPlayNode", fn := fun _ => fun
  | [d1, d2] => { results := [.lit (.bool true)], args := [d1, d2] }
  | _ => none }
def fnExactPlayNodeRow : OpenClaim := { program := "ytgnhdomnlaijpaa", sum := "688ef90999720466f2b238bf542d1744a09bf7bec796fd95f52dee305f086740", func := "loop.example/g00564/laws.FnExactPlayNode", spec := "fnExactPlayNode", inPlace := ["slices.overlaps[loop.example/g00564/impl.News]"], unfollowed := true, recurses := true, apart := false }
def FnExactPlayNodeSaid : Prop := fnExactPlayNodeRow.holds Try.pinned (OpenSpec.ofChange fnExactPlayNodeSpec)

/-- ITS FALSE NEIGHBOUR: 'it returns false'. Refute it at one input. -/
def fnExactPlayNodeWrong : ChangeSpec := { name := "fnExactPlayNode", fn := fun _ => fun
  | [d1, d2] => { results := [.lit (.bool false)], args := [d1, d2] }
  | _ => none }
def FnExactPlayNodeWrongFalsely : Prop := fnExactPlayNodeRow.holds Try.pinned (OpenSpec.ofChange fnExactPlayNodeWrong)

/-- 'laws.FnExactHearNews': WHATEVER THE INPUT: true; the input reads as it did. -/
def fnExactHearNewsSpec : ChangeSpec := { name := "fnExactHearNews", fn := fun _ => fun
  | [d1, d2] => { results := [.lit (.bool true)], args := [d1, d2] }
  | _ => none }
def fnExactHearNewsRow : OpenClaim := { program := "ytgnhdomnlaijpaa", sum := "688ef90999720466f2b238bf542d1744a09bf7bec796fd95f52dee305f086740", func := "loop.example/g00564/laws.FnExactHearNews", spec := "fnExactHearNews", inPlace := ["slices.overlaps[loop.example/g00564/impl.News]"], unfollowed := true, recurses := true, apart := false }
def FnExactHearNewsSaid : Prop := fnExactHearNewsRow.holds Try.pinned (OpenSpec.ofChange fnExactHearNewsSpec)

/-- ITS FALSE NEIGHBOUR: 'it returns false'. Refute it at one input. -/
def fnExactHearNewsWrong : ChangeSpec := { name := "fnExactHearNews", fn := fun _ => fun
  | [d1, d2] => { results := [.lit (.bool false)], args := [d1, d2] }
  | _ => none }
def FnExactHearNewsWrongFalsely : Prop := fnExactHearNewsRow.holds Try.pinned (OpenSpec.ofChange fnExactHearNewsWrong)

/- THE SECOND FORM. 'bulk': how many values and letters a reading holds, each counted each time it is reached (what is shared counts as often as it is met; a slice's spare places count too). A statement '..UptoSaid' is the law's where the arguments, and the package variables that the reading takes, are together of bulk at most 1048576: NARROWER than '..Said'. Prove '..Said' where nothing that the law and all that it calls make is longer than what came in: it says more and counts as full. Else prove '..UptoSaid'. A law counts once. -/
mutual
def uptoBulk {H : Type} : DataW H → Nat
  | .lit (.string bytes) => bytes.length + 1
  | .lit _ => 1
  | .nil => 1
  | .ptr d => uptoBulk d + 1
  | .slice elems spare => uptoBulkAll elems + uptoBulkAll spare + 1
  | .agg parts => uptoBulkAll parts + 1
  | .iface _ d => uptoBulk d + 1
  | .map entries => uptoBulkEntries entries + 1
  | .held _ => 1
def uptoBulkAll {H : Type} : List (DataW H) → Nat
  | [] => 0
  | d :: r => uptoBulk d + uptoBulkAll r
def uptoBulkEntries {H : Type} : List (Lit × DataW H) → Nat
  | [] => 0
  | x :: r => uptoBulkEntry x + uptoBulkEntries r
def uptoBulkEntry {H : Type} : Lit × DataW H → Nat
  | (.string bytes, d) => bytes.length + uptoBulk d + 1
  | (_, d) => uptoBulk d + 1
 end
def uptoSmall : (H : Type) → List (DataW H) → Bool := fun _ ds => decide (uptoBulkAll ds ≤ 1048576)
def OpenSpec.upto (s : _root_.Go.ChangeSpec) : _root_.Go.OpenSpec := { _root_.Go.OpenSpec.ofChange s with cond := some uptoSmall }

/-- 'laws.FnExactBurnedIn', WHERE WHAT IT READS IS OF BULK AT MOST 1048576: true; the input reads as it did. -/
def fnExactBurnedInUptoRow : OpenClaim := { program := "ytgnhdomnlaijpaa", sum := "688ef90999720466f2b238bf542d1744a09bf7bec796fd95f52dee305f086740", func := "loop.example/g00564/laws.FnExactBurnedIn", spec := "fnExactBurnedIn", unfollowed := true, recurses := true, apart := false, narrowed := true }
def FnExactBurnedInUptoSaid : Prop := fnExactBurnedInUptoRow.holds Try.pinned (OpenSpec.upto fnExactBurnedInSpec)

/-- 'laws.FnExactPricesOf', WHERE WHAT IT READS IS OF BULK AT MOST 1048576: true; the input reads as it did. -/
def fnExactPricesOfUptoRow : OpenClaim := { program := "ytgnhdomnlaijpaa", sum := "688ef90999720466f2b238bf542d1744a09bf7bec796fd95f52dee305f086740", func := "loop.example/g00564/laws.FnExactPricesOf", spec := "fnExactPricesOf", unfollowed := true, recurses := true, apart := false, narrowed := true }
def FnExactPricesOfUptoSaid : Prop := fnExactPricesOfUptoRow.holds Try.pinned (OpenSpec.upto fnExactPricesOfSpec)

/-- 'laws.FnExactNewNode', WHERE WHAT IT READS IS OF BULK AT MOST 1048576: true; the input reads as it did. -/
def fnExactNewNodeUptoRow : OpenClaim := { program := "ytgnhdomnlaijpaa", sum := "688ef90999720466f2b238bf542d1744a09bf7bec796fd95f52dee305f086740", func := "loop.example/g00564/laws.FnExactNewNode", spec := "fnExactNewNode", unfollowed := true, recurses := true, apart := false, narrowed := true }
def FnExactNewNodeUptoSaid : Prop := fnExactNewNodeUptoRow.holds Try.pinned (OpenSpec.upto fnExactNewNodeSpec)

/-- 'laws.FnExactGoodNode', WHERE WHAT IT READS IS OF BULK AT MOST 1048576: true; the input reads as it did. -/
def fnExactGoodNodeUptoRow : OpenClaim := { program := "ytgnhdomnlaijpaa", sum := "688ef90999720466f2b238bf542d1744a09bf7bec796fd95f52dee305f086740", func := "loop.example/g00564/laws.FnExactGoodNode", spec := "fnExactGoodNode", unfollowed := true, recurses := true, apart := false, narrowed := true }
def FnExactGoodNodeUptoSaid : Prop := fnExactGoodNodeUptoRow.holds Try.pinned (OpenSpec.upto fnExactGoodNodeSpec)

/-- 'laws.FnExactTreeOf', WHERE WHAT IT READS IS OF BULK AT MOST 1048576: true; the input reads as it did. -/
def fnExactTreeOfUptoRow : OpenClaim := { program := "ytgnhdomnlaijpaa", sum := "688ef90999720466f2b238bf542d1744a09bf7bec796fd95f52dee305f086740", func := "loop.example/g00564/laws.FnExactTreeOf", spec := "fnExactTreeOf", unfollowed := true, recurses := true, apart := false, narrowed := true }
def FnExactTreeOfUptoSaid : Prop := fnExactTreeOfUptoRow.holds Try.pinned (OpenSpec.upto fnExactTreeOfSpec)

/-- 'laws.FnExactPlayNode', WHERE WHAT IT READS IS OF BULK AT MOST 1048576: true; the input reads as it did. -/
def fnExactPlayNodeUptoRow : OpenClaim := { program := "ytgnhdomnlaijpaa", sum := "688ef90999720466f2b238bf542d1744a09bf7bec796fd95f52dee305f086740", func := "loop.example/g00564/laws.FnExactPlayNode", spec := "fnExactPlayNode", inPlace := ["slices.overlaps[loop.example/g00564/impl.News]"], unfollowed := true, recurses := true, apart := false, narrowed := true }
def FnExactPlayNodeUptoSaid : Prop := fnExactPlayNodeUptoRow.holds Try.pinned (OpenSpec.upto fnExactPlayNodeSpec)

/-- 'laws.FnExactHearNews', WHERE WHAT IT READS IS OF BULK AT MOST 1048576: true; the input reads as it did. -/
def fnExactHearNewsUptoRow : OpenClaim := { program := "ytgnhdomnlaijpaa", sum := "688ef90999720466f2b238bf542d1744a09bf7bec796fd95f52dee305f086740", func := "loop.example/g00564/laws.FnExactHearNews", spec := "fnExactHearNews", inPlace := ["slices.overlaps[loop.example/g00564/impl.News]"], unfollowed := true, recurses := true, apart := false, narrowed := true }
def FnExactHearNewsUptoSaid : Prop := fnExactHearNewsUptoRow.holds Try.pinned (OpenSpec.upto fnExactHearNewsSpec)

end Rows
end Go.Proofs.Ytgnhdomnlaijpaa
