/-
  No cell of these rows narrows 'for every input' (looked for: loops, veiled, ifaces, maps, wideKeys, modest, calm, conditions, laid).
  DERIVED. THE GIVEN ROWS OF THIS SEAT. 6 by the template 'for every input the law returns true; each argument reads behind the call as it read before'; 0 by the template 'total and deterministic' (their statements: YtamnleamjdopmaaTotals.lean).
  GIVEN WITH THE SEED: the statements are not yours to turn. If you find one false, say at which input.
  Laid BY PROGRAM, IN A SANDBOX (cutbox-rows.mjs): the forced cells as the released guide's own fill.sh prints them over the translation 8737c25a1dde4311… (all of the seat's roots in one cut). By AI agents, Wed Nov 11 2026. No macro, syntax, notation, axiom, sorry.
-/
import Derived.Test.YtamnleamjdopmaaChecked
import GoSem.Claim
import GoSem.ClaimJoined
import GoSem.ClaimMapViews
import Derived.JoinedTies
import Derived.KernelRfl
namespace Go.Proofs.Ytamnleamjdopmaa
/- THE CELL 'sum', in the pinned program and in every row, IS THE sha256 OF THE DUMP (.gsa) THAT YtamnleamjdopmaaProg.lean LOADS. Nothing in Lean hashes anything: it is a label: what it is worth is what the hold of that sum in a sandbox is worth. -/
noncomputable def Try.pinned : Pinned := { name := "ytamnleamjdopmaa", sum := "8737c25a1dde4311458aea56519ae3c8cb2a769d1e3ece77a5c27aca4f971316", checked := Try.checked }
namespace Rows
def none {H : Type} : Left H := { results := [], args := [] }

/-- 'laws.FnExactMayPay': WHATEVER THE INPUT: true; the input reads as it did. -/
def fnExactMayPaySpec : ChangeSpec := { name := "fnExactMayPay", fn := fun _ => fun
  | [d1, d2] => { results := [.lit (.bool true)], args := [d1, d2] }
  | _ => none }
def fnExactMayPayRow : OpenClaim := { program := "ytamnleamjdopmaa", sum := "8737c25a1dde4311458aea56519ae3c8cb2a769d1e3ece77a5c27aca4f971316", func := "loop.example/g00564/laws.FnExactMayPay", spec := "fnExactMayPay", apart := false }
def FnExactMayPaySaid : Prop := fnExactMayPayRow.holds Try.pinned (OpenSpec.ofChange fnExactMayPaySpec)

/-- ITS FALSE NEIGHBOUR: 'it returns false'. Refute it at one input. -/
def fnExactMayPayWrong : ChangeSpec := { name := "fnExactMayPay", fn := fun _ => fun
  | [d1, d2] => { results := [.lit (.bool false)], args := [d1, d2] }
  | _ => none }
def FnExactMayPayWrongFalsely : Prop := fnExactMayPayRow.holds Try.pinned (OpenSpec.ofChange fnExactMayPayWrong)

/-- 'laws.FnExactCostOf': WHATEVER THE INPUT: true; the input reads as it did. -/
def fnExactCostOfSpec : ChangeSpec := { name := "fnExactCostOf", fn := fun _ => fun
  | [d1, d2, d3, d4] => { results := [.lit (.bool true)], args := [d1, d2, d3, d4] }
  | _ => none }
def fnExactCostOfRow : OpenClaim := { program := "ytamnleamjdopmaa", sum := "8737c25a1dde4311458aea56519ae3c8cb2a769d1e3ece77a5c27aca4f971316", func := "loop.example/g00564/laws.FnExactCostOf", spec := "fnExactCostOf", apart := false }
def FnExactCostOfSaid : Prop := fnExactCostOfRow.holds Try.pinned (OpenSpec.ofChange fnExactCostOfSpec)

/-- ITS FALSE NEIGHBOUR: 'it returns false'. Refute it at one input. -/
def fnExactCostOfWrong : ChangeSpec := { name := "fnExactCostOf", fn := fun _ => fun
  | [d1, d2, d3, d4] => { results := [.lit (.bool false)], args := [d1, d2, d3, d4] }
  | _ => none }
def FnExactCostOfWrongFalsely : Prop := fnExactCostOfRow.holds Try.pinned (OpenSpec.ofChange fnExactCostOfWrong)

/-- 'laws.FnExactTipFor': WHATEVER THE INPUT: true; the input reads as it did. -/
def fnExactTipForSpec : ChangeSpec := { name := "fnExactTipFor", fn := fun _ => fun
  | [d1, d2] => { results := [.lit (.bool true)], args := [d1, d2] }
  | _ => none }
def fnExactTipForRow : OpenClaim := { program := "ytamnleamjdopmaa", sum := "8737c25a1dde4311458aea56519ae3c8cb2a769d1e3ece77a5c27aca4f971316", func := "loop.example/g00564/laws.FnExactTipFor", spec := "fnExactTipFor", apart := false }
def FnExactTipForSaid : Prop := fnExactTipForRow.holds Try.pinned (OpenSpec.ofChange fnExactTipForSpec)

/-- ITS FALSE NEIGHBOUR: 'it returns false'. Refute it at one input. -/
def fnExactTipForWrong : ChangeSpec := { name := "fnExactTipFor", fn := fun _ => fun
  | [d1, d2] => { results := [.lit (.bool false)], args := [d1, d2] }
  | _ => none }
def FnExactTipForWrongFalsely : Prop := fnExactTipForRow.holds Try.pinned (OpenSpec.ofChange fnExactTipForWrong)

/-- 'laws.FnExactNextPrice': WHATEVER THE INPUT: true; the input reads as it did. -/
def fnExactNextPriceSpec : ChangeSpec := { name := "fnExactNextPrice", fn := fun _ => fun
  | [d1, d2] => { results := [.lit (.bool true)], args := [d1, d2] }
  | _ => none }
def fnExactNextPriceRow : OpenClaim := { program := "ytamnleamjdopmaa", sum := "8737c25a1dde4311458aea56519ae3c8cb2a769d1e3ece77a5c27aca4f971316", func := "loop.example/g00564/laws.FnExactNextPrice", spec := "fnExactNextPrice", apart := false }
def FnExactNextPriceSaid : Prop := fnExactNextPriceRow.holds Try.pinned (OpenSpec.ofChange fnExactNextPriceSpec)

/-- ITS FALSE NEIGHBOUR: 'it returns false'. Refute it at one input. -/
def fnExactNextPriceWrong : ChangeSpec := { name := "fnExactNextPrice", fn := fun _ => fun
  | [d1, d2] => { results := [.lit (.bool false)], args := [d1, d2] }
  | _ => none }
def FnExactNextPriceWrongFalsely : Prop := fnExactNextPriceRow.holds Try.pinned (OpenSpec.ofChange fnExactNextPriceWrong)

/-- 'laws.FnExactBoundsFor': WHATEVER THE INPUT: true; the input reads as it did. -/
def fnExactBoundsForSpec : ChangeSpec := { name := "fnExactBoundsFor", fn := fun _ => fun
  | [d1, d2] => { results := [.lit (.bool true)], args := [d1, d2] }
  | _ => none }
def fnExactBoundsForRow : OpenClaim := { program := "ytamnleamjdopmaa", sum := "8737c25a1dde4311458aea56519ae3c8cb2a769d1e3ece77a5c27aca4f971316", func := "loop.example/g00564/laws.FnExactBoundsFor", spec := "fnExactBoundsFor", apart := false }
def FnExactBoundsForSaid : Prop := fnExactBoundsForRow.holds Try.pinned (OpenSpec.ofChange fnExactBoundsForSpec)

/-- ITS FALSE NEIGHBOUR: 'it returns false'. Refute it at one input. -/
def fnExactBoundsForWrong : ChangeSpec := { name := "fnExactBoundsFor", fn := fun _ => fun
  | [d1, d2] => { results := [.lit (.bool false)], args := [d1, d2] }
  | _ => none }
def FnExactBoundsForWrongFalsely : Prop := fnExactBoundsForRow.holds Try.pinned (OpenSpec.ofChange fnExactBoundsForWrong)

/-- 'laws.FnExactLevelAt': WHATEVER THE INPUT: true; the input reads as it did. -/
def fnExactLevelAtSpec : ChangeSpec := { name := "fnExactLevelAt", fn := fun _ => fun
  | [d] => { results := [.lit (.bool true)], args := [d] }
  | _ => none }
def fnExactLevelAtRow : OpenClaim := { program := "ytamnleamjdopmaa", sum := "8737c25a1dde4311458aea56519ae3c8cb2a769d1e3ece77a5c27aca4f971316", func := "loop.example/g00564/laws.FnExactLevelAt", spec := "fnExactLevelAt", apart := false }
def FnExactLevelAtSaid : Prop := fnExactLevelAtRow.holds Try.pinned (OpenSpec.ofChange fnExactLevelAtSpec)

/-- ITS FALSE NEIGHBOUR: 'it returns false'. Refute it at one input. -/
def fnExactLevelAtWrong : ChangeSpec := { name := "fnExactLevelAt", fn := fun _ => fun
  | [d] => { results := [.lit (.bool false)], args := [d] }
  | _ => none }
def FnExactLevelAtWrongFalsely : Prop := fnExactLevelAtRow.holds Try.pinned (OpenSpec.ofChange fnExactLevelAtWrong)

/- THE SECOND FORM. 'bulk': how many values and letters a reading holds, each counted each time it is reached (what is shared counts as often as it is met; a slice's spare places count too). A statement '..UptoSaid' is the law's where the arguments, and the package variables that the reading takes, are together of bulk at most 1048576: NARROWER than '..Said'. Prove '..Said' where nothing that the law and all that it calls make is longer than what came in: it says more and counts as full. Else prove '..UptoSaid'. A law counts once. -/
mutual
def uptoBulk {H : Type} : DataW H → Nat
  | .lit (.string bytes) => bytes.length + 1
  | .lit _ => 1
  | .nil => 1
  | .ptr d => uptoBulk d + 1
  | .slice elems spare => uptoBulkAll elems + uptoBulkAll spare + 1
  | .agg parts => uptoBulkAll parts + 1
  | .iface _ d => uptoBulk d + 1
  | .map entries => uptoBulkEntries entries + 1
  | .held _ => 1
def uptoBulkAll {H : Type} : List (DataW H) → Nat
  | [] => 0
  | d :: r => uptoBulk d + uptoBulkAll r
def uptoBulkEntries {H : Type} : List (Lit × DataW H) → Nat
  | [] => 0
  | x :: r => uptoBulkEntry x + uptoBulkEntries r
def uptoBulkEntry {H : Type} : Lit × DataW H → Nat
  | (.string bytes, d) => bytes.length + uptoBulk d + 1
  | (_, d) => uptoBulk d + 1
 end
def uptoSmall : (H : Type) → List (DataW H) → Bool := fun _ ds => decide (uptoBulkAll ds ≤ 1048576)
def OpenSpec.upto (s : _root_.Go.ChangeSpec) : _root_.Go.OpenSpec := { _root_.Go.OpenSpec.ofChange s with cond := some uptoSmall }

/-- 'laws.FnExactMayPay', WHERE WHAT IT READS IS OF BULK AT MOST 1048576: true; the input reads as it did. -/
def fnExactMayPayUptoRow : OpenClaim := { program := "ytamnleamjdopmaa", sum := "8737c25a1dde4311458aea56519ae3c8cb2a769d1e3ece77a5c27aca4f971316", func := "loop.example/g00564/laws.FnExactMayPay", spec := "fnExactMayPay", apart := false, narrowed := true }
def FnExactMayPayUptoSaid : Prop := fnExactMayPayUptoRow.holds Try.pinned (OpenSpec.upto fnExactMayPaySpec)

/-- 'laws.FnExactCostOf', WHERE WHAT IT READS IS OF BULK AT MOST 1048576: true; the input reads as it did. -/
def fnExactCostOfUptoRow : OpenClaim := { program := "ytamnleamjdopmaa", sum := "8737c25a1dde4311458aea56519ae3c8cb2a769d1e3ece77a5c27aca4f971316", func := "loop.example/g00564/laws.FnExactCostOf", spec := "fnExactCostOf", apart := false, narrowed := true }
def FnExactCostOfUptoSaid : Prop := fnExactCostOfUptoRow.holds Try.pinned (OpenSpec.upto fnExactCostOfSpec)

/-- 'laws.FnExactTipFor', WHERE WHAT IT READS IS OF BULK AT MOST 1048576: true; the input reads as it did. -/
def fnExactTipForUptoRow : OpenClaim := { program := "ytamnleamjdopmaa", sum := "8737c25a1dde4311458aea56519ae3c8cb2a769d1e3ece77a5c27aca4f971316", func := "loop.example/g00564/laws.FnExactTipFor", spec := "fnExactTipFor", apart := false, narrowed := true }
def FnExactTipForUptoSaid : Prop := fnExactTipForUptoRow.holds Try.pinned (OpenSpec.upto fnExactTipForSpec)

/-- 'laws.FnExactNextPrice', WHERE WHAT IT READS IS OF BULK AT MOST 1048576: true; the input reads as it did. -/
def fnExactNextPriceUptoRow : OpenClaim := { program := "ytamnleamjdopmaa", sum := "8737c25a1dde4311458aea56519ae3c8cb2a769d1e3ece77a5c27aca4f971316", func := "loop.example/g00564/laws.FnExactNextPrice", spec := "fnExactNextPrice", apart := false, narrowed := true }
def FnExactNextPriceUptoSaid : Prop := fnExactNextPriceUptoRow.holds Try.pinned (OpenSpec.upto fnExactNextPriceSpec)

/-- 'laws.FnExactBoundsFor', WHERE WHAT IT READS IS OF BULK AT MOST 1048576: true; the input reads as it did. -/
def fnExactBoundsForUptoRow : OpenClaim := { program := "ytamnleamjdopmaa", sum := "8737c25a1dde4311458aea56519ae3c8cb2a769d1e3ece77a5c27aca4f971316", func := "loop.example/g00564/laws.FnExactBoundsFor", spec := "fnExactBoundsFor", apart := false, narrowed := true }
def FnExactBoundsForUptoSaid : Prop := fnExactBoundsForUptoRow.holds Try.pinned (OpenSpec.upto fnExactBoundsForSpec)

/-- 'laws.FnExactLevelAt', WHERE WHAT IT READS IS OF BULK AT MOST 1048576: true; the input reads as it did. -/
def fnExactLevelAtUptoRow : OpenClaim := { program := "ytamnleamjdopmaa", sum := "8737c25a1dde4311458aea56519ae3c8cb2a769d1e3ece77a5c27aca4f971316", func := "loop.example/g00564/laws.FnExactLevelAt", spec := "fnExactLevelAt", apart := false, narrowed := true }
def FnExactLevelAtUptoSaid : Prop := fnExactLevelAtUptoRow.holds Try.pinned (OpenSpec.upto fnExactLevelAtSpec)

end Rows
end Go.Proofs.Ytamnleamjdopmaa
