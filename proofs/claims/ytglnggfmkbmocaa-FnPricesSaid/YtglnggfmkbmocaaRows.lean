/-
  No cell of these rows narrows 'for every input' (looked for: loops, veiled, ifaces, maps, wideKeys, modest, calm, conditions, laid).
  DERIVED. THE GIVEN ROWS OF THIS SEAT. 6 by the template 'for every input the law returns true; each argument reads behind the call as it read before'; 0 by the template 'total and deterministic' (their statements: YtglnggfmkbmocaaTotals.lean).
  GIVEN WITH THE SEED: the statements are not yours to turn. If you find one false, say at which input.
  Laid BY PROGRAM, IN A SANDBOX (cutbox-rows.mjs): the forced cells as the released guide's own fill.sh prints them over the translation 98bdd73d092124af… (all of the seat's roots in one cut). By AI agents, Wed Nov 11 2026. No macro, syntax, notation, axiom, sorry.
-/
import Derived.Test.YtglnggfmkbmocaaChecked
import GoSem.Claim
import GoSem.ClaimJoined
import GoSem.ClaimMapViews
import Derived.JoinedTies
import Derived.KernelRfl
namespace Go.Proofs.Ytglnggfmkbmocaa
/- THE CELL 'sum', in the pinned program and in every row, IS THE sha256 OF THE DUMP (.gsa) THAT YtglnggfmkbmocaaProg.lean LOADS. Nothing in Lean hashes anything: it is a label: what it is worth is what the hold of that sum in a sandbox is worth. -/
noncomputable def Try.pinned : Pinned := { name := "ytglnggfmkbmocaa", sum := "98bdd73d092124af4f9481ef4480cd9840e7ac84bc3e62fcc9d23f8027405f6f", checked := Try.checked }
namespace Rows
def none {H : Type} : Left H := { results := [], args := [] }

/-- 'laws.FnExactPathBetween': WHATEVER THE INPUT: true; the input reads as it did. -/
def fnExactPathBetweenSpec : ChangeSpec := { name := "fnExactPathBetween", fn := fun _ => fun
  | [d1, d2, d3] => { results := [.lit (.bool true)], args := [d1, d2, d3] }
  | _ => none }
def fnExactPathBetweenRow : OpenClaim := { program := "ytglnggfmkbmocaa", sum := "98bdd73d092124af4f9481ef4480cd9840e7ac84bc3e62fcc9d23f8027405f6f", func := "loop.example/g00564/laws.FnExactPathBetween", spec := "fnExactPathBetween", recurses := true, apart := false }
def FnExactPathBetweenSaid : Prop := fnExactPathBetweenRow.holds Try.pinned (OpenSpec.ofChange fnExactPathBetweenSpec)

/-- ITS FALSE NEIGHBOUR: 'it returns false'. Refute it at one input. -/
def fnExactPathBetweenWrong : ChangeSpec := { name := "fnExactPathBetween", fn := fun _ => fun
  | [d1, d2, d3] => { results := [.lit (.bool false)], args := [d1, d2, d3] }
  | _ => none }
def FnExactPathBetweenWrongFalsely : Prop := fnExactPathBetweenRow.holds Try.pinned (OpenSpec.ofChange fnExactPathBetweenWrong)

/-- 'laws.FnPrices': WHATEVER THE INPUT: true; the input reads as it did. -/
def fnPricesSpec : ChangeSpec := { name := "fnPrices", fn := fun _ => fun
  | [d1, d2] => { results := [.lit (.bool true)], args := [d1, d2] }
  | _ => none }
def fnPricesRow : OpenClaim := { program := "ytglnggfmkbmocaa", sum := "98bdd73d092124af4f9481ef4480cd9840e7ac84bc3e62fcc9d23f8027405f6f", func := "loop.example/g00564/laws.FnPrices", spec := "fnPrices", unfollowed := true, recurses := true, apart := false }
def FnPricesSaid : Prop := fnPricesRow.holds Try.pinned (OpenSpec.ofChange fnPricesSpec)

/-- ITS FALSE NEIGHBOUR: 'it returns false'. Refute it at one input. -/
def fnPricesWrong : ChangeSpec := { name := "fnPrices", fn := fun _ => fun
  | [d1, d2] => { results := [.lit (.bool false)], args := [d1, d2] }
  | _ => none }
def FnPricesWrongFalsely : Prop := fnPricesRow.holds Try.pinned (OpenSpec.ofChange fnPricesWrong)

/-- 'laws.FnCosts': WHATEVER THE INPUT: true; the input reads as it did. -/
def fnCostsSpec : ChangeSpec := { name := "fnCosts", fn := fun _ => fun
  | [d1, d2] => { results := [.lit (.bool true)], args := [d1, d2] }
  | _ => none }
def fnCostsRow : OpenClaim := { program := "ytglnggfmkbmocaa", sum := "98bdd73d092124af4f9481ef4480cd9840e7ac84bc3e62fcc9d23f8027405f6f", func := "loop.example/g00564/laws.FnCosts", spec := "fnCosts", unfollowed := true, recurses := true, apart := false }
def FnCostsSaid : Prop := fnCostsRow.holds Try.pinned (OpenSpec.ofChange fnCostsSpec)

/-- ITS FALSE NEIGHBOUR: 'it returns false'. Refute it at one input. -/
def fnCostsWrong : ChangeSpec := { name := "fnCosts", fn := fun _ => fun
  | [d1, d2] => { results := [.lit (.bool false)], args := [d1, d2] }
  | _ => none }
def FnCostsWrongFalsely : Prop := fnCostsRow.holds Try.pinned (OpenSpec.ofChange fnCostsWrong)

/-- 'laws.FnNonces': WHATEVER THE INPUT: true; the input reads as it did. -/
def fnNoncesSpec : ChangeSpec := { name := "fnNonces", fn := fun _ => fun
  | [d1, d2] => { results := [.lit (.bool true)], args := [d1, d2] }
  | _ => none }
def fnNoncesRow : OpenClaim := { program := "ytglnggfmkbmocaa", sum := "98bdd73d092124af4f9481ef4480cd9840e7ac84bc3e62fcc9d23f8027405f6f", func := "loop.example/g00564/laws.FnNonces", spec := "fnNonces", apart := false }
def FnNoncesSaid : Prop := fnNoncesRow.holds Try.pinned (OpenSpec.ofChange fnNoncesSpec)

/-- ITS FALSE NEIGHBOUR: 'it returns false'. Refute it at one input. -/
def fnNoncesWrong : ChangeSpec := { name := "fnNonces", fn := fun _ => fun
  | [d1, d2] => { results := [.lit (.bool false)], args := [d1, d2] }
  | _ => none }
def FnNoncesWrongFalsely : Prop := fnNoncesRow.holds Try.pinned (OpenSpec.ofChange fnNoncesWrong)

/-- 'laws.FnExactGoodBodies': WHATEVER THE INPUT: true; the input reads as it did. -/
def fnExactGoodBodiesSpec : ChangeSpec := { name := "fnExactGoodBodies", fn := fun _ => fun
  | [d1, d2, d3] => { results := [.lit (.bool true)], args := [d1, d2, d3] }
  | _ => none }
def fnExactGoodBodiesRow : OpenClaim := { program := "ytglnggfmkbmocaa", sum := "98bdd73d092124af4f9481ef4480cd9840e7ac84bc3e62fcc9d23f8027405f6f", func := "loop.example/g00564/laws.FnExactGoodBodies", spec := "fnExactGoodBodies", unfollowed := true, recurses := true, apart := false }
def FnExactGoodBodiesSaid : Prop := fnExactGoodBodiesRow.holds Try.pinned (OpenSpec.ofChange fnExactGoodBodiesSpec)

/-- ITS FALSE NEIGHBOUR: 'it returns false'. Refute it at one input. -/
def fnExactGoodBodiesWrong : ChangeSpec := { name := "fnExactGoodBodies", fn := fun _ => fun
  | [d1, d2, d3] => { results := [.lit (.bool false)], args := [d1, d2, d3] }
  | _ => none }
def FnExactGoodBodiesWrongFalsely : Prop := fnExactGoodBodiesRow.holds Try.pinned (OpenSpec.ofChange fnExactGoodBodiesWrong)

/-- 'laws.FnExactUndoBody': WHATEVER THE INPUT: true; the input reads as it did. -/
def fnExactUndoBodySpec : ChangeSpec := { name := "fnExactUndoBody", fn := fun _ => fun
  | [d1, d2] => { results := [.lit (.bool true)], args := [d1, d2] }
  | _ => none }
def fnExactUndoBodyRow : OpenClaim := { program := "ytglnggfmkbmocaa", sum := "98bdd73d092124af4f9481ef4480cd9840e7ac84bc3e62fcc9d23f8027405f6f", func := "loop.example/g00564/laws.FnExactUndoBody", spec := "fnExactUndoBody", apart := false }
def FnExactUndoBodySaid : Prop := fnExactUndoBodyRow.holds Try.pinned (OpenSpec.ofChange fnExactUndoBodySpec)

/-- ITS FALSE NEIGHBOUR: 'it returns false'. Refute it at one input. -/
def fnExactUndoBodyWrong : ChangeSpec := { name := "fnExactUndoBody", fn := fun _ => fun
  | [d1, d2] => { results := [.lit (.bool false)], args := [d1, d2] }
  | _ => none }
def FnExactUndoBodyWrongFalsely : Prop := fnExactUndoBodyRow.holds Try.pinned (OpenSpec.ofChange fnExactUndoBodyWrong)

/- THE SECOND FORM. 'bulk': how many values and letters a reading holds, each counted each time it is reached (what is shared counts as often as it is met; a slice's spare places count too). A statement '..UptoSaid' is the law's where the arguments, and the package variables that the reading takes, are together of bulk at most 1048576: NARROWER than '..Said'. Prove '..Said' where nothing that the law and all that it calls make is longer than what came in: it says more and counts as full. Else prove '..UptoSaid'. A law counts once. -/
mutual
def uptoBulk {H : Type} : DataW H → Nat
  | .lit (.string bytes) => bytes.length + 1
  | .lit _ => 1
  | .nil => 1
  | .ptr d => uptoBulk d + 1
  | .slice elems spare => uptoBulkAll elems + uptoBulkAll spare + 1
  | .agg parts => uptoBulkAll parts + 1
  | .iface _ d => uptoBulk d + 1
  | .map entries => uptoBulkEntries entries + 1
  | .held _ => 1
def uptoBulkAll {H : Type} : List (DataW H) → Nat
  | [] => 0
  | d :: r => uptoBulk d + uptoBulkAll r
def uptoBulkEntries {H : Type} : List (Lit × DataW H) → Nat
  | [] => 0
  | x :: r => uptoBulkEntry x + uptoBulkEntries r
def uptoBulkEntry {H : Type} : Lit × DataW H → Nat
  | (.string bytes, d) => bytes.length + uptoBulk d + 1
  | (_, d) => uptoBulk d + 1
 end
def uptoSmall : (H : Type) → List (DataW H) → Bool := fun _ ds => decide (uptoBulkAll ds ≤ 1048576)
def OpenSpec.upto (s : _root_.Go.ChangeSpec) : _root_.Go.OpenSpec := { _root_.Go.OpenSpec.ofChange s with cond := some uptoSmall }

/-- 'laws.FnExactPathBetween', WHERE WHAT IT READS IS OF BULK AT MOST 1048576: true; the input reads as it did. -/
def fnExactPathBetweenUptoRow : OpenClaim := { program := "ytglnggfmkbmocaa", sum := "98bdd73d092124af4f9481ef4480cd9840e7ac84bc3e62fcc9d23f8027405f6f", func := "loop.example/g00564/laws.FnExactPathBetween", spec := "fnExactPathBetween", recurses := true, apart := false, narrowed := true }
def FnExactPathBetweenUptoSaid : Prop := fnExactPathBetweenUptoRow.holds Try.pinned (OpenSpec.upto fnExactPathBetweenSpec)

/-- 'laws.FnPrices', WHERE WHAT IT READS IS OF BULK AT MOST 1048576: true; the input reads as it did. -/
def fnPricesUptoRow : OpenClaim := { program := "ytglnggfmkbmocaa", sum := "98bdd73d092124af4f9481ef4480cd9840e7ac84bc3e62fcc9d23f8027405f6f", func := "loop.example/g00564/laws.FnPrices", spec := "fnPrices", unfollowed := true, recurses := true, apart := false, narrowed := true }
def FnPricesUptoSaid : Prop := fnPricesUptoRow.holds Try.pinned (OpenSpec.upto fnPricesSpec)

/-- 'laws.FnCosts', WHERE WHAT IT READS IS OF BULK AT MOST 1048576: true; the input reads as it did. -/
def fnCostsUptoRow : OpenClaim := { program := "ytglnggfmkbmocaa", sum := "98bdd73d092124af4f9481ef4480cd9840e7ac84bc3e62fcc9d23f8027405f6f", func := "loop.example/g00564/laws.FnCosts", spec := "fnCosts", unfollowed := true, recurses := true, apart := false, narrowed := true }
def FnCostsUptoSaid : Prop := fnCostsUptoRow.holds Try.pinned (OpenSpec.upto fnCostsSpec)

/-- 'laws.FnNonces', WHERE WHAT IT READS IS OF BULK AT MOST 1048576: true; the input reads as it did. -/
def fnNoncesUptoRow : OpenClaim := { program := "ytglnggfmkbmocaa", sum := "98bdd73d092124af4f9481ef4480cd9840e7ac84bc3e62fcc9d23f8027405f6f", func := "loop.example/g00564/laws.FnNonces", spec := "fnNonces", apart := false, narrowed := true }
def FnNoncesUptoSaid : Prop := fnNoncesUptoRow.holds Try.pinned (OpenSpec.upto fnNoncesSpec)

/-- 'laws.FnExactGoodBodies', WHERE WHAT IT READS IS OF BULK AT MOST 1048576: true; the input reads as it did. -/
def fnExactGoodBodiesUptoRow : OpenClaim := { program := "ytglnggfmkbmocaa", sum := "98bdd73d092124af4f9481ef4480cd9840e7ac84bc3e62fcc9d23f8027405f6f", func := "loop.example/g00564/laws.FnExactGoodBodies", spec := "fnExactGoodBodies", unfollowed := true, recurses := true, apart := false, narrowed := true }
def FnExactGoodBodiesUptoSaid : Prop := fnExactGoodBodiesUptoRow.holds Try.pinned (OpenSpec.upto fnExactGoodBodiesSpec)

/-- 'laws.FnExactUndoBody', WHERE WHAT IT READS IS OF BULK AT MOST 1048576: true; the input reads as it did. -/
def fnExactUndoBodyUptoRow : OpenClaim := { program := "ytglnggfmkbmocaa", sum := "98bdd73d092124af4f9481ef4480cd9840e7ac84bc3e62fcc9d23f8027405f6f", func := "loop.example/g00564/laws.FnExactUndoBody", spec := "fnExactUndoBody", apart := false, narrowed := true }
def FnExactUndoBodyUptoSaid : Prop := fnExactUndoBodyUptoRow.holds Try.pinned (OpenSpec.upto fnExactUndoBodySpec)

end Rows
end Go.Proofs.Ytglnggfmkbmocaa
