/-
  No cell of these rows narrows 'for every input' (looked for: loops, veiled, ifaces, maps, wideKeys, modest, calm, conditions, laid).
  DERIVED. THE GIVEN ROWS OF THIS SEAT. 8 by the template 'for every input the law returns true; each argument reads behind the call as it read before'; 0 by the template 'total and deterministic' (their statements: YtiggokojffejeaaTotals.lean).
  GIVEN WITH THE SEED: the statements are not yours to turn. If you find one false, say at which input.
  Laid BY PROGRAM, IN A SANDBOX (cutbox-rows.mjs): the forced cells as the released guide's own fill.sh prints them over the translation 677ead66a0c600ce… (all of the seat's roots in one cut). By AI agents, Wed Nov 11 2026. No macro, syntax, notation, axiom, sorry.
-/
import Derived.Test.YtiggokojffejeaaChecked
import GoSem.Claim
import GoSem.ClaimJoined
import GoSem.ClaimMapViews
import Derived.JoinedTies
import Derived.KernelRfl
namespace Go.Proofs.Ytiggokojffejeaa
/- THE CELL 'sum', in the pinned program and in every row, IS THE sha256 OF THE DUMP (.gsa) THAT YtiggokojffejeaaProg.lean LOADS. Nothing in Lean hashes anything: it is a label: what it is worth is what the hold of that sum in a sandbox is worth. -/
noncomputable def Try.pinned : Pinned := { name := "ytiggokojffejeaa", sum := "677ead66a0c600ce264364b52a0480100f1972598d631a68e3cebe76ef4f4280", checked := Try.checked }
namespace Rows
def none {H : Type} : Left H := { results := [], args := [] }

/-- 'laws.FnExactApplyWish': WHATEVER THE INPUT: true; the input reads as it did. -/
def fnExactApplyWishSpec : ChangeSpec := { name := "fnExactApplyWish", fn := fun _ => fun
  | [d1, d2, d3, d4] => { results := [.lit (.bool true)], args := [d1, d2, d3, d4] }
  | _ => none }
def fnExactApplyWishRow : OpenClaim := { program := "ytiggokojffejeaa", sum := "677ead66a0c600ce264364b52a0480100f1972598d631a68e3cebe76ef4f4280", func := "loop.example/g00564/laws.FnExactApplyWish", spec := "fnExactApplyWish", apart := false }
def FnExactApplyWishSaid : Prop := fnExactApplyWishRow.holds Try.pinned (OpenSpec.ofChange fnExactApplyWishSpec)

/-- ITS FALSE NEIGHBOUR: 'it returns false'. Refute it at one input. -/
def fnExactApplyWishWrong : ChangeSpec := { name := "fnExactApplyWish", fn := fun _ => fun
  | [d1, d2, d3, d4] => { results := [.lit (.bool false)], args := [d1, d2, d3, d4] }
  | _ => none }
def FnExactApplyWishWrongFalsely : Prop := fnExactApplyWishRow.holds Try.pinned (OpenSpec.ofChange fnExactApplyWishWrong)

/-- 'laws.FnExactApplyAll': WHATEVER THE INPUT: true; the input reads as it did. -/
def fnExactApplyAllSpec : ChangeSpec := { name := "fnExactApplyAll", fn := fun _ => fun
  | [d1, d2, d3, d4] => { results := [.lit (.bool true)], args := [d1, d2, d3, d4] }
  | _ => none }
def fnExactApplyAllRow : OpenClaim := { program := "ytiggokojffejeaa", sum := "677ead66a0c600ce264364b52a0480100f1972598d631a68e3cebe76ef4f4280", func := "loop.example/g00564/laws.FnExactApplyAll", spec := "fnExactApplyAll", unfollowed := true, recurses := true, apart := false }
def FnExactApplyAllSaid : Prop := fnExactApplyAllRow.holds Try.pinned (OpenSpec.ofChange fnExactApplyAllSpec)

/-- ITS FALSE NEIGHBOUR: 'it returns false'. Refute it at one input. -/
def fnExactApplyAllWrong : ChangeSpec := { name := "fnExactApplyAll", fn := fun _ => fun
  | [d1, d2, d3, d4] => { results := [.lit (.bool false)], args := [d1, d2, d3, d4] }
  | _ => none }
def FnExactApplyAllWrongFalsely : Prop := fnExactApplyAllRow.holds Try.pinned (OpenSpec.ofChange fnExactApplyAllWrong)

/-- 'laws.FnExactDoBody': WHATEVER THE INPUT: true; the input reads as it did. -/
def fnExactDoBodySpec : ChangeSpec := { name := "fnExactDoBody", fn := fun _ => fun
  | [d1, d2, d3] => { results := [.lit (.bool true)], args := [d1, d2, d3] }
  | _ => none }
def fnExactDoBodyRow : OpenClaim := { program := "ytiggokojffejeaa", sum := "677ead66a0c600ce264364b52a0480100f1972598d631a68e3cebe76ef4f4280", func := "loop.example/g00564/laws.FnExactDoBody", spec := "fnExactDoBody", unfollowed := true, recurses := true, apart := false }
def FnExactDoBodySaid : Prop := fnExactDoBodyRow.holds Try.pinned (OpenSpec.ofChange fnExactDoBodySpec)

/-- ITS FALSE NEIGHBOUR: 'it returns false'. Refute it at one input. -/
def fnExactDoBodyWrong : ChangeSpec := { name := "fnExactDoBody", fn := fun _ => fun
  | [d1, d2, d3] => { results := [.lit (.bool false)], args := [d1, d2, d3] }
  | _ => none }
def FnExactDoBodyWrongFalsely : Prop := fnExactDoBodyRow.holds Try.pinned (OpenSpec.ofChange fnExactDoBodyWrong)

/-- 'laws.FnExactUndoBody': WHATEVER THE INPUT: true; the input reads as it did. -/
def fnExactUndoBodySpec : ChangeSpec := { name := "fnExactUndoBody", fn := fun _ => fun
  | [d1, d2] => { results := [.lit (.bool true)], args := [d1, d2] }
  | _ => none }
def fnExactUndoBodyRow : OpenClaim := { program := "ytiggokojffejeaa", sum := "677ead66a0c600ce264364b52a0480100f1972598d631a68e3cebe76ef4f4280", func := "loop.example/g00564/laws.FnExactUndoBody", spec := "fnExactUndoBody", apart := false }
def FnExactUndoBodySaid : Prop := fnExactUndoBodyRow.holds Try.pinned (OpenSpec.ofChange fnExactUndoBodySpec)

/-- ITS FALSE NEIGHBOUR: 'it returns false'. Refute it at one input. -/
def fnExactUndoBodyWrong : ChangeSpec := { name := "fnExactUndoBody", fn := fun _ => fun
  | [d1, d2] => { results := [.lit (.bool false)], args := [d1, d2] }
  | _ => none }
def FnExactUndoBodyWrongFalsely : Prop := fnExactUndoBodyRow.holds Try.pinned (OpenSpec.ofChange fnExactUndoBodyWrong)

/-- 'laws.FnExactGoodBodies': WHATEVER THE INPUT: true; the input reads as it did. -/
def fnExactGoodBodiesSpec : ChangeSpec := { name := "fnExactGoodBodies", fn := fun _ => fun
  | [d1, d2, d3] => { results := [.lit (.bool true)], args := [d1, d2, d3] }
  | _ => none }
def fnExactGoodBodiesRow : OpenClaim := { program := "ytiggokojffejeaa", sum := "677ead66a0c600ce264364b52a0480100f1972598d631a68e3cebe76ef4f4280", func := "loop.example/g00564/laws.FnExactGoodBodies", spec := "fnExactGoodBodies", unfollowed := true, recurses := true, apart := false }
def FnExactGoodBodiesSaid : Prop := fnExactGoodBodiesRow.holds Try.pinned (OpenSpec.ofChange fnExactGoodBodiesSpec)

/-- ITS FALSE NEIGHBOUR: 'it returns false'. Refute it at one input. -/
def fnExactGoodBodiesWrong : ChangeSpec := { name := "fnExactGoodBodies", fn := fun _ => fun
  | [d1, d2, d3] => { results := [.lit (.bool false)], args := [d1, d2, d3] }
  | _ => none }
def FnExactGoodBodiesWrongFalsely : Prop := fnExactGoodBodiesRow.holds Try.pinned (OpenSpec.ofChange fnExactGoodBodiesWrong)

/-- 'laws.FnExactStateAt': WHATEVER THE INPUT: true; the input reads as it did. -/
def fnExactStateAtSpec : ChangeSpec := { name := "fnExactStateAt", fn := fun _ => fun
  | [d1, d2, d3, d4, d5] => { results := [.lit (.bool true)], args := [d1, d2, d3, d4, d5] }
  | _ => none }
def fnExactStateAtRow : OpenClaim := { program := "ytiggokojffejeaa", sum := "677ead66a0c600ce264364b52a0480100f1972598d631a68e3cebe76ef4f4280", func := "loop.example/g00564/laws.FnExactStateAt", spec := "fnExactStateAt", unfollowed := true, recurses := true, apart := false }
def FnExactStateAtSaid : Prop := fnExactStateAtRow.holds Try.pinned (OpenSpec.ofChange fnExactStateAtSpec)

/-- ITS FALSE NEIGHBOUR: 'it returns false'. Refute it at one input. -/
def fnExactStateAtWrong : ChangeSpec := { name := "fnExactStateAt", fn := fun _ => fun
  | [d1, d2, d3, d4, d5] => { results := [.lit (.bool false)], args := [d1, d2, d3, d4, d5] }
  | _ => none }
def FnExactStateAtWrongFalsely : Prop := fnExactStateAtRow.holds Try.pinned (OpenSpec.ofChange fnExactStateAtWrong)

/-- 'laws.FnExactSwitchHead': WHATEVER THE INPUT: true; the input reads as it did. -/
def fnExactSwitchHeadSpec : ChangeSpec := { name := "fnExactSwitchHead", fn := fun _ => fun
  | [d1, d2, d3, d4, d5, d6] => { results := [.lit (.bool true)], args := [d1, d2, d3, d4, d5, d6] }
  | _ => none }
def fnExactSwitchHeadRow : OpenClaim := { program := "ytiggokojffejeaa", sum := "677ead66a0c600ce264364b52a0480100f1972598d631a68e3cebe76ef4f4280", func := "loop.example/g00564/laws.FnExactSwitchHead", spec := "fnExactSwitchHead", unfollowed := true, recurses := true, apart := false }
def FnExactSwitchHeadSaid : Prop := fnExactSwitchHeadRow.holds Try.pinned (OpenSpec.ofChange fnExactSwitchHeadSpec)

/-- ITS FALSE NEIGHBOUR: 'it returns false'. Refute it at one input. -/
def fnExactSwitchHeadWrong : ChangeSpec := { name := "fnExactSwitchHead", fn := fun _ => fun
  | [d1, d2, d3, d4, d5, d6] => { results := [.lit (.bool false)], args := [d1, d2, d3, d4, d5, d6] }
  | _ => none }
def FnExactSwitchHeadWrongFalsely : Prop := fnExactSwitchHeadRow.holds Try.pinned (OpenSpec.ofChange fnExactSwitchHeadWrong)

/-- 'laws.FnExactPickBlock': WHATEVER THE INPUT: true; the input reads as it did. -/
def fnExactPickBlockSpec : ChangeSpec := { name := "fnExactPickBlock", fn := fun _ => fun
  | [d1, d2, d3, d4] => { results := [.lit (.bool true)], args := [d1, d2, d3, d4] }
  | _ => none }
def fnExactPickBlockRow : OpenClaim := { program := "ytiggokojffejeaa", sum := "677ead66a0c600ce264364b52a0480100f1972598d631a68e3cebe76ef4f4280", func := "loop.example/g00564/laws.FnExactPickBlock", spec := "fnExactPickBlock", unfollowed := true, recurses := true, apart := false }
def FnExactPickBlockSaid : Prop := fnExactPickBlockRow.holds Try.pinned (OpenSpec.ofChange fnExactPickBlockSpec)

/-- ITS FALSE NEIGHBOUR: 'it returns false'. Refute it at one input. -/
def fnExactPickBlockWrong : ChangeSpec := { name := "fnExactPickBlock", fn := fun _ => fun
  | [d1, d2, d3, d4] => { results := [.lit (.bool false)], args := [d1, d2, d3, d4] }
  | _ => none }
def FnExactPickBlockWrongFalsely : Prop := fnExactPickBlockRow.holds Try.pinned (OpenSpec.ofChange fnExactPickBlockWrong)

/- THE SECOND FORM. 'bulk': how many values and letters a reading holds, each counted each time it is reached (what is shared counts as often as it is met; a slice's spare places count too). A statement '..UptoSaid' is the law's where the arguments, and the package variables that the reading takes, are together of bulk at most 1048576: NARROWER than '..Said'. Prove '..Said' where nothing that the law and all that it calls make is longer than what came in: it says more and counts as full. Else prove '..UptoSaid'. A law counts once. -/
mutual
def uptoBulk {H : Type} : DataW H → Nat
  | .lit (.string bytes) => bytes.length + 1
  | .lit _ => 1
  | .nil => 1
  | .ptr d => uptoBulk d + 1
  | .slice elems spare => uptoBulkAll elems + uptoBulkAll spare + 1
  | .agg parts => uptoBulkAll parts + 1
  | .iface _ d => uptoBulk d + 1
  | .map entries => uptoBulkEntries entries + 1
  | .held _ => 1
def uptoBulkAll {H : Type} : List (DataW H) → Nat
  | [] => 0
  | d :: r => uptoBulk d + uptoBulkAll r
def uptoBulkEntries {H : Type} : List (Lit × DataW H) → Nat
  | [] => 0
  | x :: r => uptoBulkEntry x + uptoBulkEntries r
def uptoBulkEntry {H : Type} : Lit × DataW H → Nat
  | (.string bytes, d) => bytes.length + uptoBulk d + 1
  | (_, d) => uptoBulk d + 1
 end
def uptoSmall : (H : Type) → List (DataW H) → Bool := fun _ ds => decide (uptoBulkAll ds ≤ 1048576)
def OpenSpec.upto (s : _root_.Go.ChangeSpec) : _root_.Go.OpenSpec := { _root_.Go.OpenSpec.ofChange s with cond := some uptoSmall }

/-- 'laws.FnExactApplyWish', WHERE WHAT IT READS IS OF BULK AT MOST 1048576: true; the input reads as it did. -/
def fnExactApplyWishUptoRow : OpenClaim := { program := "ytiggokojffejeaa", sum := "677ead66a0c600ce264364b52a0480100f1972598d631a68e3cebe76ef4f4280", func := "loop.example/g00564/laws.FnExactApplyWish", spec := "fnExactApplyWish", apart := false, narrowed := true }
def FnExactApplyWishUptoSaid : Prop := fnExactApplyWishUptoRow.holds Try.pinned (OpenSpec.upto fnExactApplyWishSpec)

/-- 'laws.FnExactApplyAll', WHERE WHAT IT READS IS OF BULK AT MOST 1048576: true; the input reads as it did. -/
def fnExactApplyAllUptoRow : OpenClaim := { program := "ytiggokojffejeaa", sum := "677ead66a0c600ce264364b52a0480100f1972598d631a68e3cebe76ef4f4280", func := "loop.example/g00564/laws.FnExactApplyAll", spec := "fnExactApplyAll", unfollowed := true, recurses := true, apart := false, narrowed := true }
def FnExactApplyAllUptoSaid : Prop := fnExactApplyAllUptoRow.holds Try.pinned (OpenSpec.upto fnExactApplyAllSpec)

/-- 'laws.FnExactDoBody', WHERE WHAT IT READS IS OF BULK AT MOST 1048576: true; the input reads as it did. -/
def fnExactDoBodyUptoRow : OpenClaim := { program := "ytiggokojffejeaa", sum := "677ead66a0c600ce264364b52a0480100f1972598d631a68e3cebe76ef4f4280", func := "loop.example/g00564/laws.FnExactDoBody", spec := "fnExactDoBody", unfollowed := true, recurses := true, apart := false, narrowed := true }
def FnExactDoBodyUptoSaid : Prop := fnExactDoBodyUptoRow.holds Try.pinned (OpenSpec.upto fnExactDoBodySpec)

/-- 'laws.FnExactUndoBody', WHERE WHAT IT READS IS OF BULK AT MOST 1048576: true; the input reads as it did. -/
def fnExactUndoBodyUptoRow : OpenClaim := { program := "ytiggokojffejeaa", sum := "677ead66a0c600ce264364b52a0480100f1972598d631a68e3cebe76ef4f4280", func := "loop.example/g00564/laws.FnExactUndoBody", spec := "fnExactUndoBody", apart := false, narrowed := true }
def FnExactUndoBodyUptoSaid : Prop := fnExactUndoBodyUptoRow.holds Try.pinned (OpenSpec.upto fnExactUndoBodySpec)

/-- 'laws.FnExactGoodBodies', WHERE WHAT IT READS IS OF BULK AT MOST 1048576: true; the input reads as it did. -/
def fnExactGoodBodiesUptoRow : OpenClaim := { program := "ytiggokojffejeaa", sum := "677ead66a0c600ce264364b52a0480100f1972598d631a68e3cebe76ef4f4280", func := "loop.example/g00564/laws.FnExactGoodBodies", spec := "fnExactGoodBodies", unfollowed := true, recurses := true, apart := false, narrowed := true }
def FnExactGoodBodiesUptoSaid : Prop := fnExactGoodBodiesUptoRow.holds Try.pinned (OpenSpec.upto fnExactGoodBodiesSpec)

/-- 'laws.FnExactStateAt', WHERE WHAT IT READS IS OF BULK AT MOST 1048576: true; the input reads as it did. -/
def fnExactStateAtUptoRow : OpenClaim := { program := "ytiggokojffejeaa", sum := "677ead66a0c600ce264364b52a0480100f1972598d631a68e3cebe76ef4f4280", func := "loop.example/g00564/laws.FnExactStateAt", spec := "fnExactStateAt", unfollowed := true, recurses := true, apart := false, narrowed := true }
def FnExactStateAtUptoSaid : Prop := fnExactStateAtUptoRow.holds Try.pinned (OpenSpec.upto fnExactStateAtSpec)

/-- 'laws.FnExactSwitchHead', WHERE WHAT IT READS IS OF BULK AT MOST 1048576: true; the input reads as it did. -/
def fnExactSwitchHeadUptoRow : OpenClaim := { program := "ytiggokojffejeaa", sum := "677ead66a0c600ce264364b52a0480100f1972598d631a68e3cebe76ef4f4280", func := "loop.example/g00564/laws.FnExactSwitchHead", spec := "fnExactSwitchHead", unfollowed := true, recurses := true, apart := false, narrowed := true }
def FnExactSwitchHeadUptoSaid : Prop := fnExactSwitchHeadUptoRow.holds Try.pinned (OpenSpec.upto fnExactSwitchHeadSpec)

/-- 'laws.FnExactPickBlock', WHERE WHAT IT READS IS OF BULK AT MOST 1048576: true; the input reads as it did. -/
def fnExactPickBlockUptoRow : OpenClaim := { program := "ytiggokojffejeaa", sum := "677ead66a0c600ce264364b52a0480100f1972598d631a68e3cebe76ef4f4280", func := "loop.example/g00564/laws.FnExactPickBlock", spec := "fnExactPickBlock", unfollowed := true, recurses := true, apart := false, narrowed := true }
def FnExactPickBlockUptoSaid : Prop := fnExactPickBlockUptoRow.holds Try.pinned (OpenSpec.upto fnExactPickBlockSpec)

end Rows
end Go.Proofs.Ytiggokojffejeaa
