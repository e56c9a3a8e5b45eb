/-
  No cell of these rows narrows 'for every input' (looked for: loops, veiled, ifaces, maps, wideKeys, modest, calm, conditions, laid).
  DERIVED. THE GIVEN ROWS OF THIS SEAT. 8 by the template 'for every input the law returns true; each argument reads behind the call as it read before'; 0 by the template 'total and deterministic' (their statements: YtfhklbbpfofhpaaTotals.lean).
  GIVEN WITH THE SEED: the statements are not yours to turn. If you find one false, say at which input.
  Laid BY PROGRAM, IN A SANDBOX (cutbox-rows.mjs): the forced cells as the released guide's own fill.sh prints them over the translation 5be32e740d38d833… (all of the seat's roots in one cut). By AI agents, Wed Nov 11 2026. No macro, syntax, notation, axiom, sorry.
-/
import Derived.Test.YtfhklbbpfofhpaaChecked
import GoSem.Claim
import GoSem.ClaimJoined
import GoSem.ClaimMapViews
import Derived.JoinedTies
import Derived.KernelRfl
namespace Go.Proofs.Ytfhklbbpfofhpaa
/- THE CELL 'sum', in the pinned program and in every row, IS THE sha256 OF THE DUMP (.gsa) THAT YtfhklbbpfofhpaaProg.lean LOADS. Nothing in Lean hashes anything: it is a label: what it is worth is what the hold of that sum in a sandbox is worth. -/
noncomputable def Try.pinned : Pinned := { name := "ytfhklbbpfofhpaa", sum := "5be32e740d38d833747e44603bd8479439ae8ad59f9fa643b7c47c5411dab1b5", checked := Try.checked }
namespace Rows
def none {H : Type} : Left H := { results := [], args := [] }

/-- 'laws.FnExactSizeOf': WHATEVER THE INPUT: true; the input reads as it did. -/
def fnExactSizeOfSpec : ChangeSpec := { name := "fnExactSizeOf", fn := fun _ => fun
  | [d] => { results := [.lit (.bool true)], args := [d] }
  | _ => none }
def fnExactSizeOfRow : OpenClaim := { program := "ytfhklbbpfofhpaa", sum := "5be32e740d38d833747e44603bd8479439ae8ad59f9fa643b7c47c5411dab1b5", func := "loop.example/g00564/laws.FnExactSizeOf", spec := "fnExactSizeOf", apart := false }
def FnExactSizeOfSaid : Prop := fnExactSizeOfRow.holds Try.pinned (OpenSpec.ofChange fnExactSizeOfSpec)

/-- ITS FALSE NEIGHBOUR: 'it returns false'. Refute it at one input. -/
def fnExactSizeOfWrong : ChangeSpec := { name := "fnExactSizeOf", fn := fun _ => fun
  | [d] => { results := [.lit (.bool false)], args := [d] }
  | _ => none }
def FnExactSizeOfWrongFalsely : Prop := fnExactSizeOfRow.holds Try.pinned (OpenSpec.ofChange fnExactSizeOfWrong)

/-- 'laws.FnExactGoodState': WHATEVER THE INPUT: true; the input reads as it did. -/
def fnExactGoodStateSpec : ChangeSpec := { name := "fnExactGoodState", fn := fun _ => fun
  | [d] => { results := [.lit (.bool true)], args := [d] }
  | _ => none }
def fnExactGoodStateRow : OpenClaim := { program := "ytfhklbbpfofhpaa", sum := "5be32e740d38d833747e44603bd8479439ae8ad59f9fa643b7c47c5411dab1b5", func := "loop.example/g00564/laws.FnExactGoodState", spec := "fnExactGoodState", apart := false }
def FnExactGoodStateSaid : Prop := fnExactGoodStateRow.holds Try.pinned (OpenSpec.ofChange fnExactGoodStateSpec)

/-- ITS FALSE NEIGHBOUR: 'it returns false'. Refute it at one input. -/
def fnExactGoodStateWrong : ChangeSpec := { name := "fnExactGoodState", fn := fun _ => fun
  | [d] => { results := [.lit (.bool false)], args := [d] }
  | _ => none }
def FnExactGoodStateWrongFalsely : Prop := fnExactGoodStateRow.holds Try.pinned (OpenSpec.ofChange fnExactGoodStateWrong)

/-- 'laws.FnExactNextNonce': WHATEVER THE INPUT: true; the input reads as it did. -/
def fnExactNextNonceSpec : ChangeSpec := { name := "fnExactNextNonce", fn := fun _ => fun
  | [d1, d2] => { results := [.lit (.bool true)], args := [d1, d2] }
  | _ => none }
def fnExactNextNonceRow : OpenClaim := { program := "ytfhklbbpfofhpaa", sum := "5be32e740d38d833747e44603bd8479439ae8ad59f9fa643b7c47c5411dab1b5", func := "loop.example/g00564/laws.FnExactNextNonce", spec := "fnExactNextNonce", apart := false }
def FnExactNextNonceSaid : Prop := fnExactNextNonceRow.holds Try.pinned (OpenSpec.ofChange fnExactNextNonceSpec)

/-- ITS FALSE NEIGHBOUR: 'it returns false'. Refute it at one input. -/
def fnExactNextNonceWrong : ChangeSpec := { name := "fnExactNextNonce", fn := fun _ => fun
  | [d1, d2] => { results := [.lit (.bool false)], args := [d1, d2] }
  | _ => none }
def FnExactNextNonceWrongFalsely : Prop := fnExactNextNonceRow.holds Try.pinned (OpenSpec.ofChange fnExactNextNonceWrong)

/-- 'laws.FnExactTotalOf': WHATEVER THE INPUT: true; the input reads as it did. -/
def fnExactTotalOfSpec : ChangeSpec := { name := "fnExactTotalOf", fn := fun _ => fun
  | [d] => { results := [.lit (.bool true)], args := [d] }
  | _ => none }
def fnExactTotalOfRow : OpenClaim := { program := "ytfhklbbpfofhpaa", sum := "5be32e740d38d833747e44603bd8479439ae8ad59f9fa643b7c47c5411dab1b5", func := "loop.example/g00564/laws.FnExactTotalOf", spec := "fnExactTotalOf", apart := false }
def FnExactTotalOfSaid : Prop := fnExactTotalOfRow.holds Try.pinned (OpenSpec.ofChange fnExactTotalOfSpec)

/-- ITS FALSE NEIGHBOUR: 'it returns false'. Refute it at one input. -/
def fnExactTotalOfWrong : ChangeSpec := { name := "fnExactTotalOf", fn := fun _ => fun
  | [d] => { results := [.lit (.bool false)], args := [d] }
  | _ => none }
def FnExactTotalOfWrongFalsely : Prop := fnExactTotalOfRow.holds Try.pinned (OpenSpec.ofChange fnExactTotalOfWrong)

/-- 'laws.FnExactGoodWish': WHATEVER THE INPUT: true; the input reads as it did. -/
def fnExactGoodWishSpec : ChangeSpec := { name := "fnExactGoodWish", fn := fun _ => fun
  | [d1, d2] => { results := [.lit (.bool true)], args := [d1, d2] }
  | _ => none }
def fnExactGoodWishRow : OpenClaim := { program := "ytfhklbbpfofhpaa", sum := "5be32e740d38d833747e44603bd8479439ae8ad59f9fa643b7c47c5411dab1b5", func := "loop.example/g00564/laws.FnExactGoodWish", spec := "fnExactGoodWish", apart := false }
def FnExactGoodWishSaid : Prop := fnExactGoodWishRow.holds Try.pinned (OpenSpec.ofChange fnExactGoodWishSpec)

/-- ITS FALSE NEIGHBOUR: 'it returns false'. Refute it at one input. -/
def fnExactGoodWishWrong : ChangeSpec := { name := "fnExactGoodWish", fn := fun _ => fun
  | [d1, d2] => { results := [.lit (.bool false)], args := [d1, d2] }
  | _ => none }
def FnExactGoodWishWrongFalsely : Prop := fnExactGoodWishRow.holds Try.pinned (OpenSpec.ofChange fnExactGoodWishWrong)

/-- 'laws.FnExactSameState': WHATEVER THE INPUT: true; the input reads as it did. -/
def fnExactSameStateSpec : ChangeSpec := { name := "fnExactSameState", fn := fun _ => fun
  | [d1, d2] => { results := [.lit (.bool true)], args := [d1, d2] }
  | _ => none }
def fnExactSameStateRow : OpenClaim := { program := "ytfhklbbpfofhpaa", sum := "5be32e740d38d833747e44603bd8479439ae8ad59f9fa643b7c47c5411dab1b5", func := "loop.example/g00564/laws.FnExactSameState", spec := "fnExactSameState", apart := false }
def FnExactSameStateSaid : Prop := fnExactSameStateRow.holds Try.pinned (OpenSpec.ofChange fnExactSameStateSpec)

/-- ITS FALSE NEIGHBOUR: 'it returns false'. Refute it at one input. -/
def fnExactSameStateWrong : ChangeSpec := { name := "fnExactSameState", fn := fun _ => fun
  | [d1, d2] => { results := [.lit (.bool false)], args := [d1, d2] }
  | _ => none }
def FnExactSameStateWrongFalsely : Prop := fnExactSameStateRow.holds Try.pinned (OpenSpec.ofChange fnExactSameStateWrong)

/-- 'laws.FnExactMayApply': WHATEVER THE INPUT: true; the input reads as it did. -/
def fnExactMayApplySpec : ChangeSpec := { name := "fnExactMayApply", fn := fun _ => fun
  | [d1, d2, d3] => { results := [.lit (.bool true)], args := [d1, d2, d3] }
  | _ => none }
def fnExactMayApplyRow : OpenClaim := { program := "ytfhklbbpfofhpaa", sum := "5be32e740d38d833747e44603bd8479439ae8ad59f9fa643b7c47c5411dab1b5", func := "loop.example/g00564/laws.FnExactMayApply", spec := "fnExactMayApply", apart := false }
def FnExactMayApplySaid : Prop := fnExactMayApplyRow.holds Try.pinned (OpenSpec.ofChange fnExactMayApplySpec)

/-- ITS FALSE NEIGHBOUR: 'it returns false'. Refute it at one input. -/
def fnExactMayApplyWrong : ChangeSpec := { name := "fnExactMayApply", fn := fun _ => fun
  | [d1, d2, d3] => { results := [.lit (.bool false)], args := [d1, d2, d3] }
  | _ => none }
def FnExactMayApplyWrongFalsely : Prop := fnExactMayApplyRow.holds Try.pinned (OpenSpec.ofChange fnExactMayApplyWrong)

/-- 'laws.FnExactUndoBody': WHATEVER THE INPUT: true; the input reads as it did. -/
def fnExactUndoBodySpec : ChangeSpec := { name := "fnExactUndoBody", fn := fun _ => fun
  | [d1, d2] => { results := [.lit (.bool true)], args := [d1, d2] }
  | _ => none }
def fnExactUndoBodyRow : OpenClaim := { program := "ytfhklbbpfofhpaa", sum := "5be32e740d38d833747e44603bd8479439ae8ad59f9fa643b7c47c5411dab1b5", func := "loop.example/g00564/laws.FnExactUndoBody", spec := "fnExactUndoBody", apart := false }
def FnExactUndoBodySaid : Prop := fnExactUndoBodyRow.holds Try.pinned (OpenSpec.ofChange fnExactUndoBodySpec)

/-- ITS FALSE NEIGHBOUR: 'it returns false'. Refute it at one input. -/
def fnExactUndoBodyWrong : ChangeSpec := { name := "fnExactUndoBody", fn := fun _ => fun
  | [d1, d2] => { results := [.lit (.bool false)], args := [d1, d2] }
  | _ => none }
def FnExactUndoBodyWrongFalsely : Prop := fnExactUndoBodyRow.holds Try.pinned (OpenSpec.ofChange fnExactUndoBodyWrong)

/- THE SECOND FORM. 'bulk': how many values and letters a reading holds, each counted each time it is reached (what is shared counts as often as it is met; a slice's spare places count too). A statement '..UptoSaid' is the law's where the arguments, and the package variables that the reading takes, are together of bulk at most 1048576: NARROWER than '..Said'. Prove '..Said' where nothing that the law and all that it calls make is longer than what came in: it says more and counts as full. Else prove '..UptoSaid'. A law counts once. -/
mutual
def uptoBulk {H : Type} : DataW H → Nat
  | .lit (.string bytes) => bytes.length + 1
  | .lit _ => 1
  | .nil => 1
  | .ptr d => uptoBulk d + 1
  | .slice elems spare => uptoBulkAll elems + uptoBulkAll spare + 1
  | .agg parts => uptoBulkAll parts + 1
  | .iface _ d => uptoBulk d + 1
  | .map entries => uptoBulkEntries entries + 1
  | .held _ => 1
def uptoBulkAll {H : Type} : List (DataW H) → Nat
  | [] => 0
  | d :: r => uptoBulk d + uptoBulkAll r
def uptoBulkEntries {H : Type} : List (Lit × DataW H) → Nat
  | [] => 0
  | x :: r => uptoBulkEntry x + uptoBulkEntries r
def uptoBulkEntry {H : Type} : Lit × DataW H → Nat
  | (.string bytes, d) => bytes.length + uptoBulk d + 1
  | (_, d) => uptoBulk d + 1
 end
def uptoSmall : (H : Type) → List (DataW H) → Bool := fun _ ds => decide (uptoBulkAll ds ≤ 1048576)
def OpenSpec.upto (s : _root_.Go.ChangeSpec) : _root_.Go.OpenSpec := { _root_.Go.OpenSpec.ofChange s with cond := some uptoSmall }

/-- 'laws.FnExactSizeOf', WHERE WHAT IT READS IS OF BULK AT MOST 1048576: true; the input reads as it did. -/
def fnExactSizeOfUptoRow : OpenClaim := { program := "ytfhklbbpfofhpaa", sum := "5be32e740d38d833747e44603bd8479439ae8ad59f9fa643b7c47c5411dab1b5", func := "loop.example/g00564/laws.FnExactSizeOf", spec := "fnExactSizeOf", apart := false, narrowed := true }
def FnExactSizeOfUptoSaid : Prop := fnExactSizeOfUptoRow.holds Try.pinned (OpenSpec.upto fnExactSizeOfSpec)

/-- 'laws.FnExactGoodState', WHERE WHAT IT READS IS OF BULK AT MOST 1048576: true; the input reads as it did. -/
def fnExactGoodStateUptoRow : OpenClaim := { program := "ytfhklbbpfofhpaa", sum := "5be32e740d38d833747e44603bd8479439ae8ad59f9fa643b7c47c5411dab1b5", func := "loop.example/g00564/laws.FnExactGoodState", spec := "fnExactGoodState", apart := false, narrowed := true }
def FnExactGoodStateUptoSaid : Prop := fnExactGoodStateUptoRow.holds Try.pinned (OpenSpec.upto fnExactGoodStateSpec)

/-- 'laws.FnExactNextNonce', WHERE WHAT IT READS IS OF BULK AT MOST 1048576: true; the input reads as it did. -/
def fnExactNextNonceUptoRow : OpenClaim := { program := "ytfhklbbpfofhpaa", sum := "5be32e740d38d833747e44603bd8479439ae8ad59f9fa643b7c47c5411dab1b5", func := "loop.example/g00564/laws.FnExactNextNonce", spec := "fnExactNextNonce", apart := false, narrowed := true }
def FnExactNextNonceUptoSaid : Prop := fnExactNextNonceUptoRow.holds Try.pinned (OpenSpec.upto fnExactNextNonceSpec)

/-- 'laws.FnExactTotalOf', WHERE WHAT IT READS IS OF BULK AT MOST 1048576: true; the input reads as it did. -/
def fnExactTotalOfUptoRow : OpenClaim := { program := "ytfhklbbpfofhpaa", sum := "5be32e740d38d833747e44603bd8479439ae8ad59f9fa643b7c47c5411dab1b5", func := "loop.example/g00564/laws.FnExactTotalOf", spec := "fnExactTotalOf", apart := false, narrowed := true }
def FnExactTotalOfUptoSaid : Prop := fnExactTotalOfUptoRow.holds Try.pinned (OpenSpec.upto fnExactTotalOfSpec)

/-- 'laws.FnExactGoodWish', WHERE WHAT IT READS IS OF BULK AT MOST 1048576: true; the input reads as it did. -/
def fnExactGoodWishUptoRow : OpenClaim := { program := "ytfhklbbpfofhpaa", sum := "5be32e740d38d833747e44603bd8479439ae8ad59f9fa643b7c47c5411dab1b5", func := "loop.example/g00564/laws.FnExactGoodWish", spec := "fnExactGoodWish", apart := false, narrowed := true }
def FnExactGoodWishUptoSaid : Prop := fnExactGoodWishUptoRow.holds Try.pinned (OpenSpec.upto fnExactGoodWishSpec)

/-- 'laws.FnExactSameState', WHERE WHAT IT READS IS OF BULK AT MOST 1048576: true; the input reads as it did. -/
def fnExactSameStateUptoRow : OpenClaim := { program := "ytfhklbbpfofhpaa", sum := "5be32e740d38d833747e44603bd8479439ae8ad59f9fa643b7c47c5411dab1b5", func := "loop.example/g00564/laws.FnExactSameState", spec := "fnExactSameState", apart := false, narrowed := true }
def FnExactSameStateUptoSaid : Prop := fnExactSameStateUptoRow.holds Try.pinned (OpenSpec.upto fnExactSameStateSpec)

/-- 'laws.FnExactMayApply', WHERE WHAT IT READS IS OF BULK AT MOST 1048576: true; the input reads as it did. -/
def fnExactMayApplyUptoRow : OpenClaim := { program := "ytfhklbbpfofhpaa", sum := "5be32e740d38d833747e44603bd8479439ae8ad59f9fa643b7c47c5411dab1b5", func := "loop.example/g00564/laws.FnExactMayApply", spec := "fnExactMayApply", apart := false, narrowed := true }
def FnExactMayApplyUptoSaid : Prop := fnExactMayApplyUptoRow.holds Try.pinned (OpenSpec.upto fnExactMayApplySpec)

/-- 'laws.FnExactUndoBody', WHERE WHAT IT READS IS OF BULK AT MOST 1048576: true; the input reads as it did. -/
def fnExactUndoBodyUptoRow : OpenClaim := { program := "ytfhklbbpfofhpaa", sum := "5be32e740d38d833747e44603bd8479439ae8ad59f9fa643b7c47c5411dab1b5", func := "loop.example/g00564/laws.FnExactUndoBody", spec := "fnExactUndoBody", apart := false, narrowed := true }
def FnExactUndoBodyUptoSaid : Prop := fnExactUndoBodyUptoRow.holds Try.pinned (OpenSpec.upto fnExactUndoBodySpec)

end Rows
end Go.Proofs.Ytfhklbbpfofhpaa
