/-
  No cell of these rows narrows 'for every input' (looked for: loops, veiled, ifaces, maps, wideKeys, modest, calm, conditions, laid).
  DERIVED. THE GIVEN ROWS OF THIS SEAT. 6 by the template 'for every input the law returns true; each argument reads behind the call as it read before'; 0 by the template 'total and deterministic' (their statements: YthalkdcpfiobkaaTotals.lean).
  GIVEN WITH THE SEED: the statements are not yours to turn. If you find one false, say at which input.
  Laid BY PROGRAM, IN A SANDBOX (cutbox-rows.mjs): the forced cells as the released guide's own fill.sh prints them over the translation 350d4e27e5167384… (all of the seat's roots in one cut). By AI agents, Wed Nov 11 2026. No macro, syntax, notation, axiom, sorry.
-/
import Derived.Test.YthalkdcpfiobkaaChecked
import GoSem.Claim
import GoSem.ClaimJoined
import GoSem.ClaimMapViews
import Derived.JoinedTies
import Derived.KernelRfl
namespace Go.Proofs.Ythalkdcpfiobkaa
/- THE CELL 'sum', in the pinned program and in every row, IS THE sha256 OF THE DUMP (.gsa) THAT YthalkdcpfiobkaaProg.lean LOADS. Nothing in Lean hashes anything: it is a label: what it is worth is what the hold of that sum in a sandbox is worth. -/
noncomputable def Try.pinned : Pinned := { name := "ythalkdcpfiobkaa", sum := "350d4e27e516738416a892a0f39f005ba7e5ea15eb1db565e98cc5a4b6a9ad43", checked := Try.checked }
namespace Rows
def none {H : Type} : Left H := { results := [], args := [] }

/-- 'laws.FnExactGoodWishes': WHATEVER THE INPUT: true; the input reads as it did. -/
def fnExactGoodWishesSpec : ChangeSpec := { name := "fnExactGoodWishes", fn := fun _ => fun
  | [d1, d2] => { results := [.lit (.bool true)], args := [d1, d2] }
  | _ => none }
def fnExactGoodWishesRow : OpenClaim := { program := "ythalkdcpfiobkaa", sum := "350d4e27e516738416a892a0f39f005ba7e5ea15eb1db565e98cc5a4b6a9ad43", func := "loop.example/g00564/laws.FnExactGoodWishes", spec := "fnExactGoodWishes", unfollowed := true, recurses := true, apart := false }
def FnExactGoodWishesSaid : Prop := fnExactGoodWishesRow.holds Try.pinned (OpenSpec.ofChange fnExactGoodWishesSpec)

/-- ITS FALSE NEIGHBOUR: 'it returns false'. Refute it at one input. -/
def fnExactGoodWishesWrong : ChangeSpec := { name := "fnExactGoodWishes", fn := fun _ => fun
  | [d1, d2] => { results := [.lit (.bool false)], args := [d1, d2] }
  | _ => none }
def FnExactGoodWishesWrongFalsely : Prop := fnExactGoodWishesRow.holds Try.pinned (OpenSpec.ofChange fnExactGoodWishesWrong)

/-- 'laws.FnExactPruneWishes': WHATEVER THE INPUT: true; the input reads as it did. -/
def fnExactPruneWishesSpec : ChangeSpec := { name := "fnExactPruneWishes", fn := fun _ => fun
  | [d1, d2] => { results := [.lit (.bool true)], args := [d1, d2] }
  | _ => none }
def fnExactPruneWishesRow : OpenClaim := { program := "ythalkdcpfiobkaa", sum := "350d4e27e516738416a892a0f39f005ba7e5ea15eb1db565e98cc5a4b6a9ad43", func := "loop.example/g00564/laws.FnExactPruneWishes", spec := "fnExactPruneWishes", unfollowed := true, recurses := true, apart := false }
def FnExactPruneWishesSaid : Prop := fnExactPruneWishesRow.holds Try.pinned (OpenSpec.ofChange fnExactPruneWishesSpec)

/-- ITS FALSE NEIGHBOUR: 'it returns false'. Refute it at one input. -/
def fnExactPruneWishesWrong : ChangeSpec := { name := "fnExactPruneWishes", fn := fun _ => fun
  | [d1, d2] => { results := [.lit (.bool false)], args := [d1, d2] }
  | _ => none }
def FnExactPruneWishesWrongFalsely : Prop := fnExactPruneWishesRow.holds Try.pinned (OpenSpec.ofChange fnExactPruneWishesWrong)

/-- 'laws.FnExactReadyIn': WHATEVER THE INPUT: true; the input reads as it did. -/
def fnExactReadyInSpec : ChangeSpec := { name := "fnExactReadyIn", fn := fun _ => fun
  | [d1, d2, d3] => { results := [.lit (.bool true)], args := [d1, d2, d3] }
  | _ => none }
def fnExactReadyInRow : OpenClaim := { program := "ythalkdcpfiobkaa", sum := "350d4e27e516738416a892a0f39f005ba7e5ea15eb1db565e98cc5a4b6a9ad43", func := "loop.example/g00564/laws.FnExactReadyIn", spec := "fnExactReadyIn", unfollowed := true, recurses := true, apart := false }
def FnExactReadyInSaid : Prop := fnExactReadyInRow.holds Try.pinned (OpenSpec.ofChange fnExactReadyInSpec)

/-- ITS FALSE NEIGHBOUR: 'it returns false'. Refute it at one input. -/
def fnExactReadyInWrong : ChangeSpec := { name := "fnExactReadyIn", fn := fun _ => fun
  | [d1, d2, d3] => { results := [.lit (.bool false)], args := [d1, d2, d3] }
  | _ => none }
def FnExactReadyInWrongFalsely : Prop := fnExactReadyInRow.holds Try.pinned (OpenSpec.ofChange fnExactReadyInWrong)

/-- 'laws.FnExactAddWish': WHATEVER THE INPUT: true; the input reads as it did. -/
def fnExactAddWishSpec : ChangeSpec := { name := "fnExactAddWish", fn := fun _ => fun
  | [d1, d2, d3] => { results := [.lit (.bool true)], args := [d1, d2, d3] }
  | _ => none }
def fnExactAddWishRow : OpenClaim := { program := "ythalkdcpfiobkaa", sum := "350d4e27e516738416a892a0f39f005ba7e5ea15eb1db565e98cc5a4b6a9ad43", func := "loop.example/g00564/laws.FnExactAddWish", spec := "fnExactAddWish", unfollowed := true, recurses := true, apart := false }
def FnExactAddWishSaid : Prop := fnExactAddWishRow.holds Try.pinned (OpenSpec.ofChange fnExactAddWishSpec)

/-- ITS FALSE NEIGHBOUR: 'it returns false'. Refute it at one input. -/
def fnExactAddWishWrong : ChangeSpec := { name := "fnExactAddWish", fn := fun _ => fun
  | [d1, d2, d3] => { results := [.lit (.bool false)], args := [d1, d2, d3] }
  | _ => none }
def FnExactAddWishWrongFalsely : Prop := fnExactAddWishRow.holds Try.pinned (OpenSpec.ofChange fnExactAddWishWrong)

/-- 'laws.FnExactApplyWish': WHATEVER THE INPUT: true; the input reads as it did. -/
def fnExactApplyWishSpec : ChangeSpec := { name := "fnExactApplyWish", fn := fun _ => fun
  | [d1, d2, d3, d4] => { results := [.lit (.bool true)], args := [d1, d2, d3, d4] }
  | _ => none }
def fnExactApplyWishRow : OpenClaim := { program := "ythalkdcpfiobkaa", sum := "350d4e27e516738416a892a0f39f005ba7e5ea15eb1db565e98cc5a4b6a9ad43", func := "loop.example/g00564/laws.FnExactApplyWish", spec := "fnExactApplyWish", apart := false }
def FnExactApplyWishSaid : Prop := fnExactApplyWishRow.holds Try.pinned (OpenSpec.ofChange fnExactApplyWishSpec)

/-- ITS FALSE NEIGHBOUR: 'it returns false'. Refute it at one input. -/
def fnExactApplyWishWrong : ChangeSpec := { name := "fnExactApplyWish", fn := fun _ => fun
  | [d1, d2, d3, d4] => { results := [.lit (.bool false)], args := [d1, d2, d3, d4] }
  | _ => none }
def FnExactApplyWishWrongFalsely : Prop := fnExactApplyWishRow.holds Try.pinned (OpenSpec.ofChange fnExactApplyWishWrong)

/-- 'laws.FnExactPickBlock': WHATEVER THE INPUT: true; the input reads as it did. -/
def fnExactPickBlockSpec : ChangeSpec := { name := "fnExactPickBlock", fn := fun _ => fun
  | [d1, d2, d3, d4] => { results := [.lit (.bool true)], args := [d1, d2, d3, d4] }
  | _ => none }
def fnExactPickBlockRow : OpenClaim := { program := "ythalkdcpfiobkaa", sum := "350d4e27e516738416a892a0f39f005ba7e5ea15eb1db565e98cc5a4b6a9ad43", func := "loop.example/g00564/laws.FnExactPickBlock", spec := "fnExactPickBlock", unfollowed := true, recurses := true, apart := false }
def FnExactPickBlockSaid : Prop := fnExactPickBlockRow.holds Try.pinned (OpenSpec.ofChange fnExactPickBlockSpec)

/-- ITS FALSE NEIGHBOUR: 'it returns false'. Refute it at one input. -/
def fnExactPickBlockWrong : ChangeSpec := { name := "fnExactPickBlock", fn := fun _ => fun
  | [d1, d2, d3, d4] => { results := [.lit (.bool false)], args := [d1, d2, d3, d4] }
  | _ => none }
def FnExactPickBlockWrongFalsely : Prop := fnExactPickBlockRow.holds Try.pinned (OpenSpec.ofChange fnExactPickBlockWrong)

/- THE SECOND FORM. 'bulk': how many values and letters a reading holds, each counted each time it is reached (what is shared counts as often as it is met; a slice's spare places count too). A statement '..UptoSaid' is the law's where the arguments, and the package variables that the reading takes, are together of bulk at most 1048576: NARROWER than '..Said'. Prove '..Said' where nothing that the law and all that it calls make is longer than what came in: it says more and counts as full. Else prove '..UptoSaid'. A law counts once. -/
mutual
def uptoBulk {H : Type} : DataW H → Nat
  | .lit (.string bytes) => bytes.length + 1
  | .lit _ => 1
  | .nil => 1
  | .ptr d => uptoBulk d + 1
  | .slice elems spare => uptoBulkAll elems + uptoBulkAll spare + 1
  | .agg parts => uptoBulkAll parts + 1
  | .iface _ d => uptoBulk d + 1
  | .map entries => uptoBulkEntries entries + 1
  | .held _ => 1
def uptoBulkAll {H : Type} : List (DataW H) → Nat
  | [] => 0
  | d :: r => uptoBulk d + uptoBulkAll r
def uptoBulkEntries {H : Type} : List (Lit × DataW H) → Nat
  | [] => 0
  | x :: r => uptoBulkEntry x + uptoBulkEntries r
def uptoBulkEntry {H : Type} : Lit × DataW H → Nat
  | (.string bytes, d) => bytes.length + uptoBulk d + 1
  | (_, d) => uptoBulk d + 1
 end
def uptoSmall : (H : Type) → List (DataW H) → Bool := fun _ ds => decide (uptoBulkAll ds ≤ 1048576)
def OpenSpec.upto (s : _root_.Go.ChangeSpec) : _root_.Go.OpenSpec := { _root_.Go.OpenSpec.ofChange s with cond := some uptoSmall }

/-- 'laws.FnExactGoodWishes', WHERE WHAT IT READS IS OF BULK AT MOST 1048576: true; the input reads as it did. -/
def fnExactGoodWishesUptoRow : OpenClaim := { program := "ythalkdcpfiobkaa", sum := "350d4e27e516738416a892a0f39f005ba7e5ea15eb1db565e98cc5a4b6a9ad43", func := "loop.example/g00564/laws.FnExactGoodWishes", spec := "fnExactGoodWishes", unfollowed := true, recurses := true, apart := false, narrowed := true }
def FnExactGoodWishesUptoSaid : Prop := fnExactGoodWishesUptoRow.holds Try.pinned (OpenSpec.upto fnExactGoodWishesSpec)

/-- 'laws.FnExactPruneWishes', WHERE WHAT IT READS IS OF BULK AT MOST 1048576: true; the input reads as it did. -/
def fnExactPruneWishesUptoRow : OpenClaim := { program := "ythalkdcpfiobkaa", sum := "350d4e27e516738416a892a0f39f005ba7e5ea15eb1db565e98cc5a4b6a9ad43", func := "loop.example/g00564/laws.FnExactPruneWishes", spec := "fnExactPruneWishes", unfollowed := true, recurses := true, apart := false, narrowed := true }
def FnExactPruneWishesUptoSaid : Prop := fnExactPruneWishesUptoRow.holds Try.pinned (OpenSpec.upto fnExactPruneWishesSpec)

/-- 'laws.FnExactReadyIn', WHERE WHAT IT READS IS OF BULK AT MOST 1048576: true; the input reads as it did. -/
def fnExactReadyInUptoRow : OpenClaim := { program := "ythalkdcpfiobkaa", sum := "350d4e27e516738416a892a0f39f005ba7e5ea15eb1db565e98cc5a4b6a9ad43", func := "loop.example/g00564/laws.FnExactReadyIn", spec := "fnExactReadyIn", unfollowed := true, recurses := true, apart := false, narrowed := true }
def FnExactReadyInUptoSaid : Prop := fnExactReadyInUptoRow.holds Try.pinned (OpenSpec.upto fnExactReadyInSpec)

/-- 'laws.FnExactAddWish', WHERE WHAT IT READS IS OF BULK AT MOST 1048576: true; the input reads as it did. -/
def fnExactAddWishUptoRow : OpenClaim := { program := "ythalkdcpfiobkaa", sum := "350d4e27e516738416a892a0f39f005ba7e5ea15eb1db565e98cc5a4b6a9ad43", func := "loop.example/g00564/laws.FnExactAddWish", spec := "fnExactAddWish", unfollowed := true, recurses := true, apart := false, narrowed := true }
def FnExactAddWishUptoSaid : Prop := fnExactAddWishUptoRow.holds Try.pinned (OpenSpec.upto fnExactAddWishSpec)

/-- 'laws.FnExactApplyWish', WHERE WHAT IT READS IS OF BULK AT MOST 1048576: true; the input reads as it did. -/
def fnExactApplyWishUptoRow : OpenClaim := { program := "ythalkdcpfiobkaa", sum := "350d4e27e516738416a892a0f39f005ba7e5ea15eb1db565e98cc5a4b6a9ad43", func := "loop.example/g00564/laws.FnExactApplyWish", spec := "fnExactApplyWish", apart := false, narrowed := true }
def FnExactApplyWishUptoSaid : Prop := fnExactApplyWishUptoRow.holds Try.pinned (OpenSpec.upto fnExactApplyWishSpec)

/-- 'laws.FnExactPickBlock', WHERE WHAT IT READS IS OF BULK AT MOST 1048576: true; the input reads as it did. -/
def fnExactPickBlockUptoRow : OpenClaim := { program := "ythalkdcpfiobkaa", sum := "350d4e27e516738416a892a0f39f005ba7e5ea15eb1db565e98cc5a4b6a9ad43", func := "loop.example/g00564/laws.FnExactPickBlock", spec := "fnExactPickBlock", unfollowed := true, recurses := true, apart := false, narrowed := true }
def FnExactPickBlockUptoSaid : Prop := fnExactPickBlockUptoRow.holds Try.pinned (OpenSpec.upto fnExactPickBlockSpec)

end Rows
end Go.Proofs.Ythalkdcpfiobkaa
