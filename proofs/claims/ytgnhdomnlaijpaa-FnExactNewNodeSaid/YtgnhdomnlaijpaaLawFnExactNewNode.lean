/- The row of the law FnExactNewNode, out of its pure statement and the printed walk; for every input; no condition. Written by this session's program myrow.py. -/
import Derived.Test.YtgnhdomnlaijpaaRows
import Derived.Test.YtgnhdomnlaijpaaTells
import Derived.Test.YtgnhdomnlaijpaaPureFnExactNewNode
import Derived.Test.YtgnhdomnlaijpaaPFnExactNewNodex4
import Derived.WalkKit
import Derived.ProofKit
import Derived.OpenShut
import Derived.ShutString
import Derived.ChangeOld
import Derived.Below
import Derived.SizedLaws
namespace Go.Proofs.Ytgnhdomnlaijpaa.fnExactNewNode
open Go.ChangeShapes Go.WideShapes Go.ChangeAt Go.RowKit Go.Proofs.Ytgnhdomnlaijpaa.PFnExactNewNode Go.Proofs.YtgnhdomnlaijpaaW.PrintWords Go.Proofs.Ytgnhdomnlaijpaa.Open
open Go.ChangeMaps (open_string shut_string)
set_option linter.unusedVariables false
theorem own : ownKnob Try.prog.godebug = none := by kernel_rfl
theorem laidOut : laidOutB Try.prog = true := by kernel_rfl
set_option maxRecDepth 100000 in
theorem lifted (os : Os) (started : os.Started) (H : Type) (enc : TypeId × Value → H) :
    ReturnsInHanded {} Try.checked os 5 .any (Rows.fnExactNewNodeSpec.pre6 enc Try.prog Try.f5 Rows.fnExactNewNodeRow.domain false) (Rows.fnExactNewNodeSpec.post enc Try.prog Try.f5 false true false false) := by
  refine returnsInHanded_of_change_sized (C := Try.checked) own started (by kernel_rfl) Try.func5
    (ChangeSpec.witness6 (enc := enc) (C := Try.checked) false ⟨#[], #[.slice none 0 0], []⟩ 8 (by kernel_rfl) (by kernel_rfl) (by kernel_rfl) (by kernel_rfl)) ?_
  intro W base args ds gs before hval0 hW hcnd hsz0 _
  have hval : ∀ (j : Nat) t v, Try.f5.params[j]? = some t → args[j]? = some v → Value.okWide Try.prog W .any base t v := hval0
  have hW' := hW
  obtain ⟨p, q, hA0, hV, rfl, hfz, hnd⟩ := hW
  have hA : DataW.TrodAll enc Try.prog W 0 (fun _ => true) true Try.f5.params.toList args.toList ds p := hA0
  rw [Try.params5] at hA hval
  obtain ⟨v0, vs0, d0, ds0, p0, q0, hargs, rfl, rfl, h0, r0⟩ := trodAll_cons hA
  obtain ⟨rfl, rfl, rfl⟩ := trodAll_nil r0
  obtain rfl : args = #[v0] := by cases args; simp_all
  obtain ⟨rfl, rfl⟩ := trodVars_none hV
  have k0 := h0
  have lt0 : ∀ x ∈ p0, x.block < W.heap.size := by obtain ⟨m, hm⟩ := k0; exact DataW.trod_lt m _ _ _ hm
  obtain ⟨b0, kb0, qb0⟩ := arg_tells h0 (tells_slice (q := 3) Try.underlying22 (by kernel_rfl) (tells_int Try.underlying3))
  obtain ⟨A0, c0, e0, hc0, hr0⟩ := kb0
  obtain rfl := slice_of Try.underlying22 (hval 0 22 v0 rfl rfl) e0
  clear hA0 hval0 hsz0
  obtain ⟨k, h⟩ := Pure.FnExactNewNode _ (qb0)
  refine (laws_FnExactNewNode.calls k _ _ b0 true W hr0 hc0 h).mono fun e W' ⟨he, bel⟩ => ?_
  subst he
  exact ⟨_, rfl, _, _, _, [], _, [], hW', trodAll_mk1 (shut_bool Try.underlying4 _), (trodAll_cons_mk (Below.trod laidOut (by kernel_rfl) (of_decide_eq_true (by kernel_rfl)) k0 bel lt0) trodAll_mk0), rfl, bel.frame _, fun h => by cases h⟩
theorem over : Rows.fnExactNewNodeRow.holds Try.pinned (OpenSpec.ofChange Rows.fnExactNewNodeSpec) :=
  OpenClaim.holds_of_wide 5 Try.f5 rfl rfl rfl rfl rfl rfl rfl ⟨rfl, rfl, rfl, rfl, rfl⟩ rfl rfl rfl rfl rfl (by kernel_rfl) Try.func5 (by kernel_rfl)
    (of_decide_eq_true (by kernel_rfl)) (by unfold Func.isWrapper; first | (rw [if_pos (by decide +kernel)]; kernel_rfl) | (rw [if_neg (by decide +kernel)]; exact ⟨rfl, rfl⟩))
    (fun os started H enc _ => lifted os started H enc)
theorem proved : Rows.FnExactNewNodeSaid := over
end Go.Proofs.Ytgnhdomnlaijpaa.fnExactNewNode
namespace Go.Proofs.Ytgnhdomnlaijpaa
/-- The row, under a short name, for the claim. -/
theorem fnExactNewNode_holds : Rows.FnExactNewNodeSaid := fnExactNewNode.proved
end Go.Proofs.Ytgnhdomnlaijpaa
