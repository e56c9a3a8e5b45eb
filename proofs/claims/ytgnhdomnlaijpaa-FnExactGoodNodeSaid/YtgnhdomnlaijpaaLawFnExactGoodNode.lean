/- The row of the law FnExactGoodNode, out of its pure statement and the printed walk; for every input; no condition. Written by this session's program myrow.py. -/
import Derived.Test.YtgnhdomnlaijpaaRows
import Derived.Test.YtgnhdomnlaijpaaTells
import Derived.Test.YtgnhdomnlaijpaaPureFnExactGoodNode
import Derived.Test.YtgnhdomnlaijpaaPFnExactGoodNodex7
import Derived.WalkKit
import Derived.ProofKit
import Derived.OpenShut
import Derived.ShutString
import Derived.ChangeOld
import Derived.Below
import Derived.SizedLaws
namespace Go.Proofs.Ytgnhdomnlaijpaa.fnExactGoodNode
open Go.ChangeShapes Go.WideShapes Go.ChangeAt Go.RowKit Go.Proofs.Ytgnhdomnlaijpaa.PFnExactGoodNode Go.Proofs.YtgnhdomnlaijpaaW.PrintWords Go.Proofs.Ytgnhdomnlaijpaa.Open
open Go.ChangeMaps (open_string shut_string)
set_option linter.unusedVariables false
theorem own : ownKnob Try.prog.godebug = none := by kernel_rfl
theorem laidOut : laidOutB Try.prog = true := by kernel_rfl
set_option maxRecDepth 100000 in
theorem lifted (os : Os) (started : os.Started) (H : Type) (enc : TypeId × Value → H) :
    ReturnsInHanded {} Try.checked os 6 .any (Rows.fnExactGoodNodeSpec.pre6 enc Try.prog Try.f6 Rows.fnExactGoodNodeRow.domain false) (Rows.fnExactGoodNodeSpec.post enc Try.prog Try.f6 false true false false) := by
  refine returnsInHanded_of_change_sized (C := Try.checked) own started (by kernel_rfl) Try.func6
    (ChangeSpec.witness6 (enc := enc) (C := Try.checked) false ⟨#[], #[.agg #[.slice none 0 0, .slice none 0 0]], []⟩ 8 (by kernel_rfl) (by kernel_rfl) (by kernel_rfl) (by kernel_rfl)) ?_
  intro W base args ds gs before hval0 hW hcnd hsz0 _
  have hval : ∀ (j : Nat) t v, Try.f6.params[j]? = some t → args[j]? = some v → Value.okWide Try.prog W .any base t v := hval0
  have hW' := hW
  obtain ⟨p, q, hA0, hV, rfl, hfz, hnd⟩ := hW
  have hA : DataW.TrodAll enc Try.prog W 0 (fun _ => true) true Try.f6.params.toList args.toList ds p := hA0
  rw [Try.params6] at hA hval
  obtain ⟨v0, vs0, d0, ds0, p0, q0, hargs, rfl, rfl, h0, r0⟩ := trodAll_cons hA
  obtain ⟨rfl, rfl, rfl⟩ := trodAll_nil r0
  obtain rfl : args = #[v0] := by cases args; simp_all
  obtain ⟨rfl, rfl⟩ := trodVars_none hV
  have k0 := h0
  have lt0 : ∀ x ∈ p0, x.block < W.heap.size := by obtain ⟨m, hm⟩ := k0; exact DataW.trod_lt m _ _ _ hm
  obtain ⟨b0, kb0, qb0⟩ := arg_tells h0 (tells_struct Try.underlying41 (by kernel_rfl) (tellsF_cons (tells_slice (q := 3) Try.underlying22 (by kernel_rfl) (tells_int Try.underlying3)) rfl (by kernel_rfl) (tellsF_one (tells_slice (q := 62) Try.underlying39 (by kernel_rfl) (tells_iso (tells_struct Try.underlying62 (by kernel_rfl) (tellsF_cons (tells_int Try.underlying3) rfl (by kernel_rfl) (tellsF_cons (tells_int Try.underlying3) rfl (by kernel_rfl) (tellsF_cons (tells_int Try.underlying3) rfl (by kernel_rfl) (tellsF_cons (tells_int Try.underlying3) rfl (by kernel_rfl) (tellsF_cons (tells_int Try.underlying3) rfl (by kernel_rfl) (tellsF_one (tells_int Try.underlying3) rfl (by kernel_rfl)))))))) (fun x : S62 => (x.f0, x.f1, x.f2, x.f3, x.f4, x.f5)) (fun a => (⟨a.1, a.2.1, a.2.2.1, a.2.2.2.1, a.2.2.2.2.1, a.2.2.2.2.2⟩ : S62)) (fun _ => rfl))) rfl (by kernel_rfl))))
  obtain ⟨x0_0, y0_0, e0, ⟨A0_0, c0_0, rfl, hc0_0, hr0_0⟩, ⟨A0_1, c0_1, rfl, hc0_1, hr0_1⟩⟩ := kb0
  have ev0 : v0 = .agg #[.slice A0_0 b0.1.length c0_0, .slice A0_1 b0.2.length c0_1] := agg_of Try.underlying41 (hval 0 41 v0 rfl rfl) e0
  subst ev0
  clear hA0 hval0 hsz0
  obtain ⟨k, h⟩ := Pure.FnExactGoodNode _ _ (qb0.1) (qb0.2)
  refine (laws_FnExactGoodNode.calls k _ _ b0.1 _ _ b0.2 true W hr0_0 hc0_0 hr0_1 hc0_1 h).mono fun e W' ⟨he, bel⟩ => ?_
  subst he
  exact ⟨_, rfl, _, _, _, [], _, [], hW', trodAll_mk1 (shut_bool Try.underlying4 _), (trodAll_cons_mk (Below.trod laidOut (by kernel_rfl) (of_decide_eq_true (by kernel_rfl)) k0 bel lt0) trodAll_mk0), rfl, bel.frame _, fun h => by cases h⟩
theorem over : Rows.fnExactGoodNodeRow.holds Try.pinned (OpenSpec.ofChange Rows.fnExactGoodNodeSpec) :=
  OpenClaim.holds_of_wide 6 Try.f6 rfl rfl rfl rfl rfl rfl rfl ⟨rfl, rfl, rfl, rfl, rfl⟩ rfl rfl rfl rfl rfl (by kernel_rfl) Try.func6 (by kernel_rfl)
    (of_decide_eq_true (by kernel_rfl)) (by unfold Func.isWrapper; first | (rw [if_pos (by decide +kernel)]; kernel_rfl) | (rw [if_neg (by decide +kernel)]; exact ⟨rfl, rfl⟩))
    (fun os started H enc _ => lifted os started H enc)
theorem proved : Rows.FnExactGoodNodeSaid := over
end Go.Proofs.Ytgnhdomnlaijpaa.fnExactGoodNode
namespace Go.Proofs.Ytgnhdomnlaijpaa
/-- The row, under a short name, for the claim. -/
theorem fnExactGoodNode_holds : Rows.FnExactGoodNodeSaid := fnExactGoodNode.proved
end Go.Proofs.Ytgnhdomnlaijpaa
