/- The row of the law FnExactTipFor, out of its pure statement and the printed walk; for every input; no condition. Written by this session's program myrow.py. -/
import Derived.Test.YtamnleamjdopmaaRows
import Derived.Test.YtamnleamjdopmaaTells
import Derived.Test.YtamnleamjdopmaaPureFnExactTipFor
import Derived.Test.YtamnleamjdopmaaPFnExactTipForx1
import Derived.WalkKit
import Derived.ProofKit
import Derived.OpenShut
import Derived.ShutString
import Derived.ChangeOld
import Derived.Below
import Derived.SizedLaws
namespace Go.Proofs.Ytamnleamjdopmaa.fnExactTipFor
open Go.ChangeShapes Go.WideShapes Go.ChangeAt Go.RowKit Go.Proofs.Ytamnleamjdopmaa.PFnExactTipFor Go.Proofs.YtamnleamjdopmaaW.PrintWords Go.Proofs.Ytamnleamjdopmaa.Open
open Go.ChangeMaps (open_string shut_string)
set_option linter.unusedVariables false
theorem own : ownKnob Try.prog.godebug = none := by kernel_rfl
theorem laidOut : laidOutB Try.prog = true := by kernel_rfl
set_option maxRecDepth 100000 in
theorem lifted (os : Os) (started : os.Started) (H : Type) (enc : TypeId × Value → H) :
    ReturnsInHanded {} Try.checked os 5 .any (Rows.fnExactTipForSpec.pre6 enc Try.prog Try.f5 Rows.fnExactTipForRow.domain false) (Rows.fnExactTipForSpec.post enc Try.prog Try.f5 false true false false) := by
  refine returnsInHanded_of_change_sized (C := Try.checked) own started (by kernel_rfl) Try.func5
    (ChangeSpec.witness6 (enc := enc) (C := Try.checked) false ⟨#[], #[.agg #[.int .i64 0, .int .i64 0, .int .i64 0, .int .i64 0, .int .i64 0, .int .i64 0, .int .i64 0], .int .i64 0], []⟩ 8 (by kernel_rfl) (by kernel_rfl) (by kernel_rfl) (by kernel_rfl)) ?_
  intro W base args ds gs before hval0 hW hcnd hsz0 _
  have hval : ∀ (j : Nat) t v, Try.f5.params[j]? = some t → args[j]? = some v → Value.okWide Try.prog W .any base t v := hval0
  have hW' := hW
  obtain ⟨p, q, hA0, hV, rfl, hfz, hnd⟩ := hW
  have hA : DataW.TrodAll enc Try.prog W 0 (fun _ => true) true Try.f5.params.toList args.toList ds p := hA0
  rw [Try.params5] at hA hval
  obtain ⟨v0, vs0, d0, ds0, p0, q0, hargs, rfl, rfl, h0, r0⟩ := trodAll_cons hA
  obtain ⟨v1, vs1, d1, ds1, p1, q1, rfl, rfl, rfl, h1, r1⟩ := trodAll_cons r0
  obtain ⟨rfl, rfl, rfl⟩ := trodAll_nil r1
  obtain rfl : args = #[v0, v1] := by cases args; simp_all
  obtain ⟨rfl, rfl⟩ := trodVars_none hV
  have k0 := h0
  have lt0 : ∀ x ∈ p0, x.block < W.heap.size := by obtain ⟨m, hm⟩ := k0; exact DataW.trod_lt m _ _ _ hm
  obtain ⟨b0, kb0, qb0⟩ := arg_tells h0 (tells_struct Try.underlying29 (by kernel_rfl) (tellsF_cons (tells_int Try.underlying3) rfl (by kernel_rfl) (tellsF_cons (tells_int Try.underlying3) rfl (by kernel_rfl) (tellsF_cons (tells_int Try.underlying3) rfl (by kernel_rfl) (tellsF_cons (tells_int Try.underlying3) rfl (by kernel_rfl) (tellsF_cons (tells_int Try.underlying3) rfl (by kernel_rfl) (tellsF_cons (tells_int Try.underlying3) rfl (by kernel_rfl) (tellsF_one (tells_int Try.underlying3) rfl (by kernel_rfl)))))))))
  obtain ⟨x0_0, y0_0, e0, rfl, ⟨x0_1, y0_1, rfl, rfl, ⟨x0_2, y0_2, rfl, rfl, ⟨x0_3, y0_3, rfl, rfl, ⟨x0_4, y0_4, rfl, rfl, ⟨x0_5, y0_5, rfl, rfl, rfl⟩⟩⟩⟩⟩⟩ := kb0
  have ev0 : v0 = .agg #[.int .i64 b0.1, .int .i64 b0.2.1, .int .i64 b0.2.2.1, .int .i64 b0.2.2.2.1, .int .i64 b0.2.2.2.2.1, .int .i64 b0.2.2.2.2.2.1, .int .i64 b0.2.2.2.2.2.2] := agg_of Try.underlying29 (hval 0 29 v0 rfl rfl) e0
  subst ev0
  obtain ⟨a1, rfl, rfl, rfl, w1⟩ := open_int Try.underlying3 (hval 1 3 v1 rfl rfl) h1
  clear hA0 hval0 hsz0
  have h := Pure.FnExactTipFor _ _ _ _ _ _ _ _ (qb0.1) (qb0.2.1) (qb0.2.2.1) (qb0.2.2.2.1) (qb0.2.2.2.2.1) (qb0.2.2.2.2.2.1) (qb0.2.2.2.2.2.2) (w1)
  refine (laws_FnExactTipFor.calls b0.1 b0.2.1 b0.2.2.1 b0.2.2.2.1 b0.2.2.2.2.1 b0.2.2.2.2.2.1 b0.2.2.2.2.2.2 a1 true W  h).mono fun e W' ⟨he, bel⟩ => ?_
  subst he
  exact ⟨_, rfl, _, _, _, [], _, [], hW', trodAll_mk1 (shut_bool Try.underlying4 _), (trodAll_cons_mk (Below.trod laidOut (by kernel_rfl) (of_decide_eq_true (by kernel_rfl)) k0 bel lt0) (trodAll_cons_mk (shut_int Try.underlying3 w1) trodAll_mk0)), rfl, bel.frame _, fun h => by cases h⟩
theorem over : Rows.fnExactTipForRow.holds Try.pinned (OpenSpec.ofChange Rows.fnExactTipForSpec) :=
  OpenClaim.holds_of_wide 5 Try.f5 rfl rfl rfl rfl rfl rfl rfl ⟨rfl, rfl, rfl, rfl, rfl⟩ rfl rfl rfl rfl rfl (by kernel_rfl) Try.func5 (by kernel_rfl)
    (of_decide_eq_true (by kernel_rfl)) (by unfold Func.isWrapper; first | (rw [if_pos (by decide +kernel)]; kernel_rfl) | (rw [if_neg (by decide +kernel)]; exact ⟨rfl, rfl⟩))
    (fun os started H enc _ => lifted os started H enc)
theorem proved : Rows.FnExactTipForSaid := over
end Go.Proofs.Ytamnleamjdopmaa.fnExactTipFor
namespace Go.Proofs.Ytamnleamjdopmaa
/-- The row, under a short name, for the claim. -/
theorem fnExactTipFor_holds : Rows.FnExactTipForSaid := fnExactTipFor.proved
end Go.Proofs.Ytamnleamjdopmaa
