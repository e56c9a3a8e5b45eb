/- The row of the law FnExactPathBetween, out of its pure statement and the printed walk; for every input; no condition. Written by this session's program myrow.py. -/
import Derived.Test.YtglnggfmkbmocaaRows
import Derived.Test.YtglnggfmkbmocaaTells
import Derived.Test.YtglnggfmkbmocaaPureFnExactPathBetween
import Derived.Test.YtglnggfmkbmocaaPFnExactPathBetweenx6
import Derived.WalkKit
import Derived.ProofKit
import Derived.OpenShut
import Derived.ShutString
import Derived.ChangeOld
import Derived.Below
import Derived.SizedLaws
namespace Go.Proofs.Ytglnggfmkbmocaa.fnExactPathBetween
open Go.ChangeShapes Go.WideShapes Go.ChangeAt Go.RowKit Go.Proofs.Ytglnggfmkbmocaa.PFnExactPathBetween Go.Proofs.YtglnggfmkbmocaaW.PrintWords Go.Proofs.Ytglnggfmkbmocaa.Open
open Go.ChangeMaps (open_string shut_string)
set_option linter.unusedVariables false
theorem own : ownKnob Try.prog.godebug = none := by kernel_rfl
theorem laidOut : laidOutB Try.prog = true := by kernel_rfl
set_option maxRecDepth 100000 in
theorem lifted (os : Os) (started : os.Started) (H : Type) (enc : TypeId × Value → H) :
    ReturnsInHanded {} Try.checked os 3 .any (Rows.fnExactPathBetweenSpec.pre6 enc Try.prog Try.f3 Rows.fnExactPathBetweenRow.domain false) (Rows.fnExactPathBetweenSpec.post enc Try.prog Try.f3 false true false false) := by
  refine returnsInHanded_of_change_sized (C := Try.checked) own started (by kernel_rfl) Try.func3
    (ChangeSpec.witness6 (enc := enc) (C := Try.checked) false ⟨#[], #[.slice none 0 0, .int .i64 0, .int .i64 0], []⟩ 8 (by kernel_rfl) (by kernel_rfl) (by kernel_rfl) (by kernel_rfl)) ?_
  intro W base args ds gs before hval0 hW hcnd hsz0 _
  have hval : ∀ (j : Nat) t v, Try.f3.params[j]? = some t → args[j]? = some v → Value.okWide Try.prog W .any base t v := hval0
  have hW' := hW
  obtain ⟨p, q, hA0, hV, rfl, hfz, hnd⟩ := hW
  have hA : DataW.TrodAll enc Try.prog W 0 (fun _ => true) true Try.f3.params.toList args.toList ds p := hA0
  rw [Try.params3] at hA hval
  obtain ⟨v0, vs0, d0, ds0, p0, q0, hargs, rfl, rfl, h0, r0⟩ := trodAll_cons hA
  obtain ⟨v1, vs1, d1, ds1, p1, q1, rfl, rfl, rfl, h1, r1⟩ := trodAll_cons r0
  obtain ⟨v2, vs2, d2, ds2, p2, q2, rfl, rfl, rfl, h2, r2⟩ := trodAll_cons r1
  obtain ⟨rfl, rfl, rfl⟩ := trodAll_nil r2
  obtain rfl : args = #[v0, v1, v2] := by cases args; simp_all
  obtain ⟨rfl, rfl⟩ := trodVars_none hV
  have k0 := h0
  have lt0 : ∀ x ∈ p0, x.block < W.heap.size := by obtain ⟨m, hm⟩ := k0; exact DataW.trod_lt m _ _ _ hm
  obtain ⟨b0, kb0, qb0⟩ := arg_tells h0 (tells_slice (q := 92) Try.underlying22 (by kernel_rfl) (tells_iso (tells_struct Try.underlying92 (by kernel_rfl) (tellsF_cons (tells_int Try.underlying3) rfl (by kernel_rfl) (tellsF_one (tells_int Try.underlying3) rfl (by kernel_rfl)))) (fun x : S92 => (x.f0, x.f1)) (fun a => (⟨a.1, a.2⟩ : S92)) (fun _ => rfl)))
  obtain ⟨A0, c0, e0, hc0, hr0⟩ := kb0
  obtain rfl := slice_of Try.underlying22 (hval 0 22 v0 rfl rfl) e0
  obtain ⟨a1, rfl, rfl, rfl, w1⟩ := open_int Try.underlying3 (hval 1 3 v1 rfl rfl) h1
  obtain ⟨a2, rfl, rfl, rfl, w2⟩ := open_int Try.underlying3 (hval 2 3 v2 rfl rfl) h2
  clear hA0 hval0 hsz0
  obtain ⟨k, h⟩ := Pure.FnExactPathBetween _ _ _ (qb0) (w1) (w2)
  refine (laws_FnExactPathBetween.calls k _ _ b0 a1 a2 true W hr0 hc0 h).mono fun e W' ⟨he, bel⟩ => ?_
  subst he
  exact ⟨_, rfl, _, _, _, [], _, [], hW', trodAll_mk1 (shut_bool Try.underlying4 _), (trodAll_cons_mk (Below.trod laidOut (by kernel_rfl) (of_decide_eq_true (by kernel_rfl)) k0 bel lt0) (trodAll_cons_mk (shut_int Try.underlying3 w1) (trodAll_cons_mk (shut_int Try.underlying3 w2) trodAll_mk0))), rfl, bel.frame _, fun h => by cases h⟩
theorem over : Rows.fnExactPathBetweenRow.holds Try.pinned (OpenSpec.ofChange Rows.fnExactPathBetweenSpec) :=
  OpenClaim.holds_of_wide 3 Try.f3 rfl rfl rfl rfl rfl rfl rfl ⟨rfl, rfl, rfl, rfl, rfl⟩ rfl rfl rfl rfl rfl (by kernel_rfl) Try.func3 (by kernel_rfl)
    (of_decide_eq_true (by kernel_rfl)) (by unfold Func.isWrapper; first | (rw [if_pos (by decide +kernel)]; kernel_rfl) | (rw [if_neg (by decide +kernel)]; exact ⟨rfl, rfl⟩))
    (fun os started H enc _ => lifted os started H enc)
theorem proved : Rows.FnExactPathBetweenSaid := over
end Go.Proofs.Ytglnggfmkbmocaa.fnExactPathBetween
namespace Go.Proofs.Ytglnggfmkbmocaa
/-- The row, under a short name, for the claim. -/
theorem fnExactPathBetween_holds : Rows.FnExactPathBetweenSaid := fnExactPathBetween.proved
end Go.Proofs.Ytglnggfmkbmocaa
