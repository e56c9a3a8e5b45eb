/- The row of the law FnExactApplyWish, out of its pure statement and the printed walk; for every input; no condition. Written by this session's program myrow.py. -/
import Derived.Test.YtiggokojffejeaaRows
import Derived.Test.YtiggokojffejeaaTells
import Derived.Test.YtiggokojffejeaaPureFnExactApplyWish
import Derived.Test.YtiggokojffejeaaPFnExactApplyWishx9
import Derived.WalkKit
import Derived.ProofKit
import Derived.OpenShut
import Derived.ShutString
import Derived.ChangeOld
import Derived.Below
import Derived.SizedLaws
namespace Go.Proofs.Ytiggokojffejeaa.fnExactApplyWish
open Go.ChangeShapes Go.WideShapes Go.ChangeAt Go.RowKit Go.Proofs.Ytiggokojffejeaa.PFnExactApplyWish Go.Proofs.YtiggokojffejeaaW.PrintWords Go.Proofs.Ytiggokojffejeaa.Open
open Go.ChangeMaps (open_string shut_string)
set_option linter.unusedVariables false
theorem own : ownKnob Try.prog.godebug = none := by kernel_rfl
theorem laidOut : laidOutB Try.prog = true := by kernel_rfl
set_option maxRecDepth 100000 in
theorem lifted (os : Os) (started : os.Started) (H : Type) (enc : TypeId × Value → H) :
    ReturnsInHanded {} Try.checked os 3 .any (Rows.fnExactApplyWishSpec.pre6 enc Try.prog Try.f3 Rows.fnExactApplyWishRow.domain false) (Rows.fnExactApplyWishSpec.post enc Try.prog Try.f3 false true false false) := by
  refine returnsInHanded_of_change_sized (C := Try.checked) own started (by kernel_rfl) Try.func3
    (ChangeSpec.witness6 (enc := enc) (C := Try.checked) false ⟨#[], #[.agg #[.slice none 0 0, .slice none 0 0, .int .i64 0], .agg #[.int .i64 0, .int .i64 0, .int .i64 0, .int .i64 0, .int .i64 0, .int .i64 0, .int .i64 0], .int .i64 0, .int .i64 0], []⟩ 8 (by kernel_rfl) (by kernel_rfl) (by kernel_rfl) (by kernel_rfl)) ?_
  intro W base args ds gs before hval0 hW hcnd hsz0 _
  have hval : ∀ (j : Nat) t v, Try.f3.params[j]? = some t → args[j]? = some v → Value.okWide Try.prog W .any base t v := hval0
  have hW' := hW
  obtain ⟨p, q, hA0, hV, rfl, hfz, hnd⟩ := hW
  have hA : DataW.TrodAll enc Try.prog W 0 (fun _ => true) true Try.f3.params.toList args.toList ds p := hA0
  rw [Try.params3] at hA hval
  obtain ⟨v0, vs0, d0, ds0, p0, q0, hargs, rfl, rfl, h0, r0⟩ := trodAll_cons hA
  obtain ⟨v1, vs1, d1, ds1, p1, q1, rfl, rfl, rfl, h1, r1⟩ := trodAll_cons r0
  obtain ⟨v2, vs2, d2, ds2, p2, q2, rfl, rfl, rfl, h2, r2⟩ := trodAll_cons r1
  obtain ⟨v3, vs3, d3, ds3, p3, q3, rfl, rfl, rfl, h3, r3⟩ := trodAll_cons r2
  obtain ⟨rfl, rfl, rfl⟩ := trodAll_nil r3
  obtain rfl : args = #[v0, v1, v2, v3] := by cases args; simp_all
  obtain ⟨rfl, rfl⟩ := trodVars_none hV
  have k0 := h0
  have lt0 : ∀ x ∈ p0, x.block < W.heap.size := by obtain ⟨m, hm⟩ := k0; exact DataW.trod_lt m _ _ _ hm
  obtain ⟨b0, kb0, qb0⟩ := arg_tells h0 (tells_struct Try.underlying24 (by kernel_rfl) (tellsF_cons (tells_slice (q := 3) Try.underlying22 (by kernel_rfl) (tells_int Try.underlying3)) rfl (by kernel_rfl) (tellsF_cons (tells_slice (q := 3) Try.underlying22 (by kernel_rfl) (tells_int Try.underlying3)) rfl (by kernel_rfl) (tellsF_one (tells_int Try.underlying3) rfl (by kernel_rfl)))))
  obtain ⟨x0_0, y0_0, e0, ⟨A0_0, c0_0, rfl, hc0_0, hr0_0⟩, ⟨x0_1, y0_1, rfl, ⟨A0_1, c0_1, rfl, hc0_1, hr0_1⟩, rfl⟩⟩ := kb0
  have ev0 : v0 = .agg #[.slice A0_0 b0.1.length c0_0, .slice A0_1 b0.2.1.length c0_1, .int .i64 b0.2.2] := agg_of Try.underlying24 (hval 0 24 v0 rfl rfl) e0
  subst ev0
  have k1 := h1
  have lt1 : ∀ x ∈ p1, x.block < W.heap.size := by obtain ⟨m, hm⟩ := k1; exact DataW.trod_lt m _ _ _ hm
  obtain ⟨b1, kb1, qb1⟩ := arg_tells h1 (tells_struct Try.underlying26 (by kernel_rfl) (tellsF_cons (tells_int Try.underlying3) rfl (by kernel_rfl) (tellsF_cons (tells_int Try.underlying3) rfl (by kernel_rfl) (tellsF_cons (tells_int Try.underlying3) rfl (by kernel_rfl) (tellsF_cons (tells_int Try.underlying3) rfl (by kernel_rfl) (tellsF_cons (tells_int Try.underlying3) rfl (by kernel_rfl) (tellsF_cons (tells_int Try.underlying3) rfl (by kernel_rfl) (tellsF_one (tells_int Try.underlying3) rfl (by kernel_rfl)))))))))
  obtain ⟨x1_0, y1_0, e1, rfl, ⟨x1_1, y1_1, rfl, rfl, ⟨x1_2, y1_2, rfl, rfl, ⟨x1_3, y1_3, rfl, rfl, ⟨x1_4, y1_4, rfl, rfl, ⟨x1_5, y1_5, rfl, rfl, rfl⟩⟩⟩⟩⟩⟩ := kb1
  have ev1 : v1 = .agg #[.int .i64 b1.1, .int .i64 b1.2.1, .int .i64 b1.2.2.1, .int .i64 b1.2.2.2.1, .int .i64 b1.2.2.2.2.1, .int .i64 b1.2.2.2.2.2.1, .int .i64 b1.2.2.2.2.2.2] := agg_of Try.underlying26 (hval 1 26 v1 rfl rfl) e1
  subst ev1
  obtain ⟨a2, rfl, rfl, rfl, w2⟩ := open_int Try.underlying3 (hval 2 3 v2 rfl rfl) h2
  obtain ⟨a3, rfl, rfl, rfl, w3⟩ := open_int Try.underlying3 (hval 3 3 v3 rfl rfl) h3
  clear hA0 hval0 hsz0
  obtain ⟨k, h⟩ := Pure.FnExactApplyWish _ _ _ _ _ _ _ _ _ _ _ _ (qb0.1) (qb0.2.1) (qb0.2.2) (qb1.1) (qb1.2.1) (qb1.2.2.1) (qb1.2.2.2.1) (qb1.2.2.2.2.1) (qb1.2.2.2.2.2.1) (qb1.2.2.2.2.2.2) (w2) (w3)
  refine (laws_FnExactApplyWish.calls k _ _ b0.1 _ _ b0.2.1 b0.2.2 b1.1 b1.2.1 b1.2.2.1 b1.2.2.2.1 b1.2.2.2.2.1 b1.2.2.2.2.2.1 b1.2.2.2.2.2.2 a2 a3 true W hr0_0 hc0_0 hr0_1 hc0_1 h).mono fun e W' ⟨he, bel⟩ => ?_
  subst he
  exact ⟨_, rfl, _, _, _, [], _, [], hW', trodAll_mk1 (shut_bool Try.underlying4 _), (trodAll_cons_mk (Below.trod laidOut (by kernel_rfl) (of_decide_eq_true (by kernel_rfl)) k0 bel lt0) (trodAll_cons_mk (Below.trod laidOut (by kernel_rfl) (of_decide_eq_true (by kernel_rfl)) k1 bel lt1) (trodAll_cons_mk (shut_int Try.underlying3 w2) (trodAll_cons_mk (shut_int Try.underlying3 w3) trodAll_mk0)))), rfl, bel.frame _, fun h => by cases h⟩
theorem over : Rows.fnExactApplyWishRow.holds Try.pinned (OpenSpec.ofChange Rows.fnExactApplyWishSpec) :=
  OpenClaim.holds_of_wide 3 Try.f3 rfl rfl rfl rfl rfl rfl rfl ⟨rfl, rfl, rfl, rfl, rfl⟩ rfl rfl rfl rfl rfl (by kernel_rfl) Try.func3 (by kernel_rfl)
    (of_decide_eq_true (by kernel_rfl)) (by unfold Func.isWrapper; first | (rw [if_pos (by decide +kernel)]; kernel_rfl) | (rw [if_neg (by decide +kernel)]; exact ⟨rfl, rfl⟩))
    (fun os started H enc _ => lifted os started H enc)
theorem proved : Rows.FnExactApplyWishSaid := over
end Go.Proofs.Ytiggokojffejeaa.fnExactApplyWish
namespace Go.Proofs.Ytiggokojffejeaa
/-- The row, under a short name, for the claim. -/
theorem fnExactApplyWish_holds : Rows.FnExactApplyWishSaid := fnExactApplyWish.proved
end Go.Proofs.Ytiggokojffejeaa
