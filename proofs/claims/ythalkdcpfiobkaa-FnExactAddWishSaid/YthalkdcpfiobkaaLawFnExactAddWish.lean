/- The row of the law FnExactAddWish, out of its pure statement and the printed walk; for every input; no condition. Written by this session's program myrow.py. -/
import Derived.Test.YthalkdcpfiobkaaRows
import Derived.Test.YthalkdcpfiobkaaTells
import Derived.Test.YthalkdcpfiobkaaPureFnExactAddWish
import Derived.Test.YthalkdcpfiobkaaPFnExactAddWishx10
import Derived.WalkKit
import Derived.ProofKit
import Derived.OpenShut
import Derived.ShutString
import Derived.ChangeOld
import Derived.Below
import Derived.SizedLaws
namespace Go.Proofs.Ythalkdcpfiobkaa.fnExactAddWish
open Go.ChangeShapes Go.WideShapes Go.ChangeAt Go.RowKit Go.Proofs.Ythalkdcpfiobkaa.PFnExactAddWish Go.Proofs.YthalkdcpfiobkaaW.PrintWords Go.Proofs.Ythalkdcpfiobkaa.Open
open Go.ChangeMaps (open_string shut_string)
set_option linter.unusedVariables false
theorem own : ownKnob Try.prog.godebug = none := by kernel_rfl
theorem laidOut : laidOutB Try.prog = true := by kernel_rfl
set_option maxRecDepth 100000 in
theorem lifted (os : Os) (started : os.Started) (H : Type) (enc : TypeId × Value → H) :
    ReturnsInHanded {} Try.checked os 6 .any (Rows.fnExactAddWishSpec.pre6 enc Try.prog Try.f6 Rows.fnExactAddWishRow.domain false) (Rows.fnExactAddWishSpec.post enc Try.prog Try.f6 false true false false) := by
  refine returnsInHanded_of_change_sized (C := Try.checked) own started (by kernel_rfl) Try.func6
    (ChangeSpec.witness6 (enc := enc) (C := Try.checked) false ⟨#[], #[.agg #[.slice none 0 0, .slice none 0 0, .int .i64 0], .slice none 0 0, .agg #[.int .i64 0, .int .i64 0, .int .i64 0, .int .i64 0, .int .i64 0, .int .i64 0, .int .i64 0]], []⟩ 8 (by kernel_rfl) (by kernel_rfl) (by kernel_rfl) (by kernel_rfl)) ?_
  intro W base args ds gs before hval0 hW hcnd hsz0 _
  have hval : ∀ (j : Nat) t v, Try.f6.params[j]? = some t → args[j]? = some v → Value.okWide Try.prog W .any base t v := hval0
  have hW' := hW
  obtain ⟨p, q, hA0, hV, rfl, hfz, hnd⟩ := hW
  have hA : DataW.TrodAll enc Try.prog W 0 (fun _ => true) true Try.f6.params.toList args.toList ds p := hA0
  rw [Try.params6] at hA hval
  obtain ⟨v0, vs0, d0, ds0, p0, q0, hargs, rfl, rfl, h0, r0⟩ := trodAll_cons hA
  obtain ⟨v1, vs1, d1, ds1, p1, q1, rfl, rfl, rfl, h1, r1⟩ := trodAll_cons r0
  obtain ⟨v2, vs2, d2, ds2, p2, q2, rfl, rfl, rfl, h2, r2⟩ := trodAll_cons r1
  obtain ⟨rfl, rfl, rfl⟩ := trodAll_nil r2
  obtain rfl : args = #[v0, v1, v2] := by cases args; simp_all
  obtain ⟨rfl, rfl⟩ := trodVars_none hV
  have k0 := h0
  have lt0 : ∀ x ∈ p0, x.block < W.heap.size := by obtain ⟨m, hm⟩ := k0; exact DataW.trod_lt m _ _ _ hm
  obtain ⟨b0, kb0, qb0⟩ := arg_tells h0 (tells_struct Try.underlying24 (by kernel_rfl) (tellsF_cons (tells_slice (q := 3) Try.underlying22 (by kernel_rfl) (tells_int Try.underlying3)) rfl (by kernel_rfl) (tellsF_cons (tells_slice (q := 3) Try.underlying22 (by kernel_rfl) (tells_int Try.underlying3)) rfl (by kernel_rfl) (tellsF_one (tells_int Try.underlying3) rfl (by kernel_rfl)))))
  obtain ⟨x0_0, y0_0, e0, ⟨A0_0, c0_0, rfl, hc0_0, hr0_0⟩, ⟨x0_1, y0_1, rfl, ⟨A0_1, c0_1, rfl, hc0_1, hr0_1⟩, rfl⟩⟩ := kb0
  have ev0 : v0 = .agg #[.slice A0_0 b0.1.length c0_0, .slice A0_1 b0.2.1.length c0_1, .int .i64 b0.2.2] := agg_of Try.underlying24 (hval 0 24 v0 rfl rfl) e0
  subst ev0
  have k1 := h1
  have lt1 : ∀ x ∈ p1, x.block < W.heap.size := by obtain ⟨m, hm⟩ := k1; exact DataW.trod_lt m _ _ _ hm
  obtain ⟨b1, kb1, qb1⟩ := arg_tells h1 (tells_slice (q := 46) Try.underlying25 (by kernel_rfl) (tells_iso (tells_struct Try.underlying46 (by kernel_rfl) (tellsF_cons (tells_int Try.underlying3) rfl (by kernel_rfl) (tellsF_cons (tells_int Try.underlying3) rfl (by kernel_rfl) (tellsF_cons (tells_int Try.underlying3) rfl (by kernel_rfl) (tellsF_cons (tells_int Try.underlying3) rfl (by kernel_rfl) (tellsF_cons (tells_int Try.underlying3) rfl (by kernel_rfl) (tellsF_cons (tells_int Try.underlying3) rfl (by kernel_rfl) (tellsF_one (tells_int Try.underlying3) rfl (by kernel_rfl))))))))) (fun x : S46 => (x.f0, x.f1, x.f2, x.f3, x.f4, x.f5, x.f6)) (fun a => (⟨a.1, a.2.1, a.2.2.1, a.2.2.2.1, a.2.2.2.2.1, a.2.2.2.2.2.1, a.2.2.2.2.2.2⟩ : S46)) (fun _ => rfl)))
  obtain ⟨A1, c1, e1, hc1, hr1⟩ := kb1
  obtain rfl := slice_of Try.underlying25 (hval 1 25 v1 rfl rfl) e1
  have k2 := h2
  have lt2 : ∀ x ∈ p2, x.block < W.heap.size := by obtain ⟨m, hm⟩ := k2; exact DataW.trod_lt m _ _ _ hm
  obtain ⟨b2, kb2, qb2⟩ := arg_tells h2 (tells_struct Try.underlying46 (by kernel_rfl) (tellsF_cons (tells_int Try.underlying3) rfl (by kernel_rfl) (tellsF_cons (tells_int Try.underlying3) rfl (by kernel_rfl) (tellsF_cons (tells_int Try.underlying3) rfl (by kernel_rfl) (tellsF_cons (tells_int Try.underlying3) rfl (by kernel_rfl) (tellsF_cons (tells_int Try.underlying3) rfl (by kernel_rfl) (tellsF_cons (tells_int Try.underlying3) rfl (by kernel_rfl) (tellsF_one (tells_int Try.underlying3) rfl (by kernel_rfl)))))))))
  obtain ⟨x2_0, y2_0, e2, rfl, ⟨x2_1, y2_1, rfl, rfl, ⟨x2_2, y2_2, rfl, rfl, ⟨x2_3, y2_3, rfl, rfl, ⟨x2_4, y2_4, rfl, rfl, ⟨x2_5, y2_5, rfl, rfl, rfl⟩⟩⟩⟩⟩⟩ := kb2
  have ev2 : v2 = .agg #[.int .i64 b2.1, .int .i64 b2.2.1, .int .i64 b2.2.2.1, .int .i64 b2.2.2.2.1, .int .i64 b2.2.2.2.2.1, .int .i64 b2.2.2.2.2.2.1, .int .i64 b2.2.2.2.2.2.2] := agg_of Try.underlying46 (hval 2 46 v2 rfl rfl) e2
  subst ev2
  clear hA0 hval0 hsz0
  obtain ⟨k, h⟩ := Pure.FnExactAddWish _ _ _ _ _ _ _ _ _ _ _ (qb0.1) (qb0.2.1) (qb0.2.2) (qb1) (qb2.1) (qb2.2.1) (qb2.2.2.1) (qb2.2.2.2.1) (qb2.2.2.2.2.1) (qb2.2.2.2.2.2.1) (qb2.2.2.2.2.2.2)
  refine (laws_FnExactAddWish.calls k _ _ b0.1 _ _ b0.2.1 b0.2.2 _ _ b1 b2.1 b2.2.1 b2.2.2.1 b2.2.2.2.1 b2.2.2.2.2.1 b2.2.2.2.2.2.1 b2.2.2.2.2.2.2 true W hr0_0 hc0_0 hr0_1 hc0_1 hr1 hc1 h).mono fun e W' ⟨he, bel⟩ => ?_
  subst he
  exact ⟨_, rfl, _, _, _, [], _, [], hW', trodAll_mk1 (shut_bool Try.underlying4 _), (trodAll_cons_mk (Below.trod laidOut (by kernel_rfl) (of_decide_eq_true (by kernel_rfl)) k0 bel lt0) (trodAll_cons_mk (Below.trod laidOut (by kernel_rfl) (of_decide_eq_true (by kernel_rfl)) k1 bel lt1) (trodAll_cons_mk (Below.trod laidOut (by kernel_rfl) (of_decide_eq_true (by kernel_rfl)) k2 bel lt2) trodAll_mk0))), rfl, bel.frame _, fun h => by cases h⟩
theorem over : Rows.fnExactAddWishRow.holds Try.pinned (OpenSpec.ofChange Rows.fnExactAddWishSpec) :=
  OpenClaim.holds_of_wide 6 Try.f6 rfl rfl rfl rfl rfl rfl rfl ⟨rfl, rfl, rfl, rfl, rfl⟩ rfl rfl rfl rfl rfl (by kernel_rfl) Try.func6 (by kernel_rfl)
    (of_decide_eq_true (by kernel_rfl)) (by unfold Func.isWrapper; first | (rw [if_pos (by decide +kernel)]; kernel_rfl) | (rw [if_neg (by decide +kernel)]; exact ⟨rfl, rfl⟩))
    (fun os started H enc _ => lifted os started H enc)
theorem proved : Rows.FnExactAddWishSaid := over
end Go.Proofs.Ythalkdcpfiobkaa.fnExactAddWish
namespace Go.Proofs.Ythalkdcpfiobkaa
/-- The row, under a short name, for the claim. -/
theorem fnExactAddWish_holds : Rows.FnExactAddWishSaid := fnExactAddWish.proved
end Go.Proofs.Ythalkdcpfiobkaa
