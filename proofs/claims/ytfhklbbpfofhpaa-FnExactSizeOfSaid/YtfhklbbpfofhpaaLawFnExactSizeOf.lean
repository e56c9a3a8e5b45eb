/- The row of the law FnExactSizeOf, out of its pure statement and the printed walk; for every input; no condition. Written by this session's program myrow.py. -/
import Derived.Test.YtfhklbbpfofhpaaRows
import Derived.Test.YtfhklbbpfofhpaaTells
import Derived.Test.YtfhklbbpfofhpaaPureFnExactSizeOf
import Derived.Test.YtfhklbbpfofhpaaPFnExactSizeOfx2
import Derived.WalkKit
import Derived.ProofKit
import Derived.OpenShut
import Derived.ShutString
import Derived.ChangeOld
import Derived.Below
import Derived.SizedLaws
namespace Go.Proofs.Ytfhklbbpfofhpaa.fnExactSizeOf
open Go.ChangeShapes Go.WideShapes Go.ChangeAt Go.RowKit Go.Proofs.Ytfhklbbpfofhpaa.PFnExactSizeOf Go.Proofs.YtfhklbbpfofhpaaW.PrintWords Go.Proofs.Ytfhklbbpfofhpaa.Open
open Go.ChangeMaps (open_string shut_string)
set_option linter.unusedVariables false
theorem own : ownKnob Try.prog.godebug = none := by kernel_rfl
theorem laidOut : laidOutB Try.prog = true := by kernel_rfl
set_option maxRecDepth 100000 in
theorem lifted (os : Os) (started : os.Started) (H : Type) (enc : TypeId × Value → H) :
    ReturnsInHanded {} Try.checked os 3 .any (Rows.fnExactSizeOfSpec.pre6 enc Try.prog Try.f3 Rows.fnExactSizeOfRow.domain false) (Rows.fnExactSizeOfSpec.post enc Try.prog Try.f3 false true false false) := by
  refine returnsInHanded_of_change_sized (C := Try.checked) own started (by kernel_rfl) Try.func3
    (ChangeSpec.witness6 (enc := enc) (C := Try.checked) false ⟨#[], #[.slice none 0 0], []⟩ 8 (by kernel_rfl) (by kernel_rfl) (by kernel_rfl) (by kernel_rfl)) ?_
  intro W base args ds gs before hval0 hW hcnd hsz0 _
  have hval : ∀ (j : Nat) t v, Try.f3.params[j]? = some t → args[j]? = some v → Value.okWide Try.prog W .any base t v := hval0
  have hW' := hW
  obtain ⟨p, q, hA0, hV, rfl, hfz, hnd⟩ := hW
  have hA : DataW.TrodAll enc Try.prog W 0 (fun _ => true) true Try.f3.params.toList args.toList ds p := hA0
  rw [Try.params3] at hA hval
  obtain ⟨v0, vs0, d0, ds0, p0, q0, hargs, rfl, rfl, h0, r0⟩ := trodAll_cons hA
  obtain ⟨rfl, rfl, rfl⟩ := trodAll_nil r0
  obtain rfl : args = #[v0] := by cases args; simp_all
  obtain ⟨rfl, rfl⟩ := trodVars_none hV
  have k0 := h0
  have lt0 : ∀ x ∈ p0, x.block < W.heap.size := by obtain ⟨m, hm⟩ := k0; exact DataW.trod_lt m _ _ _ hm
  obtain ⟨b0, kb0, qb0⟩ := arg_tells h0 (tells_slice (q := 43) Try.underlying22 (by kernel_rfl) (tells_iso (tells_struct Try.underlying43 (by kernel_rfl) (tellsF_cons (tells_int Try.underlying3) rfl (by kernel_rfl) (tellsF_cons (tells_int Try.underlying3) rfl (by kernel_rfl) (tellsF_cons (tells_int Try.underlying3) rfl (by kernel_rfl) (tellsF_cons (tells_int Try.underlying3) rfl (by kernel_rfl) (tellsF_cons (tells_int Try.underlying3) rfl (by kernel_rfl) (tellsF_cons (tells_int Try.underlying3) rfl (by kernel_rfl) (tellsF_one (tells_int Try.underlying3) rfl (by kernel_rfl))))))))) (fun x : S43 => (x.f0, x.f1, x.f2, x.f3, x.f4, x.f5, x.f6)) (fun a => (⟨a.1, a.2.1, a.2.2.1, a.2.2.2.1, a.2.2.2.2.1, a.2.2.2.2.2.1, a.2.2.2.2.2.2⟩ : S43)) (fun _ => rfl)))
  obtain ⟨A0, c0, e0, hc0, hr0⟩ := kb0
  obtain rfl := slice_of Try.underlying22 (hval 0 22 v0 rfl rfl) e0
  clear hA0 hval0 hsz0
  obtain ⟨k, h⟩ := Pure.FnExactSizeOf _ (qb0)
  refine (laws_FnExactSizeOf.calls k _ _ b0 true W hr0 hc0 h).mono fun e W' ⟨he, bel⟩ => ?_
  subst he
  exact ⟨_, rfl, _, _, _, [], _, [], hW', trodAll_mk1 (shut_bool Try.underlying4 _), (trodAll_cons_mk (Below.trod laidOut (by kernel_rfl) (of_decide_eq_true (by kernel_rfl)) k0 bel lt0) trodAll_mk0), rfl, bel.frame _, fun h => by cases h⟩
theorem over : Rows.fnExactSizeOfRow.holds Try.pinned (OpenSpec.ofChange Rows.fnExactSizeOfSpec) :=
  OpenClaim.holds_of_wide 3 Try.f3 rfl rfl rfl rfl rfl rfl rfl ⟨rfl, rfl, rfl, rfl, rfl⟩ rfl rfl rfl rfl rfl (by kernel_rfl) Try.func3 (by kernel_rfl)
    (of_decide_eq_true (by kernel_rfl)) (by unfold Func.isWrapper; first | (rw [if_pos (by decide +kernel)]; kernel_rfl) | (rw [if_neg (by decide +kernel)]; exact ⟨rfl, rfl⟩))
    (fun os started H enc _ => lifted os started H enc)
theorem proved : Rows.FnExactSizeOfSaid := over
end Go.Proofs.Ytfhklbbpfofhpaa.fnExactSizeOf
namespace Go.Proofs.Ytfhklbbpfofhpaa
/-- The row, under a short name, for the claim. -/
theorem fnExactSizeOf_holds : Rows.FnExactSizeOfSaid := fnExactSizeOf.proved
end Go.Proofs.Ytfhklbbpfofhpaa
