/- MayPay of the program and of the reference return the same, for all prices and limits; no condition. -/
import Derived.Test.YtamnleamjdopmaaPFnExactMayPayx1
namespace Go.Proofs.Ytamnleamjdopmaa.Pure
open Go.RowKit Go.Proofs.Ytamnleamjdopmaa.PFnExactMayPay Go.Proofs.YtamnleamjdopmaaW.PrintWords Go.Proofs.YtamnleamjdopmaaW.PrintLast Go.Proofs.YtamnleamjdopmaaW.PrintMore
namespace MayPayLaw

theorem l1In_f (a b c : Int) : spec_l1In.f a b c = some (decide (b ≤ a ∧ a ≤ c)) := by
  unfold spec_l1In.f
  by_cases h : b ≤ a <;> simp [h]
theorem within_f (a b c : Int) : impl_within.f a b c = some (decide (b ≤ a ∧ a ≤ c)) := by
  unfold impl_within.f
  by_cases h : b ≤ a <;> simp [h]

theorem same (a0 a1 : Int) : impl_MayPay.f a0 a1 = spec_MayPay.f a0 a1 := by
  unfold impl_MayPay.f spec_MayPay.f impl_isPrice.f impl_isFee.f spec_l13Price.f
  simp only [l1In_f, within_f, Option.bind_some]
theorem total (a0 a1 : Int) : ∃ v, spec_MayPay.f a0 a1 = some v := by
  unfold spec_MayPay.f spec_l13Price.f
  simp only [l1In_f, Option.bind_some]
  repeat (first | exact ⟨_, rfl⟩ | split)
end MayPayLaw
theorem FnExactMayPay : laws_FnExactMayPay.Pure := by
  intro a0 a1 _ _
  unfold laws_FnExactMayPay.f
  rw [MayPayLaw.same]
  obtain ⟨v, hv⟩ := MayPayLaw.total a0 a1
  rw [hv]
  simp

end Go.Proofs.Ytamnleamjdopmaa.Pure
