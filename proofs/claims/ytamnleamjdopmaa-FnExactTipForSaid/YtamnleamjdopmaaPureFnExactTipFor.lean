/- TipFor of the program and of the reference return the same, for all transactions and prices; no condition. -/
import Derived.Test.YtamnleamjdopmaaDefFnExactTipFor
namespace Go.Proofs.Ytamnleamjdopmaa.Pure
open Go.RowKit Go.Proofs.Ytamnleamjdopmaa.PFnExactTipFor Go.Proofs.YtamnleamjdopmaaW.PrintWords Go.Proofs.YtamnleamjdopmaaW.PrintLast Go.Proofs.YtamnleamjdopmaaW.PrintMore
namespace TipForLaw
theorem l1In_f (a b c : Int) : spec_l1In.f a b c = some (decide (b ≤ a ∧ a ≤ c)) := by
  unfold spec_l1In.f
  by_cases h : b ≤ a <;> simp [h]
theorem within_f (a b c : Int) : impl_within.f a b c = some (decide (b ≤ a ∧ a ≤ c)) := by
  unfold impl_within.f
  by_cases h : b ≤ a <;> simp [h]
theorem same (a b c d e f g p : Int) : ∃ v, impl_TipFor.f a b c d e f g p = some v ∧ spec_TipFor.f a b c d e f g p = some v := by
  unfold impl_TipFor.f spec_TipFor.f impl_isPrice.f impl_isFee.f spec_l13Price.f impl_tipFor.f spec_l1Least.f
  simp only [l1In_f, within_f, Option.bind_some, decide_eq_true_eq]
  by_cases h0 : 8 ≤ p ∧ p ≤ 1000000
  · rw [if_pos h0]
    by_cases h1 : 0 ≤ e ∧ e ≤ 1000000
    · rw [if_pos h1, if_pos h1]
      by_cases h2 : 0 ≤ f ∧ f ≤ 1000000
      · rw [if_pos h2, if_pos h2, if_pos h0]
        by_cases h3 : f < p
        · rw [if_pos h3, if_pos h3]; exact ⟨_, rfl, rfl⟩
        · rw [if_neg h3, if_neg h3]
          have e1 : mn e (wrap64 (f - p)) = if e < wrap64 (f - p) then e else wrap64 (f - p) := by
            unfold mn; split <;> split <;> omega
          rw [e1]
          split <;> exact ⟨_, rfl, rfl⟩
      · rw [if_neg h2, if_neg h2]; exact ⟨_, rfl, rfl⟩
    · rw [if_neg h1, if_neg h1]; exact ⟨_, rfl, rfl⟩
  · rw [if_neg h0]
    by_cases h1 : 0 ≤ e ∧ e ≤ 1000000
    · rw [if_pos h1]
      by_cases h2 : 0 ≤ f ∧ f ≤ 1000000
      · rw [if_pos h2, if_neg h0]; exact ⟨_, rfl, rfl⟩
      · rw [if_neg h2]; exact ⟨_, rfl, rfl⟩
    · rw [if_neg h1]; exact ⟨_, rfl, rfl⟩
end TipForLaw
theorem FnExactTipFor : FnExactTipForPure := by
  intro a0 a1 a2 a3 a4 a5 a6 a7 _ _ _ _ _ _ _ _
  unfold laws_FnExactTipFor.f laws_toWish.f
  obtain ⟨v, hv, hv'⟩ := TipForLaw.same a0 a1 a2 a3 a4 a5 a6 a7
  simp only [Option.bind_some, hv, hv']
  simp
end Go.Proofs.Ytamnleamjdopmaa.Pure
