/- CostOf of the program and of the reference return the same, for all prices, tips, limits and sizes; no condition. -/
import Derived.Test.YtamnleamjdopmaaPFnExactCostOfx1
namespace Go.Proofs.Ytamnleamjdopmaa.Pure
open Go.RowKit Go.Proofs.Ytamnleamjdopmaa.PFnExactCostOf Go.Proofs.YtamnleamjdopmaaW.PrintWords Go.Proofs.YtamnleamjdopmaaW.PrintLast Go.Proofs.YtamnleamjdopmaaW.PrintMore
namespace CostOfLaw

theorem l1In_f (a b c : Int) : spec_l1In.f a b c = some (decide (b ≤ a ∧ a ≤ c)) := by
  unfold spec_l1In.f
  by_cases h : b ≤ a <;> simp [h]
theorem within_f (a b c : Int) : impl_within.f a b c = some (decide (b ≤ a ∧ a ≤ c)) := by
  unfold impl_within.f
  by_cases h : b ≤ a <;> simp [h]

theorem same (a0 a1 a2 a3 : Int) : impl_CostOf.f a0 a1 a2 a3 = spec_CostOf.f a0 a1 a2 a3 := by
  unfold impl_CostOf.f spec_CostOf.f impl_isPrice.f impl_isFee.f impl_isUsed.f spec_l13Price.f impl_costOf.f spec_l1Least.f
  simp only [l1In_f, within_f, Option.bind_some, decide_eq_true_eq]
  by_cases h0 : 8 ≤ a0 ∧ a0 ≤ 1000000
  · rw [if_pos h0, if_pos h0]
    by_cases h1 : 0 ≤ a1 ∧ a1 ≤ 1000000
    · rw [if_pos h1, if_pos h1]
      by_cases h2 : a0 ≤ a2 ∧ a2 ≤ 1000000
      · rw [if_pos h2, if_pos (by omega)]
        by_cases h3 : 1 ≤ a3 ∧ a3 ≤ 80
        · rw [if_pos h3, if_pos h3, if_neg (by omega)]
          have e : mn a1 (wrap64 (a2 - a0)) = if a1 < wrap64 (a2 - a0) then a1 else wrap64 (a2 - a0) := by
            unfold mn; split <;> split <;> omega
          rw [e]
          split <;> simp only [Option.bind_some] <;> rw [Int.mul_comm a3]
        · rw [if_neg h3, if_neg h3]
      · rw [if_neg h2]
        by_cases h2' : 0 ≤ a2 ∧ a2 ≤ 1000000
        · rw [if_pos h2']
          by_cases h3 : 1 ≤ a3 ∧ a3 ≤ 80
          · rw [if_pos h3, if_pos (by omega)]
          · rw [if_neg h3]
        · rw [if_neg h2']
    · rw [if_neg h1, if_neg h1]
  · rw [if_neg h0, if_neg h0]
theorem total (a0 a1 a2 a3 : Int) : ∃ v, spec_CostOf.f a0 a1 a2 a3 = some v := by
  unfold spec_CostOf.f spec_l13Price.f spec_l1Least.f
  simp only [l1In_f, Option.bind_some]
  repeat (first | exact ⟨_, rfl⟩ | split | simp only [Option.bind_some])
end CostOfLaw
theorem FnExactCostOf : laws_FnExactCostOf.Pure := by
  intro a0 a1 a2 a3 _ _ _ _
  unfold laws_FnExactCostOf.f
  rw [CostOfLaw.same]
  obtain ⟨v, hv⟩ := CostOfLaw.total a0 a1 a2 a3
  rw [hv]
  simp

end Go.Proofs.Ytamnleamjdopmaa.Pure
