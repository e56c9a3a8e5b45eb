/- BoundsFor of the program and of the reference return the same, for all prices and counts; no condition. -/
import Derived.Test.YtamnleamjdopmaaPFnExactBoundsForx1
namespace Go.Proofs.Ytamnleamjdopmaa.Pure
open Go.RowKit Go.Proofs.Ytamnleamjdopmaa.PFnExactBoundsFor Go.Proofs.YtamnleamjdopmaaW.PrintWords Go.Proofs.YtamnleamjdopmaaW.PrintLast Go.Proofs.YtamnleamjdopmaaW.PrintMore
namespace BoundsForLaw

theorem l1In_f (a b c : Int) : spec_l1In.f a b c = some (decide (b ≤ a ∧ a ≤ c)) := by
  unfold spec_l1In.f
  by_cases h : b ≤ a <;> simp [h]
theorem within_f (a b c : Int) : impl_within.f a b c = some (decide (b ≤ a ∧ a ≤ c)) := by
  unfold impl_within.f
  by_cases h : b ≤ a <;> simp [h]

theorem next_same (a0 a1 : Int) (h0 : 8 ≤ a0) (h0' : a0 ≤ 1000000) (h1 : 0 ≤ a1) (h1' : a1 ≤ 80) : ∃ v, spec_l13Next.f a0 a1 = some v ∧ impl_nextPrice.f a0 a1 = some v ∧ 8 ≤ v ∧ v ≤ 1000000 := by
  have m1 : a1 > 40 → 0 ≤ a0 * (a1 - 40) ∧ a0 * (a1 - 40) ≤ 1000000 * 40 := fun h =>
    ⟨Int.mul_nonneg (by omega) (by omega), Int.mul_le_mul h0' (by omega) (by omega) (by omega)⟩
  have m2 : a1 < 40 → 0 ≤ a0 * (40 - a1) ∧ a0 * (40 - a1) ≤ a0 * 40 := fun h =>
    ⟨Int.mul_nonneg (by omega) (by omega), Int.mul_le_mul_of_nonneg_left (by omega) (by omega)⟩
  unfold spec_l13Next.f impl_nextPrice.f spec_l1Least.f mn mx
  by_cases h : a1 > 40
  · obtain ⟨p, q⟩ := m1 h
    have e1 : wrap64 (a1 - 40) = a1 - 40 := by unfold wrap64; omega
    have e2 : wrap64 (a0 * (a1 - 40)) = a0 * (a1 - 40) := by unfold wrap64; omega
    generalize hx : a0 * (a1 - 40) = x at e2 p q
    have e3 : wrap64 (Int.tdiv x 320) = x / 320 := by rw [Int.tdiv_eq_ediv_of_nonneg p]; unfold wrap64; omega
    rw [if_pos h, if_pos h, e1, hx, e2, e3]
    have w1 : wrap64 (a0 + 1) = a0 + 1 := by unfold wrap64; omega
    have w2 : wrap64 (a0 + x / 320) = a0 + x / 320 := by unfold wrap64; omega
    by_cases h2 : x / 320 < 1
    · rw [if_pos h2]
      have h3 : ¬ (1 < x / 320) := by omega
      rw [if_neg h3, w1]
      by_cases h4 : 1000000 < a0 + 1
      · rw [if_pos h4, if_neg (by omega)]; exact ⟨_, rfl, rfl, by omega, by omega⟩
      · rw [if_neg h4]
        by_cases h5 : a0 + 1 < 1000000
        · rw [if_pos h5]; exact ⟨_, rfl, rfl, by omega, by omega⟩
        · rw [if_neg h5]; exact ⟨_, rfl, by congr 1; omega, by omega, by omega⟩
    · rw [if_neg h2]
      have e5 : (if 1 < x / 320 then x / 320 else 1) = x / 320 := by split <;> omega
      rw [e5, w2]
      by_cases h4 : 1000000 < a0 + x / 320
      · rw [if_pos h4, if_neg (by omega)]; exact ⟨_, rfl, rfl, by omega, by omega⟩
      · rw [if_neg h4]
        by_cases h5 : a0 + x / 320 < 1000000
        · rw [if_pos h5]; exact ⟨_, rfl, rfl, by omega, by omega⟩
        · rw [if_neg h5]; exact ⟨_, rfl, by congr 1; omega, by omega, by omega⟩
  · rw [if_neg h, if_neg h]
    by_cases h' : a1 < 40
    · obtain ⟨p, q⟩ := m2 h'
      have e1 : wrap64 (40 - a1) = 40 - a1 := by unfold wrap64; omega
      have e2 : wrap64 (a0 * (40 - a1)) = a0 * (40 - a1) := by unfold wrap64; omega
      generalize hx : a0 * (40 - a1) = x at e2 p q
      have e3 : wrap64 (Int.tdiv x 320) = x / 320 := by rw [Int.tdiv_eq_ediv_of_nonneg p]; unfold wrap64; omega
      rw [if_pos h', if_pos h', e1, hx, e2, e3]
      have w1 : wrap64 (a0 - x / 320) = a0 - x / 320 := by unfold wrap64; omega
      rw [w1]
      by_cases h2 : a0 - x / 320 < 8
      · rw [if_pos h2, if_neg (by omega)]; exact ⟨_, rfl, rfl, by omega, by omega⟩
      · rw [if_neg h2]
        by_cases h5 : 8 < a0 - x / 320
        · rw [if_pos h5]; exact ⟨_, rfl, rfl, by omega, by omega⟩
        · rw [if_neg h5]; exact ⟨_, rfl, by congr 1; omega, by omega, by omega⟩
    · rw [if_neg h', if_neg h']; exact ⟨_, rfl, rfl, by omega, by omega⟩

theorem loops (d : Nat) : ∀ (k : Nat) (m lo hi i : Int), 0 ≤ i → m - i = d → m ≤ 20 → d < k → 8 ≤ lo → lo ≤ 1000000 → 8 ≤ hi → hi ≤ 1000000 →
    ∃ v, spec_BoundsFor.l0 k (m - i) lo hi = some v ∧ impl_BoundsFor.l0 k lo hi m i = some v := by
  induction d with
  | zero =>
    intro k m lo hi i h0 hd hm hk _ _ _ _
    obtain ⟨k, rfl⟩ : ∃ j, k = j + 1 := ⟨k - 1, by omega⟩
    simp only [spec_BoundsFor.l0, impl_BoundsFor.l0]
    rw [if_neg (by omega), if_neg (by omega)]
    exact ⟨_, rfl, rfl⟩
  | succ d ih =>
    intro k m lo hi i h0 hd hm hk a1 a2 b1 b2
    obtain ⟨k, rfl⟩ : ∃ j, k = j + 1 := ⟨k - 1, by omega⟩
    obtain ⟨v, e, e', p, q⟩ := next_same lo 0 a1 a2 (by omega) (by omega)
    obtain ⟨u, f, f', r, s⟩ := next_same hi 80 b1 b2 (by omega) (by omega)
    obtain ⟨z, g, g'⟩ := ih k m v u (i + 1) (by omega) (by omega) hm (by omega) p q r s
    simp only [spec_BoundsFor.l0, impl_BoundsFor.l0]
    rw [if_pos (by omega), if_pos (by omega), e, e', f, f']
    simp only [Option.bind_some]
    have w1 : wrap64 (m - i - 1) = m - (i + 1) := by unfold wrap64; omega
    have w2 : wrap64 (i + 1) = i + 1 := by unfold wrap64; omega
    rw [w1, w2]
    exact ⟨z, g, g'⟩
theorem same (a0 a1 : Int) : ∃ v, spec_BoundsFor.f 22 a0 a1 = some v ∧ impl_BoundsFor.f 22 a0 a1 = some v := by
  unfold impl_BoundsFor.f spec_BoundsFor.f impl_isPrice.f spec_l13Price.f
  simp only [l1In_f, within_f, Option.bind_some, decide_eq_true_eq]
  by_cases h0 : 8 ≤ a0 ∧ a0 ≤ 1000000
  · rw [if_pos h0, if_pos h0]
    simp only [spec_BoundsFor.j0, impl_BoundsFor.j0]
    by_cases h1 : 0 ≤ a1 ∧ a1 ≤ 20
    · rw [if_neg (by simp [h1]), if_neg (by simp [h1])]
      have := loops a1.toNat 21 a1 a0 a0 0 (by omega) (by omega) h1.2 (by omega) h0.1 h0.2 h0.1 h0.2
      simpa using this
    · rw [if_pos (by simp; omega), if_pos (by simp; omega)]; exact ⟨_, rfl, rfl⟩
  · rw [if_neg h0, if_neg h0]
    simp only [spec_BoundsFor.j0, impl_BoundsFor.j0, if_true]
    exact ⟨_, rfl, rfl⟩
end BoundsForLaw
theorem FnExactBoundsFor : laws_FnExactBoundsFor.Pure := by
  intro a0 a1 _ _
  obtain ⟨v, hv, hv'⟩ := BoundsForLaw.same a0 a1
  refine ⟨22, ?_⟩
  unfold laws_FnExactBoundsFor.f
  rw [hv, hv']
  simp

end Go.Proofs.Ytamnleamjdopmaa.Pure
