/- BurnedIn of the program and of the reference return the same, for all prices and sizes; no condition. -/
import Derived.Test.YtgnhdomnlaijpaaDefFnExactBurnedIn
import Derived.Test.YtgnhdomnlaijpaaPx
import Derived.Test.YtgnhdomnlaijpaaOv
namespace Go.Proofs.Ytgnhdomnlaijpaa.Pure
open Go.RowKit Go.Proofs.Ytgnhdomnlaijpaa.PFnExactBurnedIn Go.Proofs.YtgnhdomnlaijpaaW.PrintWords Go.Proofs.YtgnhdomnlaijpaaW.PrintLast Go.Proofs.YtgnhdomnlaijpaaW.PrintMore Go.Proofs.Ytgnhdomnlaijpaa.Px Go.Proofs.Ytgnhdomnlaijpaa.Ov
namespace FnExactBurnedInLaw
theorem toIntS_l (l : List Int) (hm : l.length ≤ maxLen) (d : Nat) : ∀ (k i : Nat), i + d = l.length → d < k →
    laws_toIntS.l0 k l (l.take i ++ List.replicate (l.length - i) 0) (i : Int) = some l := by
  induction d with
  | zero =>
    intro k i hi hk
    obtain ⟨k, rfl, _⟩ := succ_of hk
    have e : i = l.length := by omega
    subst e
    simp only [laws_toIntS.l0]
    rw [if_neg (by omega)]
    simp
  | succ d ih =>
    intro k i hi hk
    obtain ⟨k, rfl, hk⟩ := succ_of hk
    have hl : i < l.length := by omega
    simp only [laws_toIntS.l0]
    rw [if_pos (by omega), if_pos (by omega), if_pos (by rw [length_step _ _ _ (by omega)]; omega), rd_nat hl, Int.toNat_natCast, set_step l 0 i hl, wrap_succ hl hm]
    exact ih k (i + 1) (by omega) (by omega)
theorem toIntS_f (l : List Int) (hm : l.length ≤ 35184372088832) (k : Nat) (hk : l.length < k) : laws_toIntS.f k l = some l := by
  unfold laws_toIntS.f
  rw [if_pos (by omega), if_pos (by simpa using hm), Int.toNat_natCast]
  simpa using toIntS_l l (by unfold maxLen; omega) l.length k 0 (by omega) hk
theorem eqIntS_l (a : List Int) (hm : a.length ≤ maxLen) (d : Nat) : ∀ (k i : Nat), i + d = a.length → d < k →
    laws_eqIntS.l0 k a a (i : Int) = some true := by
  induction d with
  | zero =>
    intro k i hi hk
    obtain ⟨k, rfl, _⟩ := succ_of hk
    simp only [laws_eqIntS.l0]
    rw [if_neg (by omega)]
  | succ d ih =>
    intro k i hi hk
    obtain ⟨k, rfl, hk⟩ := succ_of hk
    have hl : i < a.length := by omega
    simp only [laws_eqIntS.l0]
    rw [if_pos (by omega), if_pos (by omega), if_pos (by omega)]
    simp only [if_true]
    rw [wrap_succ hl hm]
    exact ih k (i + 1) (by omega) (by omega)
theorem eqIntS_f (a : List Int) (hm : a.length ≤ maxLen) (k : Nat) (hk : a.length < k) : laws_eqIntS.f k a a = some true := by
  unfold laws_eqIntS.f
  rw [if_pos rfl]
  exact eqIntS_l a hm a.length k 0 (by omega) hk
theorem l1In_f (a b c : Int) : spec_l1In.f a b c = some (decide (b ≤ a ∧ a ≤ c)) := by
  unfold spec_l1In.f
  by_cases h : b ≤ a <;> simp [h]
theorem within_f (a b c : Int) : impl_within.f a b c = some (decide (b ≤ a ∧ a ≤ c)) := rfl
theorem l1All_l (l : List Int) (a b : Int) (hm : l.length ≤ maxLen) (d : Nat) : ∀ (k i : Nat), i + d = l.length → d < k →
    spec_l1All.l0 k a b l (l.length : Int) (i : Int) = some ((l.drop i).all fun n => decide (a ≤ n ∧ n ≤ b)) := by
  induction d with
  | zero =>
    intro k i hi hk
    obtain ⟨k, rfl, _⟩ := succ_of hk
    simp only [spec_l1All.l0]
    rw [if_neg (by omega), List.drop_of_length_le (by omega)]; rfl
  | succ d ih =>
    intro k i hi hk
    obtain ⟨k, rfl, hk⟩ := succ_of hk
    have hl : i < l.length := by omega
    simp only [spec_l1All.l0]
    rw [if_pos (by omega), if_pos (by omega), if_pos (by omega), rd_nat hl, l1In_f, all_drop _ l i hl, wrap_succ hl hm]
    simp only [Option.bind_some]
    rw [ih k (i + 1) (by omega) (by omega)]
    cases decide (a ≤ l[i] ∧ l[i] ≤ b) <;> simp
theorem l1All_f (l : List Int) (a b : Int) (hm : l.length ≤ maxLen) (k : Nat) (hk : l.length < k) : spec_l1All.f k l a b = some (l.all fun n => decide (a ≤ n ∧ n ≤ b)) := by
  unfold spec_l1All.f
  simpa using l1All_l l a b hm l.length k 0 (by omega) hk
theorem l1Sum_l (l : List Int) (hm : l.length ≤ maxLen) (B : Int) (hB : 0 ≤ B) (h0 : ∀ x ∈ l, 0 ≤ x ∧ x ≤ B) (hs : B * (l.length : Int) ≤ 4611686018427387904) (d : Nat) : ∀ (k i : Nat) (s : Int), i + d = l.length → d < k →
    0 ≤ s → s ≤ B * (i : Int) → spec_l1Sum.l0 k s l (l.length : Int) (i : Int) = some (s + (l.drop i).sum) := by
  induction d with
  | zero =>
    intro k i s hi hk _ _
    obtain ⟨k, rfl, _⟩ := succ_of hk
    simp only [spec_l1Sum.l0]
    rw [if_neg (by omega), List.drop_of_length_le (by omega)]; simp
  | succ d ih =>
    intro k i s hi hk s0 s1
    obtain ⟨k, rfl, hk⟩ := succ_of hk
    have hl : i < l.length := by omega
    simp only [spec_l1Sum.l0]
    have hx := h0 l[i] (List.getElem_mem hl)
    have hi1 : B * ((i + 1 : Nat) : Int) = B * (i : Int) + B := by rw [Int.natCast_add, Int.mul_add]; simp
    have hi2 : B * ((i + 1 : Nat) : Int) ≤ B * (l.length : Int) := Int.mul_le_mul_of_nonneg_left (by omega) hB
    rw [if_pos (by omega), if_pos (by omega), if_pos (by omega), rd_nat hl, wrap_succ hl hm, wrap_id (by omega) (by omega), ih k (i + 1) (s + l[i]) (by omega) (by omega) (by omega) (by omega), sum_drop l i hl]
    congr 1; omega
theorem l1Sum_f (l : List Int) (B : Int) (hB : 0 ≤ B) (h0 : ∀ x ∈ l, 0 ≤ x ∧ x ≤ B) (hm : l.length ≤ maxLen) (hs : B * (l.length : Int) ≤ 4611686018427387904) (k : Nat) (hk : l.length < k) : spec_l1Sum.f k l = some l.sum := by
  unfold spec_l1Sum.f
  have := l1Sum_l l hm B hB h0 hs l.length k 0 0 (by omega) hk (by omega) (by simp)
  simpa using this
theorem sumOf_l (l : List Int) (hm : l.length ≤ maxLen) (B : Int) (hB : 0 ≤ B) (h0 : ∀ x ∈ l, 0 ≤ x ∧ x ≤ B) (hs : B * (l.length : Int) ≤ 4611686018427387904) (d : Nat) : ∀ (k i : Nat) (s : Int), i + d = l.length → d < k →
    0 ≤ s → s ≤ B * (i : Int) → impl_sumOf.l0 k s l (l.length : Int) (i : Int) = some (s + (l.drop i).sum) := by
  induction d with
  | zero =>
    intro k i s hi hk _ _
    obtain ⟨k, rfl, _⟩ := succ_of hk
    simp only [impl_sumOf.l0]
    rw [if_neg (by omega), List.drop_of_length_le (by omega)]; simp
  | succ d ih =>
    intro k i s hi hk s0 s1
    obtain ⟨k, rfl, hk⟩ := succ_of hk
    have hl : i < l.length := by omega
    simp only [impl_sumOf.l0]
    have hx := h0 l[i] (List.getElem_mem hl)
    have hi1 : B * ((i + 1 : Nat) : Int) = B * (i : Int) + B := by rw [Int.natCast_add, Int.mul_add]; simp
    have hi2 : B * ((i + 1 : Nat) : Int) ≤ B * (l.length : Int) := Int.mul_le_mul_of_nonneg_left (by omega) hB
    rw [if_pos (by omega), if_pos (by omega), if_pos (by omega), rd_nat hl, wrap_succ hl hm, wrap_id (by omega) (by omega), ih k (i + 1) (s + l[i]) (by omega) (by omega) (by omega) (by omega), sum_drop l i hl]
    congr 1; omega
theorem sumOf_f (l : List Int) (B : Int) (hB : 0 ≤ B) (h0 : ∀ x ∈ l, 0 ≤ x ∧ x ≤ B) (hm : l.length ≤ maxLen) (hs : B * (l.length : Int) ≤ 4611686018427387904) (k : Nat) (hk : l.length < k) : impl_sumOf.f k l = some l.sum := by
  unfold impl_sumOf.f
  have := sumOf_l l hm B hB h0 hs l.length k 0 0 (by omega) hk (by omega) (by simp)
  simpa using this
end FnExactBurnedInLaw
open FnExactBurnedInLaw
theorem contains (l : List Int) : slices_ContainsFunc_int_int.f l impl_BurnedIn_1.f = some (!(l.all fun n => decide (1 ≤ n ∧ n ≤ 80))) := by
  unfold slices_ContainsFunc_int_int.f
  rw [containsO_total _ (fun n => !decide (1 ≤ n ∧ n ≤ 80)) l (fun x _ => by unfold impl_BurnedIn_1.f impl_isUsed.f; simp only [within_f, Option.bind_some]), not_all_any]
theorem same (p : Int) (l : List Int) (hm : l.length ≤ maxLen) (k : Nat) (hk : l.length < k) : ∃ v, spec_BurnedIn.f k p l = some v ∧ impl_BurnedIn.f k p l = some v := by
  unfold spec_BurnedIn.f impl_BurnedIn.f spec_l13Price.f impl_isPrice.f
  simp only [l1In_f, within_f, Option.bind_some, decide_eq_true_eq]
  by_cases h0 : 8 ≤ p ∧ p ≤ 1000000
  · rw [if_pos h0, if_pos h0]
    by_cases h1 : (l.length : Int) > 60
    · rw [if_pos h1, if_pos h1]; exact ⟨_, rfl, rfl⟩
    · rw [if_neg h1, if_neg h1, l1All_f l _ _ hm k hk, contains]
      simp only [Option.bind_some]
      cases h : l.all fun n => decide ((1 : Int) ≤ n ∧ n ≤ 80)
      · exact ⟨_, rfl, rfl⟩
      · have hb : ∀ x ∈ l, 0 ≤ x ∧ x ≤ 80 := fun x hx => by
          have := of_decide_eq_true (of_all h x hx); omega
        simp only [if_true, Bool.not_true, Bool.false_eq_true, if_false]
        rw [l1Sum_f l 80 (by omega) hb hm (by omega) k hk, sumOf_f l 80 (by omega) hb hm (by omega) k hk]
        exact ⟨_, rfl, rfl⟩
  · rw [if_neg h0, if_neg h0]; exact ⟨_, rfl, rfl⟩
theorem FnExactBurnedIn : FnExactBurnedInPure := by
  intro p l _ hl
  have hm := hl.1
  refine ⟨l.length + 4, ?_⟩
  unfold laws_FnExactBurnedIn.f
  by_cases h1 : (l.length : Int) > 1048576
  · rw [if_pos h1]
  · rw [if_neg h1, toIntS_f l (by omega) _ (by omega)]
    simp only [Option.bind_some]
    obtain ⟨v, e1, e2⟩ := same p l hm (l.length + 4) (by omega)
    rw [e1, e2]
    simp only [Option.bind_some, if_true, laws_FnExactBurnedIn.j0]
    rw [toIntS_f l (by omega) _ (by omega)]
    simp only [Option.bind_some]
    rw [eqIntS_f l hm _ (by omega)]
    simp
end Go.Proofs.Ytgnhdomnlaijpaa.Pure
