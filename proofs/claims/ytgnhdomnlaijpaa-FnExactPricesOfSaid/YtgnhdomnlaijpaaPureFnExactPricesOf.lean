/- PricesOf of the program and of the reference return the same, in new memory, for all prices and used sizes; no condition. -/
import Derived.Test.YtgnhdomnlaijpaaDefFnExactPricesOf
import Derived.Test.YtgnhdomnlaijpaaPx
import Derived.Test.YtgnhdomnlaijpaaOv
namespace Go.Proofs.Ytgnhdomnlaijpaa.Pure
open Go.RowKit Go.Proofs.Ytgnhdomnlaijpaa.PFnExactPricesOf Go.Proofs.YtgnhdomnlaijpaaW.PrintWords Go.Proofs.YtgnhdomnlaijpaaW.PrintLast Go.Proofs.YtgnhdomnlaijpaaW.PrintMore Go.Proofs.Ytgnhdomnlaijpaa.Px Go.Proofs.Ytgnhdomnlaijpaa.Ov
namespace FnExactPricesOfLaw
theorem toIntS_l (l : List Int) (hm : l.length ≤ maxLen) (d : Nat) : ∀ (k i : Nat), i + d = l.length → d < k →
    laws_toIntS.l0 k l (l.take i ++ List.replicate (l.length - i) 0) (i : Int) = some l := by
  induction d with
  | zero =>
    intro k i hi hk
    obtain ⟨k, rfl, _⟩ := succ_of hk
    have e : i = l.length := by omega
    subst e
    simp only [laws_toIntS.l0]
    rw [if_neg (by omega)]
    simp
  | succ d ih =>
    intro k i hi hk
    obtain ⟨k, rfl, hk⟩ := succ_of hk
    have hl : i < l.length := by omega
    simp only [laws_toIntS.l0]
    rw [if_pos (by omega), if_pos (by omega), if_pos (by rw [length_step _ _ _ (by omega)]; omega), rd_nat hl, Int.toNat_natCast, set_step l 0 i hl, wrap_succ hl hm]
    exact ih k (i + 1) (by omega) (by omega)
theorem toIntS_f (l : List Int) (hm : l.length ≤ 35184372088832) (k : Nat) (hk : l.length < k) : laws_toIntS.f k l = some l := by
  unfold laws_toIntS.f
  rw [if_pos (by omega), if_pos (by simpa using hm), Int.toNat_natCast]
  simpa using toIntS_l l (by unfold maxLen; omega) l.length k 0 (by omega) hk
theorem eqIntS_l (a : List Int) (hm : a.length ≤ maxLen) (d : Nat) : ∀ (k i : Nat), i + d = a.length → d < k →
    laws_eqIntS.l0 k a a (i : Int) = some true := by
  induction d with
  | zero =>
    intro k i hi hk
    obtain ⟨k, rfl, _⟩ := succ_of hk
    simp only [laws_eqIntS.l0]
    rw [if_neg (by omega)]
  | succ d ih =>
    intro k i hi hk
    obtain ⟨k, rfl, hk⟩ := succ_of hk
    have hl : i < a.length := by omega
    simp only [laws_eqIntS.l0]
    rw [if_pos (by omega), if_pos (by omega), if_pos (by omega)]
    simp only [if_true]
    rw [wrap_succ hl hm]
    exact ih k (i + 1) (by omega) (by omega)
theorem eqIntS_f (a : List Int) (hm : a.length ≤ maxLen) (k : Nat) (hk : a.length < k) : laws_eqIntS.f k a a = some true := by
  unfold laws_eqIntS.f
  rw [if_pos rfl]
  exact eqIntS_l a hm a.length k 0 (by omega) hk
theorem l1In_f (a b c : Int) : spec_l1In.f a b c = some (decide (b ≤ a ∧ a ≤ c)) := by
  unfold spec_l1In.f
  by_cases h : b ≤ a <;> simp [h]
theorem within_f (a b c : Int) : impl_within.f a b c = some (decide (b ≤ a ∧ a ≤ c)) := rfl
theorem l1All_l (l : List Int) (a b : Int) (hm : l.length ≤ maxLen) (d : Nat) : ∀ (k i : Nat), i + d = l.length → d < k →
    spec_l1All.l0 k a b l (l.length : Int) (i : Int) = some ((l.drop i).all fun n => decide (a ≤ n ∧ n ≤ b)) := by
  induction d with
  | zero =>
    intro k i hi hk
    obtain ⟨k, rfl, _⟩ := succ_of hk
    simp only [spec_l1All.l0]
    rw [if_neg (by omega), List.drop_of_length_le (by omega)]; rfl
  | succ d ih =>
    intro k i hi hk
    obtain ⟨k, rfl, hk⟩ := succ_of hk
    have hl : i < l.length := by omega
    simp only [spec_l1All.l0]
    rw [if_pos (by omega), if_pos (by omega), if_pos (by omega), rd_nat hl, l1In_f, all_drop _ l i hl, wrap_succ hl hm]
    simp only [Option.bind_some]
    rw [ih k (i + 1) (by omega) (by omega)]
    cases decide (a ≤ l[i] ∧ l[i] ≤ b) <;> simp
theorem l1All_f (l : List Int) (a b : Int) (hm : l.length ≤ maxLen) (k : Nat) (hk : l.length < k) : spec_l1All.f k l a b = some (l.all fun n => decide (a ≤ n ∧ n ≤ b)) := by
  unfold spec_l1All.f
  simpa using l1All_l l a b hm l.length k 0 (by omega) hk
theorem l1Least_f (a b : Int) : spec_l1Least.f a b = some (if a < b then a else b) := by
  unfold spec_l1Least.f
  split <;> rfl
theorem next_same (a0 a1 : Int) (h0 : 8 ≤ a0) (h0' : a0 ≤ 1000000) (h1 : 0 ≤ a1) (h1' : a1 ≤ 80) : ∃ v, spec_l13Next.f a0 a1 = some v ∧ impl_nextPrice.f a0 a1 = some v ∧ 8 ≤ v ∧ v ≤ 1000000 := by
  have m1 : a1 > 40 → 0 ≤ a0 * (a1 - 40) ∧ a0 * (a1 - 40) ≤ 1000000 * 40 := fun h =>
    ⟨Int.mul_nonneg (by omega) (by omega), Int.mul_le_mul h0' (by omega) (by omega) (by omega)⟩
  have m2 : a1 < 40 → 0 ≤ a0 * (40 - a1) ∧ a0 * (40 - a1) ≤ a0 * 40 := fun h =>
    ⟨Int.mul_nonneg (by omega) (by omega), Int.mul_le_mul_of_nonneg_left (by omega) (by omega)⟩
  unfold spec_l13Next.f impl_nextPrice.f spec_l1Least.f mn mx
  by_cases h : a1 > 40
  · obtain ⟨p, q⟩ := m1 h
    have e1 : wrap64 (a1 - 40) = a1 - 40 := by unfold wrap64; omega
    have e2 : wrap64 (a0 * (a1 - 40)) = a0 * (a1 - 40) := by unfold wrap64; omega
    generalize hx : a0 * (a1 - 40) = x at e2 p q
    have e3 : wrap64 (Int.tdiv x 320) = x / 320 := by rw [Int.tdiv_eq_ediv_of_nonneg p]; unfold wrap64; omega
    rw [if_pos h, if_pos h, e1, hx, e2, e3]
    have w1 : wrap64 (a0 + 1) = a0 + 1 := by unfold wrap64; omega
    have w2 : wrap64 (a0 + x / 320) = a0 + x / 320 := by unfold wrap64; omega
    by_cases h2 : x / 320 < 1
    · rw [if_pos h2]
      have h3 : ¬ (1 < x / 320) := by omega
      rw [if_neg h3, w1]
      by_cases h4 : 1000000 < a0 + 1
      · rw [if_pos h4, if_neg (by omega)]; exact ⟨_, rfl, rfl, by omega, by omega⟩
      · rw [if_neg h4]
        by_cases h5 : a0 + 1 < 1000000
        · rw [if_pos h5]; exact ⟨_, rfl, rfl, by omega, by omega⟩
        · rw [if_neg h5]; exact ⟨_, rfl, by congr 1; omega, by omega, by omega⟩
    · rw [if_neg h2]
      have e5 : (if 1 < x / 320 then x / 320 else 1) = x / 320 := by split <;> omega
      rw [e5, w2]
      by_cases h4 : 1000000 < a0 + x / 320
      · rw [if_pos h4, if_neg (by omega)]; exact ⟨_, rfl, rfl, by omega, by omega⟩
      · rw [if_neg h4]
        by_cases h5 : a0 + x / 320 < 1000000
        · rw [if_pos h5]; exact ⟨_, rfl, rfl, by omega, by omega⟩
        · rw [if_neg h5]; exact ⟨_, rfl, by congr 1; omega, by omega, by omega⟩
  · rw [if_neg h, if_neg h]
    by_cases h' : a1 < 40
    · obtain ⟨p, q⟩ := m2 h'
      have e1 : wrap64 (40 - a1) = 40 - a1 := by unfold wrap64; omega
      have e2 : wrap64 (a0 * (40 - a1)) = a0 * (40 - a1) := by unfold wrap64; omega
      generalize hx : a0 * (40 - a1) = x at e2 p q
      have e3 : wrap64 (Int.tdiv x 320) = x / 320 := by rw [Int.tdiv_eq_ediv_of_nonneg p]; unfold wrap64; omega
      rw [if_pos h', if_pos h', e1, hx, e2, e3]
      have w1 : wrap64 (a0 - x / 320) = a0 - x / 320 := by unfold wrap64; omega
      rw [w1]
      by_cases h2 : a0 - x / 320 < 8
      · rw [if_pos h2, if_neg (by omega)]; exact ⟨_, rfl, rfl, by omega, by omega⟩
      · rw [if_neg h2]
        by_cases h5 : 8 < a0 - x / 320
        · rw [if_pos h5]; exact ⟨_, rfl, rfl, by omega, by omega⟩
        · rw [if_neg h5]; exact ⟨_, rfl, by congr 1; omega, by omega, by omega⟩
    · rw [if_neg h', if_neg h']; exact ⟨_, rfl, rfl, by omega, by omega⟩
theorem markIntS_l (l : List Int) (a : Int) (ha : 0 ≤ a) (ha2 : a + (l.length : Int) ≤ 4611686018427387904) (d : Nat) : ∀ (k i : Nat), i + d = l.length → d < k →
    laws_markIntS.l0 k (marks a i ++ l.drop i) (a + (i : Int)) (i : Int) = some (a + (l.length : Int), marks a l.length) := by
  induction d with
  | zero =>
    intro k i hi hk
    obtain ⟨k, rfl, _⟩ := succ_of hk
    have e : i = l.length := by omega
    subst e
    simp only [laws_markIntS.l0]
    rw [if_neg (by rw [mark_length a l _ (by omega)]; omega), List.drop_length, List.append_nil]
  | succ d ih =>
    intro k i hi hk
    obtain ⟨k, rfl, hk⟩ := succ_of hk
    have hl : i < l.length := by omega
    simp only [laws_markIntS.l0]
    rw [if_pos (by rw [mark_length a l _ (by omega)]; omega), if_pos (by omega), Int.toNat_natCast, mark_step a l i hl, wrap_succ hl (by unfold maxLen; omega), wrap_id (by omega) (by omega)]
    have := ih k (i + 1) (by omega) (by omega)
    have e : a + ((i + 1 : Nat) : Int) = a + (i : Int) + 1 := by omega
    rw [e] at this
    exact this
theorem markIntS_f (l : List Int) (a : Int) (ha : 0 ≤ a) (ha2 : a + (l.length : Int) ≤ 4611686018427387904) (k : Nat) (hk : l.length < k) : laws_markIntS.f k l a = some (a + (l.length : Int), marks a l.length) := by
  unfold laws_markIntS.f
  have := markIntS_l l a ha ha2 l.length k 0 (by omega) hk
  simpa [marks] using this
theorem heldIntS_l (n : Nat) (a : Int) (ha : 0 ≤ a) (ha2 : a + (n : Int) ≤ 4611686018427387904) (d : Nat) : ∀ (k i : Nat), i + d = n → d < k →
    laws_heldIntS.l0 k (marks a n) (a + (i : Int)) (i : Int) = some (a + (n : Int)) := by
  induction d with
  | zero =>
    intro k i hi hk
    obtain ⟨k, rfl, _⟩ := succ_of hk
    simp only [laws_heldIntS.l0]
    rw [if_neg (by rw [marks_length]; omega)]
    congr 1; omega
  | succ d ih =>
    intro k i hi hk
    obtain ⟨k, rfl, hk⟩ := succ_of hk
    have hl : i < n := by omega
    simp only [laws_heldIntS.l0]
    rw [if_pos (by rw [marks_length]; omega), if_pos (by omega), rd_nat (by rw [marks_length]; exact hl), marks_get a n i hl, if_pos rfl, wrap_succ hl (by unfold maxLen; omega), wrap_id (by omega) (by omega)]
    have := ih k (i + 1) (by omega) (by omega)
    have e : a + ((i + 1 : Nat) : Int) = a + (i : Int) + 1 := by omega
    rw [e] at this
    exact this
theorem heldIntS_f (n : Nat) (a : Int) (ha : 0 ≤ a) (ha2 : a + (n : Int) ≤ 4611686018427387904) (k : Nat) (hk : n < k) : laws_heldIntS.f k (marks a n) a = some (a + (n : Int)) := by
  unfold laws_heldIntS.f
  have := heldIntS_l n a ha ha2 n k 0 (by omega) hk
  simpa using this
end FnExactPricesOfLaw
open FnExactPricesOfLaw
theorem contains (l : List Int) : slices_ContainsFunc_int_int.f l impl_PricesOf_1.f = some (!(l.all fun n => decide (0 ≤ n ∧ n ≤ 80))) := by
  unfold slices_ContainsFunc_int_int.f
  rw [containsO_total _ (fun n => !decide (0 ≤ n ∧ n ≤ 80)) l (fun x _ => by unfold impl_PricesOf_1.f; simp only [within_f, Option.bind_some]), not_all_any]
theorem loops (l : List Int) (hm : l.length ≤ 60) (hb : ∀ x ∈ l, 0 ≤ x ∧ x ≤ 80) (d : Nat) : ∀ (k i : Nat) (p : Int) (o : List Int), i + d = l.length → d < k → 8 ≤ p → p ≤ 1000000 → o.length = i + 1 →
    ∃ o', spec_PricesOf.l0 k p o l (l.length : Int) (i : Int) = some (o', true) ∧ impl_PricesOf.l0 k p o l (l.length : Int) (i : Int) = some (o', true) ∧ o'.length ≤ 61 := by
  induction d with
  | zero =>
    intro k i p o hi hk _ _ ho
    obtain ⟨k, rfl, _⟩ := succ_of hk
    simp only [spec_PricesOf.l0, impl_PricesOf.l0]
    rw [if_neg (by omega), if_neg (by omega)]
    exact ⟨o, rfl, rfl, by omega⟩
  | succ d ih =>
    intro k i p o hi hk p0 p1 ho
    obtain ⟨k, rfl, hk⟩ := succ_of hk
    have hl : i < l.length := by omega
    simp only [spec_PricesOf.l0, impl_PricesOf.l0]
    have hx := hb l[i] (List.getElem_mem hl)
    obtain ⟨v, e1, e2, v0, v1⟩ := next_same p l[i] p0 p1 hx.1 hx.2
    rw [if_pos (by omega), if_pos (by omega), if_pos (by omega), if_pos (by omega), if_pos (by omega), if_pos (by omega), rd_nat hl, e1, e2]
    simp only [Option.bind_some]
    rw [if_pos (by omega), if_pos (by omega), wrap_succ hl (by unfold maxLen; omega)]
    exact ih k (i + 1) v (o ++ [v]) (by omega) (by omega) v0 v1 (by simp [ho])
theorem same (p : Int) (l : List Int) (hm : l.length ≤ maxLen) (k : Nat) (hk : l.length + 1 < k) : ∃ (o : List Int) (b : Bool), spec_PricesOf.f k p l = some (o, b) ∧ impl_PricesOf.f k p l = some (o, b) ∧ o.length ≤ 61 := by
  unfold spec_PricesOf.f impl_PricesOf.f spec_l13Price.f impl_isPrice.f
  simp only [l1In_f, within_f, Option.bind_some, decide_eq_true_eq]
  obtain ⟨k, rfl, hk3⟩ := succ_of hk
  simp only [spec_PricesOf.j0, impl_PricesOf.j0]
  by_cases h0 : 8 ≤ p ∧ p ≤ 1000000
  · rw [if_pos h0, if_pos h0]
    by_cases h1 : (l.length : Int) > 60
    · rw [if_pos h1, if_pos h1]; exact ⟨_, _, rfl, rfl, by simp⟩
    · rw [if_neg h1, if_neg h1, l1All_f l _ _ hm _ (by omega), contains]
      simp only [Option.bind_some]
      cases h : l.all fun n => decide ((0 : Int) ≤ n ∧ n ≤ 80)
      · exact ⟨_, _, rfl, rfl, by simp⟩
      · have hb : ∀ x ∈ l, 0 ≤ x ∧ x ≤ 80 := fun x hx => of_decide_eq_true (of_all h x hx)
        obtain ⟨o, e1, e2, e3⟩ := loops l (by omega) hb l.length k 0 p [p] (by omega) (by omega) h0.1 h0.2 rfl
        simp only [Int.natCast_zero] at e1 e2
        simp only [Bool.not_true, Bool.false_eq_true, if_false]
        exact ⟨o, true, e1, e2, e3⟩
  · rw [if_neg h0, if_neg h0]; exact ⟨_, _, rfl, rfl, by simp⟩
theorem FnExactPricesOf : FnExactPricesOfPure := by
  intro p l _ hl
  have hm := hl.1
  refine ⟨l.length + 70, ?_⟩
  unfold laws_FnExactPricesOf.f
  by_cases h1 : (l.length : Int) > 1048576
  · rw [if_pos h1]
  · rw [if_neg h1, toIntS_f l (by omega) _ (by omega)]
    simp only [Option.bind_some]
    obtain ⟨o, b, e1, e2, e3⟩ := same p l hm (l.length + 3) (by omega)
    have s1 : ∀ k, l.length + 3 ≤ k → spec_PricesOf.f k p l = some (o, b) := fun k hk => mono_le (spec_PricesOf.mono p l) hk e1
    have s2 : ∀ k, l.length + 3 ≤ k → impl_PricesOf.f k p l = some (o, b) := fun k hk => mono_le (impl_PricesOf.mono p l) hk e2
    rw [s1 _ (by omega), s2 _ (by omega)]
    simp only [Option.bind_some, laws_FnExactPricesOf.j0, laws_FnExactPricesOf.j1, laws_FnExactPricesOf.j2, bne_self_eq_false]
    have hu : o.length ≤ maxLen := by unfold maxLen; omega
    rw [eqIntS_f o hu _ (by omega)]
    simp only [Option.bind_some, if_true, Bool.false_eq_true, if_false]
    rw [toIntS_f l (by omega) _ (by omega)]
    simp only [Option.bind_some]
    rw [eqIntS_f l hm _ (by omega)]
    simp only [Option.bind_some, if_true]
    rw [markIntS_f l 1 (by omega) (by omega) _ (by omega)]
    simp only [Option.bind_some]
    rw [if_neg (by omega), eqIntS_f o hu _ (by omega)]
    simp only [Option.bind_some, if_true]
    rw [markIntS_f o 1 (by omega) (by omega) _ (by omega)]
    simp only [Option.bind_some]
    rw [heldIntS_f o.length 1 (by omega) (by omega) _ (by omega)]
    simp only [Option.bind_some]
    rw [if_neg (by omega)]
    simp only [if_true]
    rw [toIntS_f l (by omega) _ (by omega)]
    simp only [Option.bind_some]
    rw [s2 _ (by omega)]
    simp only [Option.bind_some, bne_self_eq_false]
    rw [eqIntS_f o hu _ (by omega)]
    simp only [if_true, Option.bind_some, Bool.false_eq_true, if_false]
    rw [heldIntS_f o.length 1 (by omega) (by omega) _ (by omega)]
    simp only [Option.bind_some]
    rw [if_neg (by omega)]
    simp
end Go.Proofs.Ytgnhdomnlaijpaa.Pure
