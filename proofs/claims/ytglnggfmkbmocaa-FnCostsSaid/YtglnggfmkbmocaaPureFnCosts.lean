/- For every two lists of bytes the law of costs answers true (nobody pays more than the limit, and what is paid is burned or goes to the proposer); no condition. -/
import Derived.Laws.Bits64b
import Derived.Test.YtglnggfmkbmocaaDefFnCosts
import Derived.Test.YtglnggfmkbmocaaPx
import Derived.Test.YtglnggfmkbmocaaOv
namespace Go.Proofs.Ytglnggfmkbmocaa.Pure
open Go.RowKit Go.Proofs.Ytglnggfmkbmocaa.PFnCosts Go.Proofs.YtglnggfmkbmocaaW.PrintWords Go.Proofs.YtglnggfmkbmocaaW.PrintLast Go.Proofs.YtglnggfmkbmocaaW.PrintMore Go.Proofs.Ytglnggfmkbmocaa.Px Go.Proofs.Ytglnggfmkbmocaa.Ov
namespace FnCostsLaw
def by8 (l : List Int) : Prop := ∀ x ∈ l, 0 ≤ x ∧ x ≤ 255
theorem by8_of {l : List Int} (h : ∀ x ∈ l, (Lit.int .u8 x).wf = true) : by8 l := by
  intro x hx
  have h2 : IntKind.min .u8 ≤ x ∧ x ≤ IntKind.max .u8 := by simpa [Lit.wf] using h x hx
  have e1 : IntKind.min .u8 = 0 := by decide
  have e2 : IntKind.max .u8 = 255 := by decide
  omega
theorem u64_range (x : Int) : 0 ≤ IntKind.u64.wrap x ∧ IntKind.u64.wrap x < 18446744073709551616 := by
  rw [IntKind.wrap_u64]; omega
theorem and255 (x : Int) (h0 : 0 ≤ x) (h1 : x < 18446744073709551616) : 0 ≤ bits .and .u64 x 255 ∧ bits .and .u64 x 255 ≤ 255 := by
  obtain ⟨n, rfl⟩ := Int.eq_ofNat_of_zero_le h0
  have h := bits_and_u64_nat n 255 (by omega) (by omega)
  have h2 : n &&& 255 ≤ 255 := Nat.and_le_right
  have h3 : bits .and .u64 (n : Int) 255 = ((n &&& 255 : Nat) : Int) := h
  rw [h3]; omega
theorem low8 (x : Int) : 0 ≤ wrap64 (bits .and .u64 (IntKind.u64.wrap x / 1099511627776) 255) ∧ wrap64 (bits .and .u64 (IntKind.u64.wrap x / 1099511627776) 255) ≤ 255 := by
  have h := u64_range x
  have h2 := and255 (IntKind.u64.wrap x / 1099511627776) (by omega) (by omega)
  rw [wrap_id (by omega) (by omega)]; exact h2
theorem next_f (l : List Int) (hb : by8 l) (_hl : l.length ≤ maxLen) (a s : Int) (h0 : 0 ≤ a) (h1 : a ≤ 4611686018427387904) :
    ∃ x s', spec_l1Cur_next.f l a s = some (x, a + 1, s') ∧ 0 ≤ x ∧ x ≤ 255 := by
  unfold spec_l1Cur_next.f
  rw [wrap_id (by omega) (by omega)]
  by_cases h : a < (l.length : Int)
  · obtain ⟨i, rfl⟩ := Int.eq_ofNat_of_zero_le h0
    have hi : i < l.length := by omega
    have hx := hb l[i] (List.getElem_mem hi)
    rw [if_pos h, if_pos h0, if_pos (by omega), rd_nat hi, wrap_id (by omega) (by omega)]
    exact ⟨_, _, rfl, hx.1, hx.2⟩
  · rw [if_neg h, if_neg (by omega)]
    exact ⟨_, _, rfl, (low8 _).1, (low8 _).2⟩
theorem pick_f (l : List Int) (hb : by8 l) (hl : l.length ≤ maxLen) (a s n : Int) (h0 : 0 ≤ a) (h1 : a ≤ 4611686018427387900) :
    ∃ x a' s', spec_l1Cur_pick.f l a s n = some (x, a', s') ∧ 0 ≤ x ∧ (x < n ∨ x = 0) ∧ a ≤ a' ∧ a' ≤ a + 2 := by
  unfold spec_l1Cur_pick.f
  by_cases h : n ≤ 1
  · rw [if_pos h]; exact ⟨_, _, _, rfl, by omega, Or.inr rfl, by omega, by omega⟩
  · rw [if_neg h]
    obtain ⟨x, s1, e1, x0, x1⟩ := next_f l hb hl a s h0 (by omega)
    rw [e1]
    simp only [Option.bind_some]
    by_cases h2 : n > 200
    · rw [if_pos h2]
      obtain ⟨y, s2, e2, y0, y1⟩ := next_f l hb hl (a + 1) s1 (by omega) (by omega)
      rw [e2]
      simp only [Option.bind_some]
      have w1 : wrap64 (x * 256) = x * 256 := wrap_id (by omega) (by omega)
      rw [if_neg (by omega), w1, wrap_id (by omega) (by omega), Int.tmod_eq_emod_of_nonneg (by omega)]
      have q1 := Int.emod_nonneg (x * 256 + y) (show n ≠ 0 by omega)
      have q2 := Int.emod_lt_of_pos (x * 256 + y) (show 0 < n by omega)
      exact ⟨_, _, _, rfl, q1, Or.inl q2, by omega, by omega⟩
    · rw [if_neg h2, if_neg (by omega), Int.tmod_eq_emod_of_nonneg (by omega)]
      have q1 := Int.emod_nonneg x (show n ≠ 0 by omega)
      have q2 := Int.emod_lt_of_pos x (show 0 < n by omega)
      exact ⟨_, _, _, rfl, q1, Or.inl q2, by omega, by omega⟩
theorem one_f (l : List Int) (hb : by8 l) (hl : l.length ≤ maxLen) (a s n : Int) (h0 : 0 ≤ a) (h1 : a ≤ 4611686018427387900) :
    ∃ x a' s', spec_l1Cur_one.f l a s n = some (x, a', s') ∧ a ≤ a' ∧ a' ≤ a + 2 := by
  unfold spec_l1Cur_one.f
  obtain ⟨x, a1, s1, e, _, _, q1, q2⟩ := pick_f l hb hl a s n h0 h1
  rw [e]
  exact ⟨_, _, _, rfl, q1, q2⟩
theorem among_f (l : List Int) (hb : by8 l) (hl : l.length ≤ maxLen) (a s : Int) (L : List Int) (hL : 1 ≤ L.length) (h0 : 0 ≤ a) (h1 : a ≤ 4611686018427387900) :
    ∃ x a' s', spec_l1Cur_among.f l a s L = some (x, a', s') ∧ x ∈ L ∧ a ≤ a' ∧ a' ≤ a + 2 := by
  unfold spec_l1Cur_among.f
  obtain ⟨x, a1, s1, e, x0, x1, q1, q2⟩ := pick_f l hb hl a s (L.length : Int) h0 h1
  rw [e]
  simp only [Option.bind_some]
  obtain ⟨i, rfl⟩ := Int.eq_ofNat_of_zero_le x0
  have hi : i < L.length := by omega
  rw [if_pos x0, if_pos (by omega), rd_nat hi]
  exact ⟨_, _, _, rfl, List.getElem_mem hi, q1, q2⟩
theorem price_f (l : List Int) (hb : by8 l) (hl : l.length ≤ maxLen) (a s : Int) (h0 : 0 ≤ a) (h1 : a ≤ 4611686018427387000) :
    ∃ x a' s', spec_l1Cur_price.f l a s = some (x, a', s') ∧ a ≤ a' ∧ a' ≤ a + 6 := by
  unfold spec_l1Cur_price.f
  obtain ⟨x, a1, s1, e, x0, x1, q1, q2⟩ := pick_f l hb hl a s 250 h0 (by omega)
  rw [e]
  simp only [Option.bind_some]
  obtain ⟨y, a2, s2, e2, y0, y1, q3, q4⟩ := pick_f l hb hl a1 s1 250 (by omega) (by omega)
  rw [e2]
  simp only [Option.bind_some]
  obtain ⟨z, a3, s3, e3, z0, q5, q6⟩ := among_f l hb hl a2 s2 [7, 8, 9, 100, 1000, 999999, 1000000, 1000001, wrap64 (8 + wrap64 (x * y))] (by simp) (by omega) (by omega)
  rw [e3]
  exact ⟨z, a3, s3, rfl, by omega, by omega⟩
theorem l1In_f (a b c : Int) : spec_l1In.f a b c = some (decide (b ≤ a ∧ a ≤ c)) := by
  unfold spec_l1In.f
  by_cases h : b ≤ a <;> simp [h]
theorem within_f (a b c : Int) : impl_within.f a b c = some (decide (b ≤ a ∧ a ≤ c)) := rfl
theorem cost_same (a0 a1 a2 a3 : Int) : impl_CostOf.f a0 a1 a2 a3 = spec_CostOf.f a0 a1 a2 a3 := by
  unfold impl_CostOf.f spec_CostOf.f impl_isPrice.f impl_isFee.f impl_isUsed.f spec_l13Price.f impl_costOf.f spec_l1Least.f
  simp only [l1In_f, within_f, Option.bind_some, decide_eq_true_eq]
  by_cases h0 : 8 ≤ a0 ∧ a0 ≤ 1000000
  · rw [if_pos h0, if_pos h0]
    by_cases h1 : 0 ≤ a1 ∧ a1 ≤ 1000000
    · rw [if_pos h1, if_pos h1]
      by_cases h2 : a0 ≤ a2 ∧ a2 ≤ 1000000
      · rw [if_pos h2, if_pos (by omega)]
        by_cases h3 : 1 ≤ a3 ∧ a3 ≤ 80
        · rw [if_pos h3, if_pos h3, if_neg (by omega)]
          have e : mn a1 (wrap64 (a2 - a0)) = if a1 < wrap64 (a2 - a0) then a1 else wrap64 (a2 - a0) := by
            unfold mn; split <;> split <;> omega
          rw [e]
          split <;> simp only [Option.bind_some] <;> rw [Int.mul_comm a3]
        · rw [if_neg h3, if_neg h3]
      · rw [if_neg h2]
        by_cases h2' : 0 ≤ a2 ∧ a2 ≤ 1000000
        · rw [if_pos h2']
          by_cases h3 : 1 ≤ a3 ∧ a3 ≤ 80
          · rw [if_pos h3, if_pos (by omega)]
          · rw [if_neg h3]
        · rw [if_neg h2']
    · rw [if_neg h1, if_neg h1]
  · rw [if_neg h0, if_neg h0]
theorem mulb {a b A B : Int} (ha : 0 ≤ a) (ha2 : a ≤ A) (hb : 0 ≤ b) (hb2 : b ≤ B) : 0 ≤ a * b ∧ a * b ≤ A * B :=
  ⟨Int.mul_nonneg ha hb, Int.mul_le_mul ha2 hb2 hb (by omega)⟩
theorem cost_val (p tip lim size : Int) : ∃ (a b : Int) (c : Bool), spec_CostOf.f p tip lim size = some (a, b, c) ∧
    (c = true → ∃ m : Int, (8 ≤ p ∧ p ≤ 1000000) ∧ (0 ≤ tip ∧ tip ≤ 1000000) ∧ (p ≤ lim ∧ lim ≤ 1000000) ∧ (1 ≤ size ∧ size ≤ 80) ∧ a = p * size ∧ b = m * size ∧ 0 ≤ m ∧ m ≤ tip ∧ m ≤ lim - p) := by
  unfold spec_CostOf.f spec_l13Price.f spec_l1Least.f
  simp only [l1In_f, Option.bind_some, decide_eq_true_eq]
  by_cases h0 : 8 ≤ p ∧ p ≤ 1000000
  · rw [if_pos h0]
    by_cases h1 : 0 ≤ tip ∧ tip ≤ 1000000
    · rw [if_pos h1]
      by_cases h2 : p ≤ lim ∧ lim ≤ 1000000
      · rw [if_pos h2]
        by_cases h3 : 1 ≤ size ∧ size ≤ 80
        · rw [if_pos h3, wrap_id (by omega) (by omega)]
          have w1 := mulb (a := p) (b := size) (A := 1000000) (B := 80) (by omega) (by omega) (by omega) (by omega)
          rw [wrap_id (by omega) (by omega)]
          by_cases h4 : tip < lim - p
          · rw [if_pos h4]
            have w2 := mulb (a := tip) (b := size) (A := 1000000) (B := 80) (by omega) (by omega) (by omega) (by omega)
            simp only [Option.bind_some]
            rw [wrap_id (by omega) (by omega)]
            exact ⟨_, _, _, rfl, fun _ => ⟨tip, h0, h1, h2, h3, rfl, rfl, by omega, by omega, by omega⟩⟩
          · rw [if_neg h4]
            have w2 := mulb (a := lim - p) (b := size) (A := 1000000) (B := 80) (by omega) (by omega) (by omega) (by omega)
            simp only [Option.bind_some]
            rw [wrap_id (by omega) (by omega)]
            exact ⟨_, _, _, rfl, fun _ => ⟨lim - p, h0, h1, h2, h3, rfl, rfl, by omega, by omega, by omega⟩⟩
        · rw [if_neg h3]; exact ⟨_, _, _, rfl, fun h => by cases h⟩
      · rw [if_neg h2]; exact ⟨_, _, _, rfl, fun h => by cases h⟩
    · rw [if_neg h1]; exact ⟨_, _, _, rfl, fun h => by cases h⟩
  · rw [if_neg h0]; exact ⟨_, _, _, rfl, fun h => by cases h⟩
theorem pay_same (p l : Int) : ∃ (a b : Bool), impl_MayPay.f p l = some (a, b) ∧ spec_MayPay.f p l = some (a, b) ∧ ((8 ≤ p ∧ p ≤ 1000000) → (p ≤ l ∧ l ≤ 1000000) → a = true ∧ b = true) := by
  unfold impl_MayPay.f spec_MayPay.f impl_isPrice.f impl_isFee.f spec_l13Price.f
  simp only [l1In_f, within_f, Option.bind_some, decide_eq_true_eq]
  by_cases h0 : 8 ≤ p ∧ p ≤ 1000000
  · rw [if_pos h0]
    by_cases h1 : 0 ≤ l ∧ l ≤ 1000000
    · rw [if_pos h1]
      exact ⟨_, _, rfl, rfl, fun _ h => ⟨decide_eq_true (by omega), rfl⟩⟩
    · rw [if_neg h1]; exact ⟨_, _, rfl, rfl, fun _ h => by omega⟩
  · rw [if_neg h0]; exact ⟨_, _, rfl, rfl, fun h => by omega⟩
theorem l1All_l (l : List Int) (a b : Int) (hm : l.length ≤ maxLen) (d : Nat) : ∀ (k i : Nat), i + d = l.length → d < k →
    spec_l1All.l0 k a b l (l.length : Int) (i : Int) = some ((l.drop i).all fun n => decide (a ≤ n ∧ n ≤ b)) := by
  induction d with
  | zero =>
    intro k i hi hk
    obtain ⟨k, rfl, _⟩ := succ_of hk
    simp only [spec_l1All.l0]
    rw [if_neg (by omega), List.drop_of_length_le (by omega)]; rfl
  | succ d ih =>
    intro k i hi hk
    obtain ⟨k, rfl, hk⟩ := succ_of hk
    have hl : i < l.length := by omega
    simp only [spec_l1All.l0]
    rw [if_pos (by omega), if_pos (by omega), if_pos (by omega), rd_nat hl, l1In_f, all_drop _ l i hl, wrap_succ hl hm]
    simp only [Option.bind_some]
    rw [ih k (i + 1) (by omega) (by omega)]
    cases decide (a ≤ l[i] ∧ l[i] ≤ b) <;> simp
theorem l1All_f (l : List Int) (a b : Int) (hm : l.length ≤ maxLen) (k : Nat) (hk : l.length < k) : spec_l1All.f k l a b = some (l.all fun n => decide (a ≤ n ∧ n ≤ b)) := by
  unfold spec_l1All.f
  simpa using l1All_l l a b hm l.length k 0 (by omega) hk
theorem l1Sum_l (l : List Int) (hm : l.length ≤ maxLen) (B : Int) (hB : 0 ≤ B) (h0 : ∀ x ∈ l, 0 ≤ x ∧ x ≤ B) (hs : B * (l.length : Int) ≤ 4611686018427387904) (d : Nat) : ∀ (k i : Nat) (s : Int), i + d = l.length → d < k →
    0 ≤ s → s ≤ B * (i : Int) → spec_l1Sum.l0 k s l (l.length : Int) (i : Int) = some (s + (l.drop i).sum) := by
  induction d with
  | zero =>
    intro k i s hi hk _ _
    obtain ⟨k, rfl, _⟩ := succ_of hk
    simp only [spec_l1Sum.l0]
    rw [if_neg (by omega), List.drop_of_length_le (by omega)]; simp
  | succ d ih =>
    intro k i s hi hk s0 s1
    obtain ⟨k, rfl, hk⟩ := succ_of hk
    have hl : i < l.length := by omega
    simp only [spec_l1Sum.l0]
    have hx := h0 l[i] (List.getElem_mem hl)
    have hi1 : B * ((i + 1 : Nat) : Int) = B * (i : Int) + B := by rw [Int.natCast_add, Int.mul_add]; simp
    have hi2 : B * ((i + 1 : Nat) : Int) ≤ B * (l.length : Int) := Int.mul_le_mul_of_nonneg_left (by omega) hB
    rw [if_pos (by omega), if_pos (by omega), if_pos (by omega), rd_nat hl, wrap_succ hl hm, wrap_id (by omega) (by omega), ih k (i + 1) (s + l[i]) (by omega) (by omega) (by omega) (by omega), sum_drop l i hl]
    congr 1; omega
theorem l1Sum_f (l : List Int) (B : Int) (hB : 0 ≤ B) (h0 : ∀ x ∈ l, 0 ≤ x ∧ x ≤ B) (hm : l.length ≤ maxLen) (hs : B * (l.length : Int) ≤ 4611686018427387904) (k : Nat) (hk : l.length < k) : spec_l1Sum.f k l = some l.sum := by
  unfold spec_l1Sum.f
  have := l1Sum_l l hm B hB h0 hs l.length k 0 0 (by omega) hk (by omega) (by simp)
  simpa using this
theorem sumOf_l (l : List Int) (hm : l.length ≤ maxLen) (B : Int) (hB : 0 ≤ B) (h0 : ∀ x ∈ l, 0 ≤ x ∧ x ≤ B) (hs : B * (l.length : Int) ≤ 4611686018427387904) (d : Nat) : ∀ (k i : Nat) (s : Int), i + d = l.length → d < k →
    0 ≤ s → s ≤ B * (i : Int) → impl_sumOf.l0 k s l (l.length : Int) (i : Int) = some (s + (l.drop i).sum) := by
  induction d with
  | zero =>
    intro k i s hi hk _ _
    obtain ⟨k, rfl, _⟩ := succ_of hk
    simp only [impl_sumOf.l0]
    rw [if_neg (by omega), List.drop_of_length_le (by omega)]; simp
  | succ d ih =>
    intro k i s hi hk s0 s1
    obtain ⟨k, rfl, hk⟩ := succ_of hk
    have hl : i < l.length := by omega
    simp only [impl_sumOf.l0]
    have hx := h0 l[i] (List.getElem_mem hl)
    have hi1 : B * ((i + 1 : Nat) : Int) = B * (i : Int) + B := by rw [Int.natCast_add, Int.mul_add]; simp
    have hi2 : B * ((i + 1 : Nat) : Int) ≤ B * (l.length : Int) := Int.mul_le_mul_of_nonneg_left (by omega) hB
    rw [if_pos (by omega), if_pos (by omega), if_pos (by omega), rd_nat hl, wrap_succ hl hm, wrap_id (by omega) (by omega), ih k (i + 1) (s + l[i]) (by omega) (by omega) (by omega) (by omega), sum_drop l i hl]
    congr 1; omega
theorem sumOf_f (l : List Int) (B : Int) (hB : 0 ≤ B) (h0 : ∀ x ∈ l, 0 ≤ x ∧ x ≤ B) (hm : l.length ≤ maxLen) (hs : B * (l.length : Int) ≤ 4611686018427387904) (k : Nat) (hk : l.length < k) : impl_sumOf.f k l = some l.sum := by
  unfold impl_sumOf.f
  have := sumOf_l l hm B hB h0 hs l.length k 0 0 (by omega) hk (by omega) (by simp)
  simpa using this
theorem burned_contains (l : List Int) : slices_ContainsFunc_int_int.f l impl_BurnedIn_1.f = some (!(l.all fun n => decide (1 ≤ n ∧ n ≤ 80))) := by
  unfold slices_ContainsFunc_int_int.f
  rw [containsO_total _ (fun n => !decide (1 ≤ n ∧ n ≤ 80)) l (fun x _ => by unfold impl_BurnedIn_1.f impl_isUsed.f; simp only [within_f, Option.bind_some]), not_all_any]
theorem burned_same (p : Int) (l : List Int) (hm : l.length ≤ maxLen) (k : Nat) (hk : l.length < k) : ∃ (v : Int) (b : Bool), spec_BurnedIn.f k p l = some (v, b) ∧ impl_BurnedIn.f k p l = some (v, b) := by
  unfold spec_BurnedIn.f impl_BurnedIn.f spec_l13Price.f impl_isPrice.f
  simp only [l1In_f, within_f, Option.bind_some, decide_eq_true_eq]
  by_cases h0 : 8 ≤ p ∧ p ≤ 1000000
  · rw [if_pos h0, if_pos h0]
    by_cases h1 : (l.length : Int) > 60
    · rw [if_pos h1, if_pos h1]; exact ⟨_, _, rfl, rfl⟩
    · rw [if_neg h1, if_neg h1, l1All_f l _ _ hm k hk, burned_contains]
      simp only [Option.bind_some]
      cases h : l.all fun n => decide ((1 : Int) ≤ n ∧ n ≤ 80)
      · exact ⟨_, _, rfl, rfl⟩
      · have hb : ∀ x ∈ l, 0 ≤ x ∧ x ≤ 80 := fun x hx => by
          have := of_decide_eq_true (of_all h x hx); omega
        simp only [if_true, Bool.not_true, Bool.false_eq_true, if_false]
        rw [l1Sum_f l 80 (by omega) hb hm (by omega) k hk, sumOf_f l 80 (by omega) hb hm (by omega) k hk]
        exact ⟨_, _, rfl, rfl⟩
  · rw [if_neg h0, if_neg h0]; exact ⟨_, _, rfl, rfl⟩
theorem l1Least_f (a b : Int) : spec_l1Least.f a b = some (if a < b then a else b) := by
  unfold spec_l1Least.f
  split <;> rfl
def nx (a u : Int) : Int :=
  if u > 40 then (if a * (u - 40) / 320 < 1 then (if 1000000 < a + 1 then 1000000 else a + 1) else (if 1000000 < a + a * (u - 40) / 320 then 1000000 else a + a * (u - 40) / 320))
  else if u < 40 then (if a - a * (40 - u) / 320 < 8 then 8 else a - a * (40 - u) / 320) else a
theorem nx_f (a0 a1 : Int) (h0 : 8 ≤ a0) (h0' : a0 ≤ 1000000) (h1 : 0 ≤ a1) (h1' : a1 ≤ 80) : spec_l13Next.f a0 a1 = some (nx a0 a1) ∧ impl_nextPrice.f a0 a1 = some (nx a0 a1) ∧ 8 ≤ nx a0 a1 ∧ nx a0 a1 ≤ 1000000 := by
  have m1 : a1 > 40 → 0 ≤ a0 * (a1 - 40) ∧ a0 * (a1 - 40) ≤ 1000000 * 40 := fun h =>
    ⟨Int.mul_nonneg (by omega) (by omega), Int.mul_le_mul h0' (by omega) (by omega) (by omega)⟩
  have m2 : a1 < 40 → 0 ≤ a0 * (40 - a1) ∧ a0 * (40 - a1) ≤ a0 * 40 := fun h =>
    ⟨Int.mul_nonneg (by omega) (by omega), Int.mul_le_mul_of_nonneg_left (by omega) (by omega)⟩
  unfold spec_l13Next.f impl_nextPrice.f spec_l1Least.f mn mx nx
  by_cases h : a1 > 40
  · obtain ⟨p, q⟩ := m1 h
    have e1 : wrap64 (a1 - 40) = a1 - 40 := by unfold wrap64; omega
    have e2 : wrap64 (a0 * (a1 - 40)) = a0 * (a1 - 40) := by unfold wrap64; omega
    generalize hx : a0 * (a1 - 40) = x at e2 p q
    have e3 : wrap64 (Int.tdiv x 320) = x / 320 := by rw [Int.tdiv_eq_ediv_of_nonneg p]; unfold wrap64; omega
    rw [if_pos h, if_pos h, if_pos h, e1, hx, e2, e3]
    have w1 : wrap64 (a0 + 1) = a0 + 1 := by unfold wrap64; omega
    have w2 : wrap64 (a0 + x / 320) = a0 + x / 320 := by unfold wrap64; omega
    by_cases h2 : x / 320 < 1
    · rw [if_pos h2, if_pos h2]
      have h3 : ¬ (1 < x / 320) := by omega
      rw [if_neg h3, w1]
      by_cases h4 : 1000000 < a0 + 1
      · rw [if_pos h4, if_pos h4, if_neg (by omega)]; exact ⟨rfl, rfl, by omega, by omega⟩
      · rw [if_neg h4, if_neg h4]
        by_cases h5 : a0 + 1 < 1000000
        · rw [if_pos h5]; exact ⟨rfl, rfl, by omega, by omega⟩
        · rw [if_neg h5]; exact ⟨rfl, by congr 1; omega, by omega, by omega⟩
    · rw [if_neg h2, if_neg h2]
      have e5 : (if 1 < x / 320 then x / 320 else 1) = x / 320 := by split <;> omega
      rw [e5, w2]
      by_cases h4 : 1000000 < a0 + x / 320
      · rw [if_pos h4, if_pos h4, if_neg (by omega)]; exact ⟨rfl, rfl, by omega, by omega⟩
      · rw [if_neg h4, if_neg h4]
        by_cases h5 : a0 + x / 320 < 1000000
        · rw [if_pos h5]; exact ⟨rfl, rfl, by omega, by omega⟩
        · rw [if_neg h5]; exact ⟨rfl, by congr 1; omega, by omega, by omega⟩
  · rw [if_neg h, if_neg h, if_neg h]
    by_cases h' : a1 < 40
    · obtain ⟨p, q⟩ := m2 h'
      have e1 : wrap64 (40 - a1) = 40 - a1 := by unfold wrap64; omega
      have e2 : wrap64 (a0 * (40 - a1)) = a0 * (40 - a1) := by unfold wrap64; omega
      generalize hx : a0 * (40 - a1) = x at e2 p q
      have e3 : wrap64 (Int.tdiv x 320) = x / 320 := by rw [Int.tdiv_eq_ediv_of_nonneg p]; unfold wrap64; omega
      rw [if_pos h', if_pos h', if_pos h', e1, hx, e2, e3]
      have w1 : wrap64 (a0 - x / 320) = a0 - x / 320 := by unfold wrap64; omega
      rw [w1]
      by_cases h2 : a0 - x / 320 < 8
      · rw [if_pos h2, if_pos h2, if_neg (by omega)]; exact ⟨rfl, rfl, by omega, by omega⟩
      · rw [if_neg h2, if_neg h2]
        by_cases h5 : 8 < a0 - x / 320
        · rw [if_pos h5]; exact ⟨rfl, rfl, by omega, by omega⟩
        · rw [if_neg h5]; exact ⟨rfl, by congr 1; omega, by omega, by omega⟩
    · rw [if_neg h', if_neg h', if_neg h']; exact ⟨rfl, rfl, by omega, by omega⟩
theorem nx_facts (a u : Int) (h0 : 8 ≤ a) (h0' : a ≤ 1000000) (h1 : 0 ≤ u) (h1' : u ≤ 80) :
    (u = 40 → nx a u = a) ∧ (u > 40 → a ≤ nx a u ∧ 8 * (nx a u - a) ≤ a + 8) ∧ (u < 40 → nx a u ≤ a ∧ 8 * (a - nx a u) ≤ a) := by
  have m1 : u > 40 → 0 ≤ a * (u - 40) ∧ a * (u - 40) ≤ a * 40 := fun h =>
    ⟨Int.mul_nonneg (by omega) (by omega), Int.mul_le_mul_of_nonneg_left (by omega) (by omega)⟩
  have m2 : u < 40 → 0 ≤ a * (40 - u) ∧ a * (40 - u) ≤ a * 40 := fun h =>
    ⟨Int.mul_nonneg (by omega) (by omega), Int.mul_le_mul_of_nonneg_left (by omega) (by omega)⟩
  unfold nx
  refine ⟨fun h => ?_, fun h => ?_, fun h => ?_⟩
  · rw [if_neg (by omega), if_neg (by omega)]
  · have := m1 h
    generalize a * (u - 40) = x at this ⊢
    rw [if_pos h]
    split <;> split <;> omega
  · have := m2 h
    generalize a * (40 - u) = x at this ⊢
    rw [if_neg (by omega), if_pos h]
    split <;> omega
theorem nx_mono (a b u : Int) (h0 : 8 ≤ a) (hab : a ≤ b) (h0' : b ≤ 1000000) (h1 : 0 ≤ u) (h1' : u ≤ 80) : nx a 0 ≤ nx b u ∧ nx a u ≤ nx b 80 := by
  have m1 : ∀ c : Int, 0 ≤ c → u > 40 → 0 ≤ c * (u - 40) ∧ c * (u - 40) ≤ c * 40 := fun c hc h =>
    ⟨Int.mul_nonneg (by omega) (by omega), Int.mul_le_mul_of_nonneg_left (by omega) (by omega)⟩
  have m2 : ∀ c : Int, 0 ≤ c → u < 40 → 0 ≤ c * (40 - u) ∧ c * (40 - u) ≤ c * 40 := fun c hc h =>
    ⟨Int.mul_nonneg (by omega) (by omega), Int.mul_le_mul_of_nonneg_left (by omega) (by omega)⟩
  have l0 : nx a 0 = if a - a * 40 / 320 < 8 then 8 else a - a * 40 / 320 := by
    unfold nx; rw [if_neg (by omega), if_pos (by omega)]; rfl
  have l1 : nx b 80 = (if b * 40 / 320 < 1 then (if 1000000 < b + 1 then 1000000 else b + 1) else (if 1000000 < b + b * 40 / 320 then 1000000 else b + b * 40 / 320)) := by
    unfold nx; rw [if_pos (by omega)]; rfl
  rw [l0, l1]
  unfold nx
  by_cases h : u > 40
  · have p := m1 a (by omega) h
    have q := m1 b (by omega) h
    generalize a * (u - 40) = x at p ⊢
    generalize b * (u - 40) = y at q ⊢
    rw [if_pos h, if_pos h]
    constructor
    · split <;> split <;> split <;> omega
    · split <;> split <;> split <;> split <;> omega
  · rw [if_neg h, if_neg h]
    by_cases h' : u < 40
    · have p := m2 a (by omega) h'
      have q := m2 b (by omega) h'
      generalize a * (40 - u) = x at p ⊢
      generalize b * (40 - u) = y at q ⊢
      rw [if_pos h', if_pos h']
      constructor
      · split <;> split <;> omega
      · split <;> split <;> split <;> omega
    · rw [if_neg h', if_neg h']
      constructor
      · split <;> omega
      · split <;> split <;> omega
theorem nx_step (a u : Int) (h0 : 8 ≤ a) (h0' : a ≤ 1000000) (h1 : 0 ≤ u) (h1' : u < 80) : nx a u ≤ nx a (u + 1) := by
  by_cases h : u > 40
  · have e : a * (u + 1 - 40) = a * (u - 40) + a := by rw [show u + 1 - 40 = (u - 40) + 1 by omega, Int.mul_add, Int.mul_one]
    have p : 0 ≤ a * (u - 40) := Int.mul_nonneg (by omega) (by omega)
    unfold nx
    rw [if_pos h, if_pos (show u + 1 > 40 by omega), e]
    generalize a * (u - 40) = x at p ⊢
    split <;> split <;> split <;> (try split) <;> omega
  · by_cases h' : u < 39
    · have e : a * (40 - u) = a * (40 - (u + 1)) + a := by rw [show 40 - u = (40 - (u + 1)) + 1 by omega, Int.mul_add, Int.mul_one]
      have p : 0 ≤ a * (40 - (u + 1)) := Int.mul_nonneg (by omega) (by omega)
      unfold nx
      rw [if_neg h, if_pos (show u < 40 by omega), if_neg (show ¬ u + 1 > 40 by omega), if_pos (show u + 1 < 40 by omega), e]
      generalize a * (40 - (u + 1)) = x at p ⊢
      split <;> split <;> omega
    · have f1 := nx_facts a u h0 h0' h1 (by omega)
      have f2 := nx_facts a (u + 1) h0 h0' (by omega) (by omega)
      by_cases h3 : u = 40
      · have := f1.1 h3; have := f2.2.1 (by omega); omega
      · have := f1.2.2 (by omega); have := f2.1 (by omega); omega
theorem level_l (d : Nat) : ∀ (k : Nat) (p i : Int), 0 ≤ i → 81 - i = d → d < k → 8 ≤ p → p ≤ 1000000 →
    ∃ (v : Int) (b : Bool), spec_LevelAt.l0 k p i = some (v, b) ∧ impl_LevelAt.l0 k p i = some (v, b) ∧ (b = true → v > 40) := by
  induction d with
  | zero =>
    intro k p i h0 hd hk _ _
    obtain ⟨k, rfl⟩ : ∃ j, k = j + 1 := ⟨k - 1, by omega⟩
    simp only [spec_LevelAt.l0, impl_LevelAt.l0]
    rw [if_neg (by omega), if_neg (by omega)]
    exact ⟨_, _, rfl, rfl, fun h => by cases h⟩
  | succ d ih =>
    intro k p i h0 hd hk a1 a2
    obtain ⟨k, rfl⟩ : ∃ j, k = j + 1 := ⟨k - 1, by omega⟩
    obtain ⟨e, e', _, _⟩ := nx_f p i a1 a2 (by omega) (by omega)
    have fx := nx_facts p i a1 a2 (by omega) (by omega)
    obtain ⟨z, b, g, g', g2⟩ := ih k p (i + 1) (by omega) (by omega) (by omega) a1 a2
    simp only [spec_LevelAt.l0, impl_LevelAt.l0]
    rw [if_pos (by omega), if_pos (by omega), e, e']
    simp only [Option.bind_some]
    have w2 : wrap64 (i + 1) = i + 1 := by unfold wrap64; omega
    rw [w2]
    by_cases h : nx p i > p
    · rw [if_pos h, if_pos h]
      refine ⟨_, _, rfl, rfl, fun _ => ?_⟩
      rcases Int.lt_trichotomy i 40 with q | q | q
      · have := fx.2.2 q; omega
      · have := fx.1 q; omega
      · exact q
    · rw [if_neg h, if_neg h]; exact ⟨z, b, g, g', g2⟩
theorem level_same (a0 : Int) (k : Nat) (hk : 82 ≤ k) : ∃ (v : Int) (b : Bool), spec_LevelAt.f k a0 = some (v, b) ∧ impl_LevelAt.f k a0 = some (v, b) ∧ (b = true → v > 40) := by
  unfold impl_LevelAt.f spec_LevelAt.f impl_isPrice.f spec_l13Price.f
  simp only [l1In_f, within_f, Option.bind_some, decide_eq_true_eq]
  by_cases h0 : 8 ≤ a0 ∧ a0 ≤ 1000000
  · rw [if_pos h0, if_pos h0]
    exact level_l 81 k a0 0 (by omega) (by omega) (by omega) h0.1 h0.2
  · rw [if_neg h0, if_neg h0]; exact ⟨_, _, rfl, rfl, fun h => by cases h⟩
end FnCostsLaw
open FnCostsLaw
theorem draw_l (l : List Int) (hb : by8 l) (hl : l.length ≤ maxLen) (d : Nat) : ∀ (k : Nat) (p : Int) (acc : List Int) (a s : Int), d < k → 0 ≤ a → a + 2 * (d : Int) ≤ 4611686018427387000 → acc.length + d ≤ 1000 →
    ∃ o : List Int, spec_DrawBurnedIn.l0 k p acc (d : Int) l a s = some (p, o) ∧ o.length ≤ 1000 := by
  induction d with
  | zero =>
    intro k p acc a s hk _ _ h
    obtain ⟨k, rfl, _⟩ := succ_of hk
    simp only [spec_DrawBurnedIn.l0]
    rw [if_neg (by omega)]
    exact ⟨acc, rfl, by omega⟩
  | succ d ih =>
    intro k p acc a s hk h0 h1 h
    obtain ⟨k, rfl, hk⟩ := succ_of hk
    simp only [spec_DrawBurnedIn.l0]
    obtain ⟨x, a1, s1, e, _, _, q1, q2⟩ := pick_f l hb hl a s 80 h0 (by omega)
    rw [if_pos (by omega), e]
    simp only [Option.bind_some]
    have w : wrap64 (((d + 1 : Nat) : Int) - 1) = (d : Int) := by rw [wrap_id (by omega) (by omega)]; omega
    rw [if_pos (by omega), w]
    exact ih k p (acc ++ [wrap64 (1 + x)]) a1 s1 (by omega) (by omega) (by omega) (by simp; omega)
theorem draw_f (l : List Int) (hb : by8 l) (hl : l.length ≤ maxLen) (k : Nat) (hk : 100 ≤ k) : ∃ (p : Int) (o : List Int), spec_DrawBurnedIn.f k l = some (p, o) ∧ o.length ≤ 1000 := by
  unfold spec_DrawBurnedIn.f
  obtain ⟨p, a1, s1, e1, q1, q2⟩ := price_f l hb hl 0 0 (by omega) (by omega)
  rw [e1]
  simp only [Option.bind_some]
  obtain ⟨n, a2, s2, e2, n0, n1, q3, q4⟩ := pick_f l hb hl a1 s1 8 (by omega) (by omega)
  rw [e2]
  simp only [Option.bind_some]
  obtain ⟨c, a3, s3, e3, q5, q6⟩ := one_f l hb hl a2 s2 20 (by omega) (by omega)
  rw [e3]
  simp only [Option.bind_some]
  obtain ⟨k, rfl⟩ : ∃ j, k = j + 1 := ⟨k - 1, by omega⟩
  cases c
  · simp only [Bool.false_eq_true, if_false, spec_DrawBurnedIn.j0]
    obtain ⟨m, rfl⟩ := Int.eq_ofNat_of_zero_le n0
    obtain ⟨o, e, h⟩ := draw_l l hb hl m k p [] a3 s3 (by omega) (by omega) (by omega) (by rw [List.length_nil]; omega)
    exact ⟨p, o, e, h⟩
  · simp only [if_true, spec_DrawBurnedIn.j0]
    obtain ⟨x, a4, s4, e4, x0, x1, q7, q8⟩ := pick_f l hb hl a3 s3 2 (by omega) (by omega)
    rw [e4]
    simp only [Option.bind_some]
    rw [wrap_id (by omega) (by omega)]
    obtain ⟨m, hm⟩ := Int.eq_ofNat_of_zero_le (show 0 ≤ 60 + x by omega)
    rw [hm]
    obtain ⟨o, e, h⟩ := draw_l l hb hl m k p [] a4 s4 (by omega) (by omega) (by omega) (by rw [List.length_nil]; omega)
    exact ⟨p, o, e, h⟩
theorem j1_f (l : List Int) (hb : by8 l) (hl : l.length ≤ maxLen) (k : Nat) (hk : 1010 ≤ k) : laws_FnCosts.j1 k l = some true := by
  obtain ⟨k, rfl⟩ : ∃ j, k = j + 1 := ⟨k - 1, by omega⟩
  simp only [laws_FnCosts.j1]
  have hm : ∃ p m : Int, spec_DrawMayPay.f l = some (p, m) := by
    unfold spec_DrawMayPay.f
    obtain ⟨p, a1, s1, e1, q1, q2⟩ := price_f l hb hl 0 0 (by omega) (by omega)
    rw [e1]
    simp only [Option.bind_some]
    obtain ⟨n, a2, s2, e2, n0, n1, q3, q4⟩ := pick_f l hb hl a1 s1 250 (by omega) (by omega)
    rw [e2]
    simp only [Option.bind_some]
    obtain ⟨c, a3, s3, e3, q5, q6⟩ := among_f l hb hl a2 s2 [-1, 0, 100, 1000000, 1000001, wrap64 (n * 10)] (by simp) (by omega) (by omega)
    rw [e3]
    exact ⟨_, _, rfl⟩
  obtain ⟨p, m, e⟩ := hm
  rw [e]
  simp only [Option.bind_some]
  obtain ⟨u, v, f1, f2, _⟩ := pay_same p m
  rw [f1, f2]
  simp only [Option.bind_some]
  have hv : ∃ x : Int, spec_DrawLevelAt.f l = some x := by
    unfold spec_DrawLevelAt.f
    obtain ⟨x, a1, s1, e1, q1, q2⟩ := price_f l hb hl 0 0 (by omega) (by omega)
    rw [e1]; exact ⟨_, rfl⟩
  obtain ⟨x, ex⟩ := hv
  rw [ex]
  simp only [Option.bind_some]
  obtain ⟨y, b, g1, g2, g3⟩ := level_same x k (by omega)
  rw [g1, g2]
  simp only [Option.bind_some]
  obtain ⟨p2, o, d1, d2⟩ := draw_f l hb hl k (by omega)
  rw [d1]
  simp only [Option.bind_some]
  obtain ⟨z, c, i1, i2⟩ := burned_same p2 o (by unfold maxLen; omega) k (by omega)
  rw [i1, i2]
  simp only [Option.bind_some, beq_self_eq_true, if_true]
  cases b
  · simp
  · have := g3 rfl
    simp [this]
theorem FnCosts : FnCostsPure := by
  intro l1 l2 ⟨h1, hb1⟩ ⟨h2, hb2⟩
  have b1 := by8_of hb1
  have b2 := by8_of hb2
  refine ⟨2000, ?_⟩
  unfold laws_FnCosts.f
  split
  · rfl
  · have hd : ∃ p t m z : Int, spec_DrawCostOf.f l1 = some (p, t, m, z) := by
      unfold spec_DrawCostOf.f
      obtain ⟨p, a1, s1, e1, q1, q2⟩ := price_f l1 b1 h1 0 0 (by omega) (by omega)
      rw [e1]
      simp only [Option.bind_some]
      obtain ⟨t, a2, s2, e2, _, q3, q4⟩ := among_f l1 b1 h1 a1 s1 [-1, 0, 5, 1000000, 1000001] (by simp) (by omega) (by omega)
      rw [e2]
      simp only [Option.bind_some]
      obtain ⟨m, a3, s3, e3, _, q5, q6⟩ := among_f l1 b1 h1 a2 s2 [0, 100, 500, 5000, 1000000, 1000001] (by simp) (by omega) (by omega)
      rw [e3]
      simp only [Option.bind_some]
      obtain ⟨z, a4, s4, e4, _, q7, q8⟩ := among_f l1 b1 h1 a3 s3 [0, 1, 10, 80, 81] (by simp) (by omega) (by omega)
      rw [e4]
      exact ⟨_, _, _, _, rfl⟩
    obtain ⟨p, t, m, z, e⟩ := hd
    rw [e]
    simp only [Option.bind_some]
    rw [cost_same]
    obtain ⟨a, b, c, ec, hc⟩ := cost_val p t m z
    rw [ec]
    simp only [Option.bind_some, bne_self_eq_false, Bool.false_eq_true, if_false, if_true, laws_FnCosts.j0]
    cases c
    · simp only [Bool.false_eq_true, if_false]
      exact j1_f l2 b2 h2 _ (by omega)
    · obtain ⟨n, hp, ht, hm, hz, ea, eb, n0, n1, n2⟩ := hc rfl
      obtain ⟨u, v, f1, f2, f3⟩ := pay_same p m
      obtain ⟨hu, hv⟩ := f3 hp hm
      subst hu hv
      rw [f1]
      simp only [Option.bind_some, if_true]
      have hbu : impl_BurnedIn.f 1999 p [z] = some (a, true) := by
        unfold impl_BurnedIn.f impl_isPrice.f
        simp only [within_f, Option.bind_some, decide_eq_true_eq]
        rw [if_pos hp, if_neg (by simp), burned_contains]
        have hall : ([z].all fun n => decide ((1 : Int) ≤ n ∧ n ≤ 80)) = true := by simp [hz]
        rw [hall]
        simp only [Option.bind_some, Bool.not_true, Bool.false_eq_true, if_false]
        rw [sumOf_f [z] 80 (by omega) (by simp; omega) (by unfold maxLen; simp) (by simp) 1999 (by simp)]
        have w := mulb (a := p) (b := z) (A := 1000000) (B := 80) (by omega) (by omega) (by omega) (by omega)
        simp only [Option.bind_some, List.sum_cons, List.sum_nil, Int.add_zero]
        rw [wrap_id (by omega) (by omega), ea]
      rw [hbu]
      simp only [Option.bind_some, if_true]
      have w1 := mulb (a := p) (b := z) (A := 1000000) (B := 80) (by omega) (by omega) (by omega) (by omega)
      have w2 := mulb (a := n) (b := z) (A := 1000000) (B := 80) (by omega) (by omega) (by omega) (by omega)
      have w3 := mulb (a := m) (b := z) (A := 1000000) (B := 80) (by omega) (by omega) (by omega) (by omega)
      have w4 := mulb (a := t) (b := z) (A := 1000000) (B := 80) (by omega) (by omega) (by omega) (by omega)
      have i1 : p * z + n * z ≤ m * z := by rw [← Int.add_mul]; exact Int.mul_le_mul_of_nonneg_right (by omega) (by omega)
      have i2 : n * z ≤ t * z := Int.mul_le_mul_of_nonneg_right n1 (by omega)
      rw [wrap_id (by omega) (by omega), wrap_id (by omega) (by omega), wrap_id (by omega) (by omega), if_neg (by omega), if_neg (by omega)]
      exact j1_f l2 b2 h2 _ (by omega)
end Go.Proofs.Ytglnggfmkbmocaa.Pure
