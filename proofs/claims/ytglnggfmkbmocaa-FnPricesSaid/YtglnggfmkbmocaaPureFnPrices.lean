/- For every two lists of bytes the law of prices answers true (a price stays at the target, moves by an eighth at most, and lies between the returned bounds); no condition. -/
import Derived.Laws.Bits64b
import Derived.Test.YtglnggfmkbmocaaDefFnPrices
import Derived.Test.YtglnggfmkbmocaaPx
import Derived.Test.YtglnggfmkbmocaaOv
namespace Go.Proofs.Ytglnggfmkbmocaa.Pure
open Go.RowKit Go.Proofs.Ytglnggfmkbmocaa.PFnPrices Go.Proofs.YtglnggfmkbmocaaW.PrintWords Go.Proofs.YtglnggfmkbmocaaW.PrintLast Go.Proofs.YtglnggfmkbmocaaW.PrintMore Go.Proofs.Ytglnggfmkbmocaa.Px Go.Proofs.Ytglnggfmkbmocaa.Ov
namespace FnPricesLaw
def by8 (l : List Int) : Prop := ∀ x ∈ l, 0 ≤ x ∧ x ≤ 255
theorem by8_of {l : List Int} (h : ∀ x ∈ l, (Lit.int .u8 x).wf = true) : by8 l := by
  intro x hx
  have h2 : IntKind.min .u8 ≤ x ∧ x ≤ IntKind.max .u8 := by simpa [Lit.wf] using h x hx
  have e1 : IntKind.min .u8 = 0 := by decide
  have e2 : IntKind.max .u8 = 255 := by decide
  omega
theorem u64_range (x : Int) : 0 ≤ IntKind.u64.wrap x ∧ IntKind.u64.wrap x < 18446744073709551616 := by
  rw [IntKind.wrap_u64]; omega
theorem and255 (x : Int) (h0 : 0 ≤ x) (h1 : x < 18446744073709551616) : 0 ≤ bits .and .u64 x 255 ∧ bits .and .u64 x 255 ≤ 255 := by
  obtain ⟨n, rfl⟩ := Int.eq_ofNat_of_zero_le h0
  have h := bits_and_u64_nat n 255 (by omega) (by omega)
  have h2 : n &&& 255 ≤ 255 := Nat.and_le_right
  have h3 : bits .and .u64 (n : Int) 255 = ((n &&& 255 : Nat) : Int) := h
  rw [h3]; omega
theorem low8 (x : Int) : 0 ≤ wrap64 (bits .and .u64 (IntKind.u64.wrap x / 1099511627776) 255) ∧ wrap64 (bits .and .u64 (IntKind.u64.wrap x / 1099511627776) 255) ≤ 255 := by
  have h := u64_range x
  have h2 := and255 (IntKind.u64.wrap x / 1099511627776) (by omega) (by omega)
  rw [wrap_id (by omega) (by omega)]; exact h2
theorem next_f (l : List Int) (hb : by8 l) (_hl : l.length ≤ maxLen) (a s : Int) (h0 : 0 ≤ a) (h1 : a ≤ 4611686018427387904) :
    ∃ x s', spec_l1Cur_next.f l a s = some (x, a + 1, s') ∧ 0 ≤ x ∧ x ≤ 255 := by
  unfold spec_l1Cur_next.f
  rw [wrap_id (by omega) (by omega)]
  by_cases h : a < (l.length : Int)
  · obtain ⟨i, rfl⟩ := Int.eq_ofNat_of_zero_le h0
    have hi : i < l.length := by omega
    have hx := hb l[i] (List.getElem_mem hi)
    rw [if_pos h, if_pos h0, if_pos (by omega), rd_nat hi, wrap_id (by omega) (by omega)]
    exact ⟨_, _, rfl, hx.1, hx.2⟩
  · rw [if_neg h, if_neg (by omega)]
    exact ⟨_, _, rfl, (low8 _).1, (low8 _).2⟩
theorem pick_f (l : List Int) (hb : by8 l) (hl : l.length ≤ maxLen) (a s n : Int) (h0 : 0 ≤ a) (h1 : a ≤ 4611686018427387900) :
    ∃ x a' s', spec_l1Cur_pick.f l a s n = some (x, a', s') ∧ 0 ≤ x ∧ (x < n ∨ x = 0) ∧ a ≤ a' ∧ a' ≤ a + 2 := by
  unfold spec_l1Cur_pick.f
  by_cases h : n ≤ 1
  · rw [if_pos h]; exact ⟨_, _, _, rfl, by omega, Or.inr rfl, by omega, by omega⟩
  · rw [if_neg h]
    obtain ⟨x, s1, e1, x0, x1⟩ := next_f l hb hl a s h0 (by omega)
    rw [e1]
    simp only [Option.bind_some]
    by_cases h2 : n > 200
    · rw [if_pos h2]
      obtain ⟨y, s2, e2, y0, y1⟩ := next_f l hb hl (a + 1) s1 (by omega) (by omega)
      rw [e2]
      simp only [Option.bind_some]
      have w1 : wrap64 (x * 256) = x * 256 := wrap_id (by omega) (by omega)
      rw [if_neg (by omega), w1, wrap_id (by omega) (by omega), Int.tmod_eq_emod_of_nonneg (by omega)]
      have q1 := Int.emod_nonneg (x * 256 + y) (show n ≠ 0 by omega)
      have q2 := Int.emod_lt_of_pos (x * 256 + y) (show 0 < n by omega)
      exact ⟨_, _, _, rfl, q1, Or.inl q2, by omega, by omega⟩
    · rw [if_neg h2, if_neg (by omega), Int.tmod_eq_emod_of_nonneg (by omega)]
      have q1 := Int.emod_nonneg x (show n ≠ 0 by omega)
      have q2 := Int.emod_lt_of_pos x (show 0 < n by omega)
      exact ⟨_, _, _, rfl, q1, Or.inl q2, by omega, by omega⟩
theorem one_f (l : List Int) (hb : by8 l) (hl : l.length ≤ maxLen) (a s n : Int) (h0 : 0 ≤ a) (h1 : a ≤ 4611686018427387900) :
    ∃ x a' s', spec_l1Cur_one.f l a s n = some (x, a', s') ∧ a ≤ a' ∧ a' ≤ a + 2 := by
  unfold spec_l1Cur_one.f
  obtain ⟨x, a1, s1, e, _, _, q1, q2⟩ := pick_f l hb hl a s n h0 h1
  rw [e]
  exact ⟨_, _, _, rfl, q1, q2⟩
theorem among_f (l : List Int) (hb : by8 l) (hl : l.length ≤ maxLen) (a s : Int) (L : List Int) (hL : 1 ≤ L.length) (h0 : 0 ≤ a) (h1 : a ≤ 4611686018427387900) :
    ∃ x a' s', spec_l1Cur_among.f l a s L = some (x, a', s') ∧ x ∈ L ∧ a ≤ a' ∧ a' ≤ a + 2 := by
  unfold spec_l1Cur_among.f
  obtain ⟨x, a1, s1, e, x0, x1, q1, q2⟩ := pick_f l hb hl a s (L.length : Int) h0 h1
  rw [e]
  simp only [Option.bind_some]
  obtain ⟨i, rfl⟩ := Int.eq_ofNat_of_zero_le x0
  have hi : i < L.length := by omega
  rw [if_pos x0, if_pos (by omega), rd_nat hi]
  exact ⟨_, _, _, rfl, List.getElem_mem hi, q1, q2⟩
theorem price_f (l : List Int) (hb : by8 l) (hl : l.length ≤ maxLen) (a s : Int) (h0 : 0 ≤ a) (h1 : a ≤ 4611686018427387000) :
    ∃ x a' s', spec_l1Cur_price.f l a s = some (x, a', s') ∧ a ≤ a' ∧ a' ≤ a + 6 := by
  unfold spec_l1Cur_price.f
  obtain ⟨x, a1, s1, e, x0, x1, q1, q2⟩ := pick_f l hb hl a s 250 h0 (by omega)
  rw [e]
  simp only [Option.bind_some]
  obtain ⟨y, a2, s2, e2, y0, y1, q3, q4⟩ := pick_f l hb hl a1 s1 250 (by omega) (by omega)
  rw [e2]
  simp only [Option.bind_some]
  obtain ⟨z, a3, s3, e3, z0, q5, q6⟩ := among_f l hb hl a2 s2 [7, 8, 9, 100, 1000, 999999, 1000000, 1000001, wrap64 (8 + wrap64 (x * y))] (by simp) (by omega) (by omega)
  rw [e3]
  exact ⟨z, a3, s3, rfl, by omega, by omega⟩
theorem l1In_f (a b c : Int) : spec_l1In.f a b c = some (decide (b ≤ a ∧ a ≤ c)) := by
  unfold spec_l1In.f
  by_cases h : b ≤ a <;> simp [h]
theorem within_f (a b c : Int) : impl_within.f a b c = some (decide (b ≤ a ∧ a ≤ c)) := rfl
theorem l1All_l (l : List Int) (a b : Int) (hm : l.length ≤ maxLen) (d : Nat) : ∀ (k i : Nat), i + d = l.length → d < k →
    spec_l1All.l0 k a b l (l.length : Int) (i : Int) = some ((l.drop i).all fun n => decide (a ≤ n ∧ n ≤ b)) := by
  induction d with
  | zero =>
    intro k i hi hk
    obtain ⟨k, rfl, _⟩ := succ_of hk
    simp only [spec_l1All.l0]
    rw [if_neg (by omega), List.drop_of_length_le (by omega)]; rfl
  | succ d ih =>
    intro k i hi hk
    obtain ⟨k, rfl, hk⟩ := succ_of hk
    have hl : i < l.length := by omega
    simp only [spec_l1All.l0]
    rw [if_pos (by omega), if_pos (by omega), if_pos (by omega), rd_nat hl, l1In_f, all_drop _ l i hl, wrap_succ hl hm]
    simp only [Option.bind_some]
    rw [ih k (i + 1) (by omega) (by omega)]
    cases decide (a ≤ l[i] ∧ l[i] ≤ b) <;> simp
theorem l1All_f (l : List Int) (a b : Int) (hm : l.length ≤ maxLen) (k : Nat) (hk : l.length < k) : spec_l1All.f k l a b = some (l.all fun n => decide (a ≤ n ∧ n ≤ b)) := by
  unfold spec_l1All.f
  simpa using l1All_l l a b hm l.length k 0 (by omega) hk
theorem l1Least_f (a b : Int) : spec_l1Least.f a b = some (if a < b then a else b) := by
  unfold spec_l1Least.f
  split <;> rfl
def nx (a u : Int) : Int :=
  if u > 40 then (if a * (u - 40) / 320 < 1 then (if 1000000 < a + 1 then 1000000 else a + 1) else (if 1000000 < a + a * (u - 40) / 320 then 1000000 else a + a * (u - 40) / 320))
  else if u < 40 then (if a - a * (40 - u) / 320 < 8 then 8 else a - a * (40 - u) / 320) else a
theorem nx_f (a0 a1 : Int) (h0 : 8 ≤ a0) (h0' : a0 ≤ 1000000) (h1 : 0 ≤ a1) (h1' : a1 ≤ 80) : spec_l13Next.f a0 a1 = some (nx a0 a1) ∧ impl_nextPrice.f a0 a1 = some (nx a0 a1) ∧ 8 ≤ nx a0 a1 ∧ nx a0 a1 ≤ 1000000 := by
  have m1 : a1 > 40 → 0 ≤ a0 * (a1 - 40) ∧ a0 * (a1 - 40) ≤ 1000000 * 40 := fun h =>
    ⟨Int.mul_nonneg (by omega) (by omega), Int.mul_le_mul h0' (by omega) (by omega) (by omega)⟩
  have m2 : a1 < 40 → 0 ≤ a0 * (40 - a1) ∧ a0 * (40 - a1) ≤ a0 * 40 := fun h =>
    ⟨Int.mul_nonneg (by omega) (by omega), Int.mul_le_mul_of_nonneg_left (by omega) (by omega)⟩
  unfold spec_l13Next.f impl_nextPrice.f spec_l1Least.f mn mx nx
  by_cases h : a1 > 40
  · obtain ⟨p, q⟩ := m1 h
    have e1 : wrap64 (a1 - 40) = a1 - 40 := by unfold wrap64; omega
    have e2 : wrap64 (a0 * (a1 - 40)) = a0 * (a1 - 40) := by unfold wrap64; omega
    generalize hx : a0 * (a1 - 40) = x at e2 p q
    have e3 : wrap64 (Int.tdiv x 320) = x / 320 := by rw [Int.tdiv_eq_ediv_of_nonneg p]; unfold wrap64; omega
    rw [if_pos h, if_pos h, if_pos h, e1, hx, e2, e3]
    have w1 : wrap64 (a0 + 1) = a0 + 1 := by unfold wrap64; omega
    have w2 : wrap64 (a0 + x / 320) = a0 + x / 320 := by unfold wrap64; omega
    by_cases h2 : x / 320 < 1
    · rw [if_pos h2, if_pos h2]
      have h3 : ¬ (1 < x / 320) := by omega
      rw [if_neg h3, w1]
      by_cases h4 : 1000000 < a0 + 1
      · rw [if_pos h4, if_pos h4, if_neg (by omega)]; exact ⟨rfl, rfl, by omega, by omega⟩
      · rw [if_neg h4, if_neg h4]
        by_cases h5 : a0 + 1 < 1000000
        · rw [if_pos h5]; exact ⟨rfl, rfl, by omega, by omega⟩
        · rw [if_neg h5]; exact ⟨rfl, by congr 1; omega, by omega, by omega⟩
    · rw [if_neg h2, if_neg h2]
      have e5 : (if 1 < x / 320 then x / 320 else 1) = x / 320 := by split <;> omega
      rw [e5, w2]
      by_cases h4 : 1000000 < a0 + x / 320
      · rw [if_pos h4, if_pos h4, if_neg (by omega)]; exact ⟨rfl, rfl, by omega, by omega⟩
      · rw [if_neg h4, if_neg h4]
        by_cases h5 : a0 + x / 320 < 1000000
        · rw [if_pos h5]; exact ⟨rfl, rfl, by omega, by omega⟩
        · rw [if_neg h5]; exact ⟨rfl, by congr 1; omega, by omega, by omega⟩
  · rw [if_neg h, if_neg h, if_neg h]
    by_cases h' : a1 < 40
    · obtain ⟨p, q⟩ := m2 h'
      have e1 : wrap64 (40 - a1) = 40 - a1 := by unfold wrap64; omega
      have e2 : wrap64 (a0 * (40 - a1)) = a0 * (40 - a1) := by unfold wrap64; omega
      generalize hx : a0 * (40 - a1) = x at e2 p q
      have e3 : wrap64 (Int.tdiv x 320) = x / 320 := by rw [Int.tdiv_eq_ediv_of_nonneg p]; unfold wrap64; omega
      rw [if_pos h', if_pos h', if_pos h', e1, hx, e2, e3]
      have w1 : wrap64 (a0 - x / 320) = a0 - x / 320 := by unfold wrap64; omega
      rw [w1]
      by_cases h2 : a0 - x / 320 < 8
      · rw [if_pos h2, if_pos h2, if_neg (by omega)]; exact ⟨rfl, rfl, by omega, by omega⟩
      · rw [if_neg h2, if_neg h2]
        by_cases h5 : 8 < a0 - x / 320
        · rw [if_pos h5]; exact ⟨rfl, rfl, by omega, by omega⟩
        · rw [if_neg h5]; exact ⟨rfl, by congr 1; omega, by omega, by omega⟩
    · rw [if_neg h', if_neg h', if_neg h']; exact ⟨rfl, rfl, by omega, by omega⟩
theorem nx_facts (a u : Int) (h0 : 8 ≤ a) (h0' : a ≤ 1000000) (h1 : 0 ≤ u) (h1' : u ≤ 80) :
    (u = 40 → nx a u = a) ∧ (u > 40 → a ≤ nx a u ∧ 8 * (nx a u - a) ≤ a + 8) ∧ (u < 40 → nx a u ≤ a ∧ 8 * (a - nx a u) ≤ a) := by
  have m1 : u > 40 → 0 ≤ a * (u - 40) ∧ a * (u - 40) ≤ a * 40 := fun h =>
    ⟨Int.mul_nonneg (by omega) (by omega), Int.mul_le_mul_of_nonneg_left (by omega) (by omega)⟩
  have m2 : u < 40 → 0 ≤ a * (40 - u) ∧ a * (40 - u) ≤ a * 40 := fun h =>
    ⟨Int.mul_nonneg (by omega) (by omega), Int.mul_le_mul_of_nonneg_left (by omega) (by omega)⟩
  unfold nx
  refine ⟨fun h => ?_, fun h => ?_, fun h => ?_⟩
  · rw [if_neg (by omega), if_neg (by omega)]
  · have := m1 h
    generalize a * (u - 40) = x at this ⊢
    rw [if_pos h]
    split <;> split <;> omega
  · have := m2 h
    generalize a * (40 - u) = x at this ⊢
    rw [if_neg (by omega), if_pos h]
    split <;> omega
theorem nx_mono (a b u : Int) (h0 : 8 ≤ a) (hab : a ≤ b) (h0' : b ≤ 1000000) (h1 : 0 ≤ u) (h1' : u ≤ 80) : nx a 0 ≤ nx b u ∧ nx a u ≤ nx b 80 := by
  have m1 : ∀ c : Int, 0 ≤ c → u > 40 → 0 ≤ c * (u - 40) ∧ c * (u - 40) ≤ c * 40 := fun c hc h =>
    ⟨Int.mul_nonneg (by omega) (by omega), Int.mul_le_mul_of_nonneg_left (by omega) (by omega)⟩
  have m2 : ∀ c : Int, 0 ≤ c → u < 40 → 0 ≤ c * (40 - u) ∧ c * (40 - u) ≤ c * 40 := fun c hc h =>
    ⟨Int.mul_nonneg (by omega) (by omega), Int.mul_le_mul_of_nonneg_left (by omega) (by omega)⟩
  have l0 : nx a 0 = if a - a * 40 / 320 < 8 then 8 else a - a * 40 / 320 := by
    unfold nx; rw [if_neg (by omega), if_pos (by omega)]; rfl
  have l1 : nx b 80 = (if b * 40 / 320 < 1 then (if 1000000 < b + 1 then 1000000 else b + 1) else (if 1000000 < b + b * 40 / 320 then 1000000 else b + b * 40 / 320)) := by
    unfold nx; rw [if_pos (by omega)]; rfl
  rw [l0, l1]
  unfold nx
  by_cases h : u > 40
  · have p := m1 a (by omega) h
    have q := m1 b (by omega) h
    generalize a * (u - 40) = x at p ⊢
    generalize b * (u - 40) = y at q ⊢
    rw [if_pos h, if_pos h]
    constructor
    · split <;> split <;> split <;> omega
    · split <;> split <;> split <;> split <;> omega
  · rw [if_neg h, if_neg h]
    by_cases h' : u < 40
    · have p := m2 a (by omega) h'
      have q := m2 b (by omega) h'
      generalize a * (40 - u) = x at p ⊢
      generalize b * (40 - u) = y at q ⊢
      rw [if_pos h', if_pos h']
      constructor
      · split <;> split <;> omega
      · split <;> split <;> split <;> omega
    · rw [if_neg h', if_neg h']
      constructor
      · split <;> omega
      · split <;> split <;> omega
theorem nx_step (a u : Int) (h0 : 8 ≤ a) (h0' : a ≤ 1000000) (h1 : 0 ≤ u) (h1' : u < 80) : nx a u ≤ nx a (u + 1) := by
  by_cases h : u > 40
  · have e : a * (u + 1 - 40) = a * (u - 40) + a := by rw [show u + 1 - 40 = (u - 40) + 1 by omega, Int.mul_add, Int.mul_one]
    have p : 0 ≤ a * (u - 40) := Int.mul_nonneg (by omega) (by omega)
    unfold nx
    rw [if_pos h, if_pos (show u + 1 > 40 by omega), e]
    generalize a * (u - 40) = x at p ⊢
    split <;> split <;> split <;> (try split) <;> omega
  · by_cases h' : u < 39
    · have e : a * (40 - u) = a * (40 - (u + 1)) + a := by rw [show 40 - u = (40 - (u + 1)) + 1 by omega, Int.mul_add, Int.mul_one]
      have p : 0 ≤ a * (40 - (u + 1)) := Int.mul_nonneg (by omega) (by omega)
      unfold nx
      rw [if_neg h, if_pos (show u < 40 by omega), if_neg (show ¬ u + 1 > 40 by omega), if_pos (show u + 1 < 40 by omega), e]
      generalize a * (40 - (u + 1)) = x at p ⊢
      split <;> split <;> omega
    · have f1 := nx_facts a u h0 h0' h1 (by omega)
      have f2 := nx_facts a (u + 1) h0 h0' (by omega) (by omega)
      by_cases h3 : u = 40
      · have := f1.1 h3; have := f2.2.1 (by omega); omega
      · have := f1.2.2 (by omega); have := f2.1 (by omega); omega
theorem rd_app1 (o : List Int) (v : Int) (j : Nat) (h : j < o.length) : rd (o ++ [v]) (j : Int) = rd o (j : Int) := by
  rw [rd_nat (by simp; omega), rd_nat h, List.getElem_append_left h]
theorem rd_app2 (o : List Int) (v : Int) (j : Nat) (h : j = o.length) : rd (o ++ [v]) (j : Int) = v := by
  subst h
  rw [rd_nat (by simp)]
  simp
theorem rd_take (o : List Int) (m j : Nat) (h : j < m) (h2 : j < o.length) : rd (o.take m) (j : Int) = rd o (j : Int) := by
  rw [rd_nat (by rw [List.length_take]; omega), rd_nat h2, List.getElem_take]
theorem prices_contains (l : List Int) : slices_ContainsFunc_int_int.f l impl_PricesOf_1.f = some (!(l.all fun n => decide (0 ≤ n ∧ n ≤ 80))) := by
  unfold slices_ContainsFunc_int_int.f
  rw [containsO_total _ (fun n => !decide (0 ≤ n ∧ n ≤ 80)) l (fun x _ => by unfold impl_PricesOf_1.f; simp only [within_f, Option.bind_some]), not_all_any]
def steps (p : Int) (l o : List Int) (i : Nat) : Prop := o.length = i + 1 ∧ rd o 0 = p ∧ (∀ x ∈ o, 8 ≤ x ∧ x ≤ 1000000) ∧ ∀ j : Nat, j < i → rd o ((j + 1 : Nat) : Int) = nx (rd o (j : Int)) (rd l (j : Int))
theorem steps_next {p : Int} {l o : List Int} {i : Nat} (h : steps p l o i) (hl : i < l.length) (hb : ∀ x ∈ l, 0 ≤ x ∧ x ≤ 80) : steps p l (o ++ [nx (rd o (i : Int)) (rd l (i : Int))]) (i + 1) := by
  obtain ⟨h1, h2, h3, h4⟩ := h
  have hx := hb l[i] (List.getElem_mem hl)
  have ho : rd o (i : Int) ∈ o := by rw [rd_nat (by omega)]; exact List.getElem_mem _
  have hr := h3 _ ho
  have hv := (nx_f (rd o (i : Int)) l[i] hr.1 hr.2 hx.1 hx.2).2.2
  rw [← rd_nat hl] at hv
  refine ⟨by simp [h1], ?_, ?_, ?_⟩
  · have := rd_app1 o (nx (rd o (i : Int)) (rd l (i : Int))) 0 (by omega)
    exact this.trans h2
  · intro x hx
    rw [List.mem_append] at hx
    rcases hx with hx | hx
    · exact h3 x hx
    · simp only [List.mem_singleton] at hx; subst hx; exact hv
  · intro j hj
    by_cases e : j = i
    · subst e
      rw [rd_app2 _ _ _ (by omega), rd_app1 _ _ _ (by omega)]
    · rw [rd_app1 _ _ _ (by omega), rd_app1 _ _ _ (by omega)]
      exact h4 j (by omega)
theorem prices_l (q : Int) (l : List Int) (hm : l.length ≤ 60) (hb : ∀ x ∈ l, 0 ≤ x ∧ x ≤ 80) (d : Nat) : ∀ (k i : Nat) (p : Int) (o : List Int), i + d = l.length → d < k → p = rd o (i : Int) → steps q l o i →
    ∃ o', spec_PricesOf.l0 k p o l (l.length : Int) (i : Int) = some (o', true) ∧ impl_PricesOf.l0 k p o l (l.length : Int) (i : Int) = some (o', true) ∧ steps q l o' l.length := by
  induction d with
  | zero =>
    intro k i p o hi hk _ ho
    obtain ⟨k, rfl, _⟩ := succ_of hk
    simp only [spec_PricesOf.l0, impl_PricesOf.l0]
    rw [if_neg (by omega), if_neg (by omega)]
    have e : i = l.length := by omega
    subst e
    exact ⟨o, rfl, rfl, ho⟩
  | succ d ih =>
    intro k i p o hi hk hp ho
    obtain ⟨k, rfl, hk⟩ := succ_of hk
    have hl : i < l.length := by omega
    simp only [spec_PricesOf.l0, impl_PricesOf.l0]
    have hx := hb l[i] (List.getElem_mem hl)
    have hmem : rd o (i : Int) ∈ o := by rw [rd_nat (by have := ho.1; omega)]; exact List.getElem_mem _
    have hr := ho.2.2.1 _ hmem
    obtain ⟨e1, e2, v0, v1⟩ := nx_f p l[i] (by omega) (by omega) hx.1 hx.2
    have ol := ho.1
    rw [if_pos (by omega), if_pos (by omega), if_pos (by omega), if_pos (by omega), if_pos (by omega), if_pos (by omega), rd_nat hl, e1, e2]
    simp only [Option.bind_some]
    rw [if_pos (by omega), if_pos (by omega), wrap_succ hl (by unfold maxLen; omega)]
    have st := steps_next ho hl hb
    rw [← hp, rd_nat hl] at st
    exact ih k (i + 1) (nx p l[i]) (o ++ [nx p l[i]]) (by omega) (by omega) (by rw [rd_app2 _ _ _ (by omega)]) st
theorem prices_same (p : Int) (l : List Int) (hm : l.length ≤ maxLen) (k : Nat) (hk : l.length + 1 < k) : ∃ (o : List Int) (b : Bool), spec_PricesOf.f k p l = some (o, b) ∧ impl_PricesOf.f k p l = some (o, b) ∧ o.length ≤ 61 ∧
    (b = true → (8 ≤ p ∧ p ≤ 1000000) ∧ l.length ≤ 60 ∧ (∀ x ∈ l, 0 ≤ x ∧ x ≤ 80) ∧ steps p l o l.length) := by
  unfold spec_PricesOf.f impl_PricesOf.f spec_l13Price.f impl_isPrice.f
  simp only [l1In_f, within_f, Option.bind_some, decide_eq_true_eq]
  obtain ⟨k, rfl, hk3⟩ := succ_of hk
  simp only [spec_PricesOf.j0, impl_PricesOf.j0]
  by_cases h0 : 8 ≤ p ∧ p ≤ 1000000
  · rw [if_pos h0, if_pos h0]
    by_cases h1 : (l.length : Int) > 60
    · rw [if_pos h1, if_pos h1]; exact ⟨_, _, rfl, rfl, by simp, fun h => by cases h⟩
    · rw [if_neg h1, if_neg h1, l1All_f l _ _ hm _ (by omega), prices_contains]
      simp only [Option.bind_some]
      cases h : l.all fun n => decide ((0 : Int) ≤ n ∧ n ≤ 80)
      · exact ⟨_, _, rfl, rfl, by simp, fun h => by cases h⟩
      · have hb : ∀ x ∈ l, 0 ≤ x ∧ x ≤ 80 := fun x hx => of_decide_eq_true (of_all h x hx)
        obtain ⟨o, e1, e2, e3⟩ := prices_l p l (by omega) hb l.length k 0 p [p] (by omega) (by omega) rfl ⟨rfl, rfl, by simp; omega, fun j hj => by omega⟩
        simp only [Int.natCast_zero] at e1 e2
        simp only [Bool.not_true, Bool.false_eq_true, if_false]
        exact ⟨o, true, e1, e2, by have := e3.1; omega, fun _ => ⟨h0, by omega, hb, e3⟩⟩
  · rw [if_neg h0, if_neg h0]; exact ⟨_, _, rfl, rfl, by simp, fun h => by cases h⟩
theorem bounds_l (d : Nat) : ∀ (k : Nat) (m lo hi i : Int), 0 ≤ i → m - i = d → m ≤ 20 → d < k → 8 ≤ lo → lo ≤ 1000000 → 8 ≤ hi → hi ≤ 1000000 →
    ∃ (v u : Int), spec_BoundsFor.l0 k (m - i) lo hi = some (v, u, true) ∧ impl_BoundsFor.l0 k lo hi m i = some (v, u, true) ∧
      ∀ (us os : List Int), us.length = d → os.length = d + 1 → (∀ x ∈ us, 0 ≤ x ∧ x ≤ 80) → (∀ x ∈ os, 8 ≤ x ∧ x ≤ 1000000) → lo ≤ rd os 0 → rd os 0 ≤ hi → (∀ j : Nat, j < d → rd os ((j + 1 : Nat) : Int) = nx (rd os (j : Int)) (rd us (j : Int))) → v ≤ rd os (d : Int) ∧ rd os (d : Int) ≤ u := by
  induction d with
  | zero =>
    intro k m lo hi i h0 hd hm hk _ _ _ _
    obtain ⟨k, rfl⟩ : ∃ j, k = j + 1 := ⟨k - 1, by omega⟩
    simp only [spec_BoundsFor.l0, impl_BoundsFor.l0]
    rw [if_neg (by omega), if_neg (by omega)]
    exact ⟨_, _, rfl, rfl, fun us os _ _ _ _ q1 q2 _ => ⟨q1, q2⟩⟩
  | succ d ih =>
    intro k m lo hi i h0 hd hm hk a1 a2 b1 b2
    obtain ⟨k, rfl⟩ : ∃ j, k = j + 1 := ⟨k - 1, by omega⟩
    obtain ⟨e, e', p, q⟩ := nx_f lo 0 a1 a2 (by omega) (by omega)
    obtain ⟨f, f', r, s⟩ := nx_f hi 80 b1 b2 (by omega) (by omega)
    obtain ⟨z, y, g, g', g2⟩ := ih k m (nx lo 0) (nx hi 80) (i + 1) (by omega) (by omega) hm (by omega) p q r s
    simp only [spec_BoundsFor.l0, impl_BoundsFor.l0]
    rw [if_pos (by omega), if_pos (by omega), e, e', f, f']
    simp only [Option.bind_some]
    have w1 : wrap64 (m - i - 1) = m - (i + 1) := by unfold wrap64; omega
    have w2 : wrap64 (i + 1) = i + 1 := by unfold wrap64; omega
    rw [w1, w2]
    refine ⟨z, y, g, g', ?_⟩
    intro us os hus hos hu ho q1 q2 hs
    match us, hus with
    | u0 :: us, hus =>
      match os, hos with
      | o0 :: os, hos =>
        have c1 : us.length = d := by simpa using hus
        have c2 : os.length = d + 1 := by simpa using hos
        have z1 : rd (o0 :: os) 0 = o0 := rfl
        have sh : ∀ j : Nat, rd (o0 :: os) ((j + 1 : Nat) : Int) = rd os (j : Int) := by
          intro j; unfold rd; rw [Int.toNat_natCast, Int.toNat_natCast]; rfl
        have sh2 : ∀ j : Nat, rd (u0 :: us) ((j + 1 : Nat) : Int) = rd us (j : Int) := by
          intro j; unfold rd; rw [Int.toNat_natCast, Int.toNat_natCast]; rfl
        have st := hs 0 (by omega)
        rw [sh 0] at st
        have st' : rd os 0 = nx o0 u0 := st
        have hu0 := hu u0 (by simp)
        have ho0 := ho o0 (by simp)
        rw [z1] at q1 q2
        have mo := nx_mono lo o0 u0 a1 q1 (by omega) hu0.1 hu0.2
        have mo2 := nx_mono o0 hi u0 (by omega) q2 b2 hu0.1 hu0.2
        have := g2 us os c1 c2 (fun x hx => hu x (List.mem_cons_of_mem _ hx)) (fun x hx => ho x (List.mem_cons_of_mem _ hx)) (by rw [st']; exact mo.1) (by rw [st']; exact mo2.2) (by
          intro j hj
          have := hs (j + 1) (by omega)
          rw [sh (j + 1), sh j, sh2 j] at this
          exact this)
        rw [sh d]
        exact this
theorem bounds_same (a0 a1 : Int) (k : Nat) (hk : 23 ≤ k) : ∃ (v u : Int) (b : Bool), spec_BoundsFor.f k a0 a1 = some (v, u, b) ∧ impl_BoundsFor.f k a0 a1 = some (v, u, b) ∧
    ((8 ≤ a0 ∧ a0 ≤ 1000000) → (0 ≤ a1 ∧ a1 ≤ 20) → b = true ∧ ∀ (us os : List Int), us.length = a1.toNat → os.length = a1.toNat + 1 → (∀ x ∈ us, 0 ≤ x ∧ x ≤ 80) → (∀ x ∈ os, 8 ≤ x ∧ x ≤ 1000000) → rd os 0 = a0 → (∀ j : Nat, j < a1.toNat → rd os ((j + 1 : Nat) : Int) = nx (rd os (j : Int)) (rd us (j : Int))) → v ≤ rd os (a1.toNat : Int) ∧ rd os (a1.toNat : Int) ≤ u) := by
  obtain ⟨k, rfl⟩ : ∃ j, k = j + 1 := ⟨k - 1, by omega⟩
  unfold impl_BoundsFor.f spec_BoundsFor.f impl_isPrice.f spec_l13Price.f
  simp only [l1In_f, within_f, Option.bind_some, decide_eq_true_eq]
  by_cases h0 : 8 ≤ a0 ∧ a0 ≤ 1000000
  · rw [if_pos h0, if_pos h0]
    simp only [spec_BoundsFor.j0, impl_BoundsFor.j0]
    by_cases h1 : 0 ≤ a1 ∧ a1 ≤ 20
    · rw [if_neg (by simp [h1]), if_neg (by simp [h1])]
      obtain ⟨v, u, g, g', g2⟩ := bounds_l a1.toNat k a1 a0 a0 0 (by omega) (by omega) h1.2 (by omega) h0.1 h0.2 h0.1 h0.2
      rw [Int.sub_zero] at g
      exact ⟨v, u, true, g, g', fun _ _ => ⟨rfl, fun us os c1 c2 c3 c4 c5 c6 => g2 us os c1 c2 c3 c4 (by omega) (by omega) c6⟩⟩
    · rw [if_pos (by simp; omega), if_pos (by simp; omega)]; exact ⟨_, _, _, rfl, rfl, fun _ h => absurd h h1⟩
  · rw [if_neg h0, if_neg h0]
    simp only [spec_BoundsFor.j0, impl_BoundsFor.j0, if_true]
    exact ⟨_, _, _, rfl, rfl, fun h => absurd h h0⟩
theorem sameInts_l (a : List Int) (hm : a.length ≤ maxLen) (d : Nat) : ∀ (k i : Nat), i + d = a.length → d < k →
    laws_sameInts.l0 k a a (a.length : Int) (i : Int) = some true := by
  induction d with
  | zero =>
    intro k i hi hk
    obtain ⟨k, rfl, _⟩ := succ_of hk
    simp only [laws_sameInts.l0]
    rw [if_neg (by omega)]
  | succ d ih =>
    intro k i hi hk
    obtain ⟨k, rfl, hk⟩ := succ_of hk
    have hl : i < a.length := by omega
    simp only [laws_sameInts.l0]
    rw [if_pos (by omega), if_pos (by omega), if_pos (by omega), if_pos (by omega)]
    simp only [if_true]
    rw [wrap_succ hl hm]
    exact ih k (i + 1) (by omega) (by omega)
theorem sameInts_f (a : List Int) (hm : a.length ≤ maxLen) (k : Nat) (hk : a.length < k) : laws_sameInts.f k a a = some true := by
  unfold laws_sameInts.f
  rw [if_pos rfl]
  exact sameInts_l a hm a.length k 0 (by omega) hk
theorem number_l (l : List Int) (hb : by8 l) (hm : l.length ≤ maxLen) (d : Nat) : ∀ (k i : Nat) (n : Int), i + d = l.length → d < k → 0 ≤ n → n < 1000003 →
    ∃ v, laws_numberOf.l0 k n l (l.length : Int) (i : Int) = some v ∧ 0 ≤ v ∧ v < 1000003 := by
  induction d with
  | zero =>
    intro k i n hi hk h0 h1
    obtain ⟨k, rfl, _⟩ := succ_of hk
    simp only [laws_numberOf.l0]
    rw [if_neg (by omega)]
    exact ⟨n, rfl, h0, h1⟩
  | succ d ih =>
    intro k i n hi hk h0 h1
    obtain ⟨k, rfl, hk⟩ := succ_of hk
    have hl : i < l.length := by omega
    have hx := hb l[i] (List.getElem_mem hl)
    simp only [laws_numberOf.l0]
    have w1 : wrap64 (31 * n) = 31 * n := wrap_id (by omega) (by omega)
    have w2 : wrap64 l[i] = l[i] := wrap_id (by omega) (by omega)
    have w3 : wrap64 (31 * n + l[i]) = 31 * n + l[i] := wrap_id (by omega) (by omega)
    rw [if_pos (by omega), if_pos (by omega), if_pos (by omega), rd_nat hl, w1, w2, w3, wrap_succ hl hm, Int.tmod_eq_emod_of_nonneg (by omega)]
    exact ih k (i + 1) _ (by omega) (by omega) (by omega) (by omega)
theorem number_f (l : List Int) (hb : by8 l) (hm : l.length ≤ maxLen) (k : Nat) (hk : l.length < k) : ∃ v, laws_numberOf.f k l = some v ∧ 0 ≤ v ∧ v < 1000003 := by
  unfold laws_numberOf.f
  exact number_l l hb hm l.length k 0 0 (by omega) hk (by omega) (by omega)
end FnPricesLaw
open FnPricesLaw
theorem draw_l (l : List Int) (hb : by8 l) (hl : l.length ≤ maxLen) (d : Nat) : ∀ (k : Nat) (p : Int) (acc : List Int) (a s : Int), d < k → 0 ≤ a → a + 2 * (d : Int) ≤ 4611686018427387000 → acc.length + d ≤ 1000 →
    ∃ o : List Int, spec_DrawPricesOf.l0 k p acc (d : Int) l a s = some (p, o) ∧ o.length ≤ 1000 := by
  induction d with
  | zero =>
    intro k p acc a s hk _ _ h
    obtain ⟨k, rfl, _⟩ := succ_of hk
    simp only [spec_DrawPricesOf.l0]
    rw [if_neg (by omega)]
    exact ⟨acc, rfl, by omega⟩
  | succ d ih =>
    intro k p acc a s hk h0 h1 h
    obtain ⟨k, rfl, hk⟩ := succ_of hk
    simp only [spec_DrawPricesOf.l0]
    obtain ⟨x, a1, s1, e, _, _, q1, q2⟩ := pick_f l hb hl a s 81 h0 (by omega)
    rw [if_pos (by omega), e]
    simp only [Option.bind_some]
    have w : wrap64 (((d + 1 : Nat) : Int) - 1) = (d : Int) := by rw [wrap_id (by omega) (by omega)]; omega
    rw [if_pos (by omega), w]
    exact ih k p (acc ++ [x]) a1 s1 (by omega) (by omega) (by omega) (by simp; omega)
theorem draw_f (l : List Int) (hb : by8 l) (hl : l.length ≤ maxLen) (k : Nat) (hk : 100 ≤ k) : ∃ (p : Int) (o : List Int), spec_DrawPricesOf.f k l = some (p, o) ∧ o.length ≤ 1000 := by
  unfold spec_DrawPricesOf.f
  obtain ⟨p, a1, s1, e1, q1, q2⟩ := price_f l hb hl 0 0 (by omega) (by omega)
  rw [e1]
  simp only [Option.bind_some]
  obtain ⟨n, a2, s2, e2, n0, n1, q3, q4⟩ := pick_f l hb hl a1 s1 12 (by omega) (by omega)
  rw [e2]
  simp only [Option.bind_some]
  obtain ⟨c, a3, s3, e3, q5, q6⟩ := one_f l hb hl a2 s2 20 (by omega) (by omega)
  rw [e3]
  simp only [Option.bind_some]
  obtain ⟨k, rfl⟩ : ∃ j, k = j + 1 := ⟨k - 1, by omega⟩
  cases c
  · simp only [Bool.false_eq_true, if_false, spec_DrawPricesOf.j0]
    obtain ⟨m, rfl⟩ := Int.eq_ofNat_of_zero_le n0
    obtain ⟨o, e, h⟩ := draw_l l hb hl m k p [] a3 s3 (by omega) (by omega) (by omega) (by rw [List.length_nil]; omega)
    exact ⟨p, o, e, h⟩
  · simp only [if_true, spec_DrawPricesOf.j0]
    obtain ⟨x, a4, s4, e4, x0, x1, q7, q8⟩ := pick_f l hb hl a3 s3 2 (by omega) (by omega)
    rw [e4]
    simp only [Option.bind_some]
    rw [wrap_id (by omega) (by omega)]
    obtain ⟨m, hm⟩ := Int.eq_ofNat_of_zero_le (show 0 ≤ 60 + x by omega)
    rw [hm]
    obtain ⟨o, e, h⟩ := draw_l l hb hl m k p [] a4 s4 (by omega) (by omega) (by omega) (by rw [List.length_nil]; omega)
    exact ⟨p, o, e, h⟩
theorem next_same2 (a u : Int) : ∃ (v : Int) (b : Bool), impl_NextPrice.f a u = some (v, b) ∧ spec_NextPrice.f a u = some (v, b) ∧ (b = true → (8 ≤ a ∧ a ≤ 1000000) ∧ (0 ≤ u ∧ u ≤ 80) ∧ v = nx a u) := by
  unfold impl_NextPrice.f spec_NextPrice.f impl_isPrice.f spec_l13Price.f
  simp only [l1In_f, within_f, Option.bind_some, decide_eq_true_eq]
  by_cases h0 : 8 ≤ a ∧ a ≤ 1000000
  · rw [if_pos h0, if_pos h0]
    by_cases h1 : 0 ≤ u ∧ u ≤ 80
    · obtain ⟨e1, e2, _, _⟩ := nx_f a u h0.1 h0.2 h1.1 h1.2
      rw [if_pos h1, if_pos h1, e1, e2]
      exact ⟨_, _, rfl, rfl, fun _ => ⟨h0, h1, rfl⟩⟩
    · rw [if_neg h1, if_neg h1]; exact ⟨_, _, rfl, rfl, fun h => by cases h⟩
  · rw [if_neg h0, if_neg h0]; exact ⟨_, _, rfl, rfl, fun h => by cases h⟩
theorem j5_f (l : List Int) (hb : by8 l) (hl : l.length ≤ maxLen) (k : Nat) (hk : 100 ≤ k) : laws_FnPrices.j5 k l = some true := by
  obtain ⟨k, rfl⟩ : ∃ j, k = j + 1 + 1 := ⟨k - 2, by omega⟩
  simp only [laws_FnPrices.j5, laws_FnPrices.j6]
  have hn : ∃ p u : Int, spec_DrawNextPrice.f l = some (p, u) := by
    unfold spec_DrawNextPrice.f spec_l1Cur_usedOf.f
    obtain ⟨p, a1, s1, e1, q1, q2⟩ := price_f l hb hl 0 0 (by omega) (by omega)
    rw [e1]
    simp only [Option.bind_some]
    obtain ⟨n, a2, s2, e2, n0, n1, q3, q4⟩ := pick_f l hb hl a1 s1 81 (by omega) (by omega)
    rw [e2]
    simp only [Option.bind_some]
    obtain ⟨c, a3, s3, e3, _, q5, q6⟩ := among_f l hb hl a2 s2 [-1, 0, 39, 40, 41, 80, 81, n] (by simp) (by omega) (by omega)
    rw [e3]
    exact ⟨_, _, rfl⟩
  obtain ⟨p, u, e⟩ := hn
  rw [e]
  simp only [Option.bind_some]
  obtain ⟨v, b, f1, f2, f3⟩ := next_same2 p u
  rw [f1, f2]
  simp only [Option.bind_some, bne_self_eq_false, Bool.false_eq_true, if_false, if_true]
  have hd : ∃ p m : Int, spec_DrawBoundsFor.f l = some (p, m) := by
    unfold spec_DrawBoundsFor.f
    obtain ⟨p, a1, s1, e1, q1, q2⟩ := price_f l hb hl 0 0 (by omega) (by omega)
    rw [e1]
    simp only [Option.bind_some]
    obtain ⟨n, a2, s2, e2, n0, n1, q3, q4⟩ := pick_f l hb hl a1 s1 23 (by omega) (by omega)
    rw [e2]
    exact ⟨_, _, rfl⟩
  obtain ⟨p2, m, e2⟩ := hd
  rw [e2]
  simp only [Option.bind_some]
  obtain ⟨x, y, c, g1, g2, _⟩ := bounds_same p2 m (k + 1) (by omega)
  rw [g1, g2]
  simp only [Option.bind_some, bne_self_eq_false, Bool.false_eq_true, if_false, if_true]
  cases b
  · rfl
  · obtain ⟨hp, hu, hv⟩ := f3 rfl
    simp only [if_true]
    by_cases h : u < 80
    · rw [if_pos h, wrap_id (by omega) (by omega)]
      obtain ⟨v2, b2, i1, i2, i3⟩ := next_same2 p (u + 1)
      have hb2 : impl_NextPrice.f p (u + 1) = some (nx p (u + 1), true) := by
        unfold impl_NextPrice.f impl_isPrice.f
        simp only [within_f, Option.bind_some, decide_eq_true_eq]
        rw [if_pos hp, if_pos (by omega), (nx_f p (u + 1) hp.1 hp.2 (by omega) (by omega)).2.1]
        rfl
      rw [hb2]
      have := nx_step p u hp.1 hp.2 hu.1 h
      simp only [Option.bind_some, if_true]
      rw [decide_eq_true (by omega)]
    · rw [if_neg h]
theorem law_l (l1 : List Int) (hb1 : by8 l1) (hl1 : l1.length ≤ maxLen) (p : Int) (us os : List Int) (hp : 8 ≤ p ∧ p ≤ 1000000) (hl : us.length ≤ 60) (hu : ∀ x ∈ us, 0 ≤ x ∧ x ≤ 80) (st : steps p us os us.length) (d : Nat) :
    ∀ (k i : Nat), i + d = us.length → 2 * d + l1.length + 200 ≤ k → laws_FnPrices.l0 k l1 p us os us (us.length : Int) (i : Int) = some true := by
  obtain ⟨s1, s2, s3, s4⟩ := st
  induction d with
  | zero =>
    intro k i hi hk
    obtain ⟨k, rfl⟩ : ∃ j, k = j + 1 := ⟨k - 1, by omega⟩
    simp only [laws_FnPrices.l0]
    obtain ⟨v, e, v0, v1⟩ := number_f l1 hb1 hl1 k (by omega)
    rw [if_neg (by omega), e, wrap_id (by omega) (by omega)]
    simp only [Option.bind_some]
    rw [Int.tmod_eq_emod_of_nonneg v0]
    have q1 := Int.emod_nonneg v (show (us.length : Int) + 1 ≠ 0 by omega)
    have q2 := Int.emod_lt_of_pos v (show 0 < (us.length : Int) + 1 by omega)
    generalize v % ((us.length : Int) + 1) = m at q1 q2 ⊢
    rw [if_neg (by omega)]
    by_cases h : m ≤ 20
    · rw [if_pos h]
      obtain ⟨x, y, b, g1, g2, g3⟩ := bounds_same p m k (by omega)
      obtain ⟨hb, g4⟩ := g3 hp ⟨q1, h⟩
      subst hb
      obtain ⟨m, rfl⟩ := Int.eq_ofNat_of_zero_le q1
      have := g4 (us.take m) (os.take (m + 1)) (by simp; omega) (by simp; omega) (fun x hx => hu x (List.mem_of_mem_take hx)) (fun x hx => s3 x (List.mem_of_mem_take hx))
        (by rw [show (0 : Int) = ((0 : Nat) : Int) from rfl, rd_take os (m + 1) 0 (by omega) (by omega)]; exact s2)
        (by
          intro j hj
          rw [Int.toNat_natCast] at hj
          rw [rd_take os (m + 1) (j + 1) (by omega) (by omega), rd_take os (m + 1) j (by omega) (by omega), rd_take us m j (by omega) (by omega)]
          exact s4 j (by omega))
      rw [Int.toNat_natCast, rd_take os (m + 1) m (by omega) (by omega)] at this
      rw [g2]
      simp only [Option.bind_some, if_true]
      obtain ⟨k, rfl⟩ : ∃ j, k = j + 1 := ⟨k - 1, by omega⟩
      rw [if_pos (by omega), if_pos (by omega), if_neg (by omega), decide_eq_false (by omega)]
      simp only [laws_FnPrices.j4, Bool.false_eq_true, if_false]
      exact j5_f l1 hb1 hl1 k (by omega)
    · rw [if_neg h]
      exact j5_f l1 hb1 hl1 k (by omega)
  | succ d ih =>
    intro k i hi hk
    obtain ⟨k, rfl⟩ : ∃ j, k = j + 1 + 1 := ⟨k - 2, by omega⟩
    have hli : i < us.length := by omega
    have hx := hu us[i] (List.getElem_mem hli)
    have ho : rd os (i : Int) ∈ os := by rw [rd_nat (by omega)]; exact List.getElem_mem _
    have hr := s3 _ ho
    have hs := s4 i hli
    have fx := nx_facts (rd os (i : Int)) us[i] hr.1 hr.2 hx.1 hx.2
    have fr := (nx_f (rd os (i : Int)) us[i] hr.1 hr.2 hx.1 hx.2).2.2
    rw [rd_nat hli] at hs
    have up := ih k (i + 1) (by omega) (by omega)
    simp only [laws_FnPrices.l0, laws_FnPrices.j3, Bool.false_eq_true, if_false]
    rw [wrap_succ hli (by unfold maxLen; omega), if_pos (by omega), if_pos (by omega), if_pos (by omega), if_pos (by omega), if_pos (by omega), if_pos (by omega), hs, rd_nat hli]
    generalize rd os (i : Int) = a at hr fx fr ⊢
    generalize us[i] = u at hx fx fr ⊢
    generalize nx a u = b at fx fr ⊢
    have w1 : wrap64 (b - a) = b - a := wrap_id (by omega) (by omega)
    have w2 : wrap64 (a - b) = a - b := wrap_id (by omega) (by omega)
    have w3 : wrap64 (8 * (b - a)) = 8 * (b - a) := wrap_id (by omega) (by omega)
    have w4 : wrap64 (8 * (a - b)) = 8 * (a - b) := wrap_id (by omega) (by omega)
    have w5 : wrap64 (a + 8) = a + 8 := wrap_id (by omega) (by omega)
    rw [w1, w2, w3, w4, w5]
    rcases Int.lt_trichotomy u 40 with q | q | q
    · have := fx.2.2 q
      rw [if_neg (by omega), if_neg (by omega), if_pos q, if_neg (by omega), decide_eq_false (by omega)]
      simp only [Bool.false_eq_true, if_false]
      exact up
    · have := fx.1 q
      rw [if_pos q, if_pos (by omega), if_neg (by omega), if_neg (by omega)]
      exact up
    · have := fx.2.1 q
      rw [if_neg (by omega), if_pos q, if_neg (by omega), if_neg (by omega), if_neg (by omega)]
      exact up
theorem FnPrices : FnPricesPure := by
  intro l1 l2 ⟨h1, hb1⟩ ⟨h2, hb2⟩
  have b1 := by8_of hb1
  have b2 := by8_of hb2
  refine ⟨l2.length + 3000, ?_⟩
  unfold laws_FnPrices.f
  split
  · rfl
  · obtain ⟨p, us, e, hlen⟩ := draw_f l1 b1 h1 (l2.length + 3000) (by omega)
    rw [e]
    simp only [Option.bind_some]
    obtain ⟨o, b, f1, f2, f3, f4⟩ := prices_same p us (by unfold maxLen; omega) (l2.length + 3000) (by omega)
    rw [f1, f2]
    simp only [Option.bind_some, bne_self_eq_false, Bool.false_eq_true, if_false]
    rw [sameInts_f o (by unfold maxLen; omega) _ (by omega)]
    simp only [Option.bind_some, Bool.not_true, laws_FnPrices.j0, Bool.false_eq_true, if_false]
    cases b
    · simp only [Bool.false_eq_true, if_false]
      exact j5_f l2 b2 h2 _ (by omega)
    · obtain ⟨hp, hl, hu, st⟩ := f4 rfl
      have s1 := st.1
      have s2 := st.2.1
      simp only [if_true]
      rw [wrap_id (by omega) (by omega), if_pos (by omega), if_pos (by omega), s2]
      simp only [bne_self_eq_false, laws_FnPrices.j1, Bool.false_eq_true, if_false]
      exact law_l l2 b2 h2 p us o hp hl hu st us.length _ 0 (by omega) (by omega)
end Go.Proofs.Ytglnggfmkbmocaa.Pure
