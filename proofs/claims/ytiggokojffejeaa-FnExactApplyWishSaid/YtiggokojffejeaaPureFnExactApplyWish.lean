/- ApplyWish of the program and of the reference return the same, in new memory, for every state, transaction, price and receiver; no condition. -/
import Derived.Test.YtiggokojffejeaaDefFnExactApplyWish
import Derived.Test.YtiggokojffejeaaPx
import Derived.Test.YtiggokojffejeaaOv
namespace Go.Proofs.Ytiggokojffejeaa.Pure
open Go.RowKit Go.Proofs.Ytiggokojffejeaa.PFnExactApplyWish Go.Proofs.YtiggokojffejeaaW.PrintWords Go.Proofs.YtiggokojffejeaaW.PrintLast Go.Proofs.YtiggokojffejeaaW.PrintMore Go.Proofs.Ytiggokojffejeaa.Px Go.Proofs.Ytiggokojffejeaa.Ov
namespace FnExactApplyWishLaw
theorem toIntS_l (l : List Int) (hm : l.length ≤ maxLen) (d : Nat) : ∀ (k i : Nat), i + d = l.length → d < k →
    laws_toIntS.l0 k l (l.take i ++ List.replicate (l.length - i) 0) (i : Int) = some l := by
  induction d with
  | zero =>
    intro k i hi hk
    obtain ⟨k, rfl, _⟩ := succ_of hk
    have e : i = l.length := by omega
    subst e
    simp only [laws_toIntS.l0]
    rw [if_neg (by omega)]
    simp
  | succ d ih =>
    intro k i hi hk
    obtain ⟨k, rfl, hk⟩ := succ_of hk
    have hl : i < l.length := by omega
    simp only [laws_toIntS.l0]
    rw [if_pos (by omega), if_pos (by omega), if_pos (by rw [length_step _ _ _ (by omega)]; omega), rd_nat hl, Int.toNat_natCast, set_step l 0 i hl, wrap_succ hl hm]
    exact ih k (i + 1) (by omega) (by omega)
theorem toIntS_f (l : List Int) (hm : l.length ≤ 35184372088832) (k : Nat) (hk : l.length < k) : laws_toIntS.f k l = some l := by
  unfold laws_toIntS.f
  rw [if_pos (by omega), if_pos (by simpa using hm), Int.toNat_natCast]
  simpa using toIntS_l l (by unfold maxLen; omega) l.length k 0 (by omega) hk
theorem toState_f (s n : List Int) (b : Int) (hs : s.length ≤ 35184372088832) (hn : n.length ≤ 35184372088832) (k : Nat) (hk : s.length < k) (hk2 : n.length < k) : laws_toState.f k s n b = some (s, n, b) := by
  unfold laws_toState.f
  rw [toIntS_f s hs k hk, toIntS_f n hn k hk2]; rfl
theorem eqIntS_l (a : List Int) (hm : a.length ≤ maxLen) (d : Nat) : ∀ (k i : Nat), i + d = a.length → d < k →
    laws_eqIntS.l0 k a a (i : Int) = some true := by
  induction d with
  | zero =>
    intro k i hi hk
    obtain ⟨k, rfl, _⟩ := succ_of hk
    simp only [laws_eqIntS.l0]
    rw [if_neg (by omega)]
  | succ d ih =>
    intro k i hi hk
    obtain ⟨k, rfl, hk⟩ := succ_of hk
    have hl : i < a.length := by omega
    simp only [laws_eqIntS.l0]
    rw [if_pos (by omega), if_pos (by omega), if_pos (by omega)]
    simp only [if_true]
    rw [wrap_succ hl hm]
    exact ih k (i + 1) (by omega) (by omega)
theorem eqIntS_f (a : List Int) (hm : a.length ≤ maxLen) (k : Nat) (hk : a.length < k) : laws_eqIntS.f k a a = some true := by
  unfold laws_eqIntS.f
  rw [if_pos rfl]
  exact eqIntS_l a hm a.length k 0 (by omega) hk
theorem eqState_f (s n : List Int) (b : Int) (hs : s.length ≤ 35184372088832) (hn : n.length ≤ 35184372088832) (k : Nat) (hk : s.length < k) (hk2 : n.length < k) : laws_eqState.f k s n b s n b = some true := by
  unfold laws_eqState.f
  rw [eqIntS_f s (by unfold maxLen; omega) k hk, eqIntS_f n (by unfold maxLen; omega) k hk2]; simp
theorem szIntS_f (l : List Int) (a : Int) (h : l.length ≤ maxLen) (h0 : 0 ≤ a) (h1 : a ≤ 1048576) : laws_szIntS.f l a = some (if a < (l.length : Int) then -1 else a - (l.length : Int)) := by
  unfold laws_szIntS.f
  unfold maxLen at h
  rw [wrap_id (by omega) (by omega)]
  by_cases h2 : a < (l.length : Int)
  · rw [if_pos (by omega), if_pos h2]
  · rw [if_neg (by omega), if_neg h2]
theorem szState_f (s n : List Int) (b a : Int) (hs : s.length ≤ maxLen) (hn : n.length ≤ maxLen) (h0 : 0 ≤ a) (h1 : a ≤ 1048576) :
    laws_szState.f s n b a = some (if a < (s.length : Int) then -1 else if a - (s.length : Int) < (n.length : Int) then -1 else a - (s.length : Int) - (n.length : Int)) := by
  unfold laws_szState.f
  rw [szIntS_f s a hs h0 h1]
  simp only [Option.bind_some]
  by_cases h2 : a < (s.length : Int)
  · simp only [if_pos h2]
    rw [if_pos (by omega)]
  · simp only [if_neg h2]
    rw [if_neg (by omega), szIntS_f n _ hn (by omega) (by omega)]
    simp only [Option.bind_some]
    by_cases h3 : a - (s.length : Int) < (n.length : Int)
    · simp only [if_pos h3]
      rw [if_pos (by omega)]
    · simp only [if_neg h3]
      rw [if_neg (by omega)]
theorem l1In_f (a b c : Int) : spec_l1In.f a b c = some (decide (b ≤ a ∧ a ≤ c)) := by
  unfold spec_l1In.f
  by_cases h : b ≤ a <;> simp [h]
theorem within_f (a b c : Int) : impl_within.f a b c = some (decide (b ≤ a ∧ a ≤ c)) := rfl
def goodWishB (m : Int) (f t a n tp lm sz : Int) : Bool := decide (0 ≤ f ∧ f ≤ wrap64 (m - 1)) && (decide (0 ≤ t ∧ t ≤ wrap64 (m - 1)) && (decide (0 ≤ a ∧ a ≤ 1000000000) && (decide (0 ≤ n ∧ n ≤ 1000) && (decide (0 ≤ tp ∧ tp ≤ 1000000) && (decide (0 ≤ lm ∧ lm ≤ 1000000) && decide (1 ≤ sz ∧ sz ≤ 80))))))
theorem and_chain {p : Bool} {q : Bool} {x : Option Bool} (h : x = some q) : (if p = true then x else some false) = some (p && q) := by
  cases p <;> simp [h]
theorem l14Wish_f (m f t a n tp lm sz : Int) : spec_l14Wish.f m f t a n tp lm sz = some (goodWishB m f t a n tp lm sz) := by
  unfold spec_l14Wish.f goodWishB
  simp only [l1In_f, Option.bind_some]
  exact and_chain (and_chain (and_chain (and_chain (and_chain (and_chain rfl)))))
theorem isWish_f (s ns : List Int) (b f t a n tp lm sz : Int) : impl_isWish.f s ns b f t a n tp lm sz = some (goodWishB (s.length : Int) f t a n tp lm sz) := by
  unfold impl_isWish.f goodWishB impl_isFee.f impl_isUsed.f
  simp only [within_f, Option.bind_some]
  exact and_chain (and_chain (and_chain (and_chain (and_chain (and_chain rfl)))))
theorem goodWish_of {m : Nat} {f t a n tp lm sz : Int} (hm : m ≤ 8) (h : goodWishB (m : Int) f t a n tp lm sz = true) :
    0 ≤ f ∧ f < (m : Int) ∧ 0 ≤ t ∧ t < (m : Int) ∧ 0 ≤ a ∧ a ≤ 1000000000 ∧ 0 ≤ n ∧ n ≤ 1000 ∧ 0 ≤ tp ∧ tp ≤ 1000000 ∧ 0 ≤ lm ∧ lm ≤ 1000000 ∧ 1 ≤ sz ∧ sz ≤ 80 := by
  unfold goodWishB at h
  rw [wrap_id (by omega) (by omega)] at h
  simp only [Bool.and_eq_true, decide_eq_true_eq] at h
  omega
theorem l1All_l (l : List Int) (a b : Int) (hm : l.length ≤ maxLen) (d : Nat) : ∀ (k i : Nat), i + d = l.length → d < k →
    spec_l1All.l0 k a b l (l.length : Int) (i : Int) = some ((l.drop i).all fun n => decide (a ≤ n ∧ n ≤ b)) := by
  induction d with
  | zero =>
    intro k i hi hk
    obtain ⟨k, rfl, _⟩ := succ_of hk
    simp only [spec_l1All.l0]
    rw [if_neg (by omega), List.drop_of_length_le (by omega)]; rfl
  | succ d ih =>
    intro k i hi hk
    obtain ⟨k, rfl, hk⟩ := succ_of hk
    have hl : i < l.length := by omega
    simp only [spec_l1All.l0]
    rw [if_pos (by omega), if_pos (by omega), if_pos (by omega), rd_nat hl, l1In_f, all_drop _ l i hl, wrap_succ hl hm]
    simp only [Option.bind_some]
    rw [ih k (i + 1) (by omega) (by omega)]
    cases decide (a ≤ l[i] ∧ l[i] ≤ b) <;> simp
theorem l1All_f (l : List Int) (a b : Int) (hm : l.length ≤ maxLen) (k : Nat) (hk : l.length < k) : spec_l1All.f k l a b = some (l.all fun n => decide (a ≤ n ∧ n ≤ b)) := by
  unfold spec_l1All.f
  simpa using l1All_l l a b hm l.length k 0 (by omega) hk
theorem l1Sum_l (l : List Int) (hm : l.length ≤ maxLen) (B : Int) (hB : 0 ≤ B) (h0 : ∀ x ∈ l, 0 ≤ x ∧ x ≤ B) (hs : B * (l.length : Int) ≤ 4611686018427387904) (d : Nat) : ∀ (k i : Nat) (s : Int), i + d = l.length → d < k →
    0 ≤ s → s ≤ B * (i : Int) → spec_l1Sum.l0 k s l (l.length : Int) (i : Int) = some (s + (l.drop i).sum) := by
  induction d with
  | zero =>
    intro k i s hi hk _ _
    obtain ⟨k, rfl, _⟩ := succ_of hk
    simp only [spec_l1Sum.l0]
    rw [if_neg (by omega), List.drop_of_length_le (by omega)]; simp
  | succ d ih =>
    intro k i s hi hk s0 s1
    obtain ⟨k, rfl, hk⟩ := succ_of hk
    have hl : i < l.length := by omega
    simp only [spec_l1Sum.l0]
    have hx := h0 l[i] (List.getElem_mem hl)
    have hi1 : B * ((i + 1 : Nat) : Int) = B * (i : Int) + B := by rw [Int.natCast_add, Int.mul_add]; simp
    have hi2 : B * ((i + 1 : Nat) : Int) ≤ B * (l.length : Int) := Int.mul_le_mul_of_nonneg_left (by omega) hB
    rw [if_pos (by omega), if_pos (by omega), if_pos (by omega), rd_nat hl, wrap_succ hl hm, wrap_id (by omega) (by omega), ih k (i + 1) (s + l[i]) (by omega) (by omega) (by omega) (by omega), sum_drop l i hl]
    congr 1; omega
theorem l1Sum_f (l : List Int) (B : Int) (hB : 0 ≤ B) (h0 : ∀ x ∈ l, 0 ≤ x ∧ x ≤ B) (hm : l.length ≤ maxLen) (hs : B * (l.length : Int) ≤ 4611686018427387904) (k : Nat) (hk : l.length < k) : spec_l1Sum.f k l = some l.sum := by
  unfold spec_l1Sum.f
  have := l1Sum_l l hm B hB h0 hs l.length k 0 0 (by omega) hk (by omega) (by simp)
  simpa using this
def goodStateB (s n : List Int) (b : Int) : Bool := decide (1 ≤ s.length ∧ s.length ≤ 8) && (decide (n.length = s.length) && ((s.all fun x => decide (0 ≤ x ∧ x ≤ 1000000000)) && ((n.all fun x => decide (0 ≤ x ∧ x ≤ 1000)) && (decide (0 ≤ b ∧ b ≤ 1000000000) && decide (s.sum + b ≤ 1000000000)))))
theorem specGoodState_f (s n : List Int) (b : Int) (hs : s.length ≤ maxLen) (hn : n.length ≤ maxLen) (k : Nat) (hk : s.length < k) (hk2 : n.length < k) : spec_GoodState.f k s n b = some (goodStateB s n b) := by
  unfold spec_GoodState.f goodStateB
  rw [l1In_f]
  simp only [Option.bind_some, decide_eq_true_eq]
  by_cases h1 : (1 : Int) ≤ (s.length : Int) ∧ (s.length : Int) ≤ 8
  · rw [if_pos h1, decide_eq_true (show 1 ≤ s.length ∧ s.length ≤ 8 by omega)]
    by_cases h2 : (n.length : Int) = (s.length : Int)
    · rw [if_pos h2, decide_eq_true (show n.length = s.length by omega), l1All_f s _ _ hs k hk]
      simp only [Option.bind_some, Bool.true_and]
      cases h3 : s.all fun x => decide ((0 : Int) ≤ x ∧ x ≤ 1000000000)
      · simp
      · simp only [if_true, Bool.true_and]
        rw [l1All_f n _ _ hn k hk2]
        simp only [Option.bind_some]
        cases h4 : n.all fun x => decide ((0 : Int) ≤ x ∧ x ≤ 1000)
        · simp
        · simp only [if_true, Bool.true_and]
          rw [l1In_f]
          simp only [Option.bind_some, decide_eq_true_eq]
          have hb0 : ∀ x ∈ s, 0 ≤ x ∧ x ≤ 1000000000 := fun x hx => of_decide_eq_true (of_all h3 x hx)
          have hsum := sum_le (l := s) (b := 1000000000) (fun x hx => (hb0 x hx).2)
          have hsum0 := sum_nonneg (l := s) (fun x hx => (hb0 x hx).1)
          by_cases h5 : 0 ≤ b ∧ b ≤ 1000000000
          · rw [if_pos h5, decide_eq_true h5, l1Sum_f s 1000000000 (by omega) hb0 hs (by omega) k hk]
            simp only [Option.bind_some, Bool.true_and]
            rw [wrap_id (by omega) (by omega)]
          · rw [if_neg h5, decide_eq_false h5]; simp
    · rw [if_neg h2, decide_eq_false (show ¬ n.length = s.length by omega)]; simp
  · rw [if_neg h1, decide_eq_false (show ¬ (1 ≤ s.length ∧ s.length ≤ 8) by omega)]; simp
theorem goodState_of {s n : List Int} {b : Int} (h : goodStateB s n b = true) :
    1 ≤ s.length ∧ s.length ≤ 8 ∧ n.length = s.length ∧ (∀ x ∈ s, 0 ≤ x ∧ x ≤ 1000000000) ∧ (∀ x ∈ n, 0 ≤ x ∧ x ≤ 1000) ∧ 0 ≤ b ∧ b ≤ 1000000000 ∧ s.sum + b ≤ 1000000000 := by
  unfold goodStateB at h
  simp only [Bool.and_eq_true, decide_eq_true_eq, List.all_eq_true] at h
  obtain ⟨⟨h1, h2⟩, h3, h4, h5, ⟨h6, h7⟩, h8⟩ := h
  exact ⟨h1, h2, h3, h4, h5, h6, h7, h8⟩
theorem specGoodWish_f (s ns : List Int) (b f t a n tp lm sz : Int) (hs : s.length ≤ maxLen) (hn : ns.length ≤ maxLen) (k : Nat) (hk : s.length < k) (hk2 : ns.length < k) :
    spec_GoodWish.f k s ns b f t a n tp lm sz = some (goodStateB s ns b && goodWishB (s.length : Int) f t a n tp lm sz) := by
  unfold spec_GoodWish.f
  rw [specGoodState_f s ns b hs hn k hk hk2]
  simp only [Option.bind_some, l14Wish_f]
  exact and_chain rfl
theorem isState_l (s n : List Int) (b : Int) (h8 : s.length ≤ 8) (hn : n.length = s.length) (d : Nat) : ∀ (k i : Nat) (t : Int), i + d = s.length → d < k → 0 ≤ t → t ≤ 1000000000 * ((i : Int) + 1) →
    impl_isState.l0 k t s (s.length : Int) (i : Int) s n b = some (((s.drop i).all fun x => decide (0 ≤ x ∧ x ≤ 1000000000)) && (((n.drop i).all fun x => decide (0 ≤ x ∧ x ≤ 1000)) && decide ((s.drop i).sum + t ≤ 1000000000))) := by
  induction d with
  | zero =>
    intro k i t hi hk _ _
    obtain ⟨k, rfl, _⟩ := succ_of hk
    simp only [impl_isState.l0]
    rw [if_neg (by omega), List.drop_of_length_le (by omega), List.drop_of_length_le (by omega)]; simp
  | succ d ih =>
    intro k i t hi hk t0 t1
    obtain ⟨k, rfl, hk⟩ := succ_of hk
    have hl : i < s.length := by omega
    have hl2 : i < n.length := by omega
    simp only [impl_isState.l0]
    rw [if_pos (by omega), if_pos (by omega), if_pos (by omega), rd_nat hl, within_f, all_drop _ s i hl, all_drop _ n i hl2, sum_drop s i hl]
    simp only [Option.bind_some, decide_eq_true_eq]
    by_cases h1 : 0 ≤ s[i] ∧ s[i] ≤ 1000000000
    · rw [if_pos h1, if_pos (by omega), rd_nat hl2, within_f, decide_eq_true h1]
      simp only [Option.bind_some, decide_eq_true_eq, Bool.true_and]
      by_cases h2 : 0 ≤ n[i] ∧ n[i] ≤ 1000
      · rw [if_pos h2, decide_eq_true h2, wrap_succ hl (by unfold maxLen; omega), wrap_id (by omega) (by omega), ih k (i + 1) (t + s[i]) (by omega) (by omega) (by omega) (by omega)]
        simp only [Bool.true_and]
        have e : (List.drop (i + 1) s).sum + (t + s[i]) = s[i] + (List.drop (i + 1) s).sum + t := by omega
        rw [e]
      · rw [if_neg h2, decide_eq_false h2]; simp
    · rw [if_neg h1, decide_eq_false h1]; simp
theorem isState_f (s n : List Int) (b : Int) (k : Nat) (hk : s.length + 1 < k) : impl_isState.f k s n b = some (goodStateB s n b) := by
  unfold impl_isState.f goodStateB
  obtain ⟨k, rfl, hk⟩ := succ_of hk
  rw [within_f]
  simp only [Option.bind_some, decide_eq_true_eq]
  by_cases h1 : (1 : Int) ≤ (s.length : Int) ∧ (s.length : Int) ≤ 8
  · rw [if_pos h1, decide_eq_true (show 1 ≤ s.length ∧ s.length ≤ 8 by omega)]
    by_cases h2 : (n.length : Int) = (s.length : Int)
    · rw [if_pos h2, decide_eq_true (show n.length = s.length by omega), within_f]
      simp only [Option.bind_some, Bool.true_and, impl_isState.j0]
      by_cases h5 : 0 ≤ b ∧ b ≤ 1000000000
      · rw [if_neg (by simp [h5]), decide_eq_true h5]
        have := isState_l s n b (by omega) (by omega) s.length k 0 b (by omega) (by omega) h5.1 (by omega)
        simpa using this
      · rw [if_pos (by simp; omega), decide_eq_false h5]; simp
    · rw [if_neg h2, decide_eq_false (show ¬ n.length = s.length by omega)]; simp [impl_isState.j0]
  · rw [if_neg h1, decide_eq_false (show ¬ (1 ≤ s.length ∧ s.length ≤ 8) by omega)]; simp [impl_isState.j0]
theorem implGoodWish_f (s ns : List Int) (b f t a n tp lm sz : Int) (k : Nat) (hk : s.length + 1 < k) :
    impl_GoodWish.f k s ns b f t a n tp lm sz = some (goodStateB s ns b && goodWishB (s.length : Int) f t a n tp lm sz) := by
  unfold impl_GoodWish.f
  rw [isState_f s ns b k hk]
  simp only [Option.bind_some, isWish_f]
  exact and_chain rfl

theorem mul_bounds {a b A B : Int} (a0 : 0 ≤ a) (a1 : a ≤ A) (b0 : 0 ≤ b) (b1 : b ≤ B) : 0 ≤ a * b ∧ a * b ≤ A * B :=
  ⟨Int.mul_nonneg a0 b0, Int.mul_le_mul a1 b1 b0 (by omega)⟩
def paidOf (p tp lm sz : Int) : Int := (if lm - p < tp then lm - p else tp) * sz
theorem paid_bounds {p tp lm sz : Int} (h1 : 8 ≤ p) (h2 : 0 ≤ tp) (h3 : tp ≤ 1000000) (h4 : lm ≤ 1000000) (h5 : p ≤ lm) (h6 : 1 ≤ sz) (h7 : sz ≤ 80) : 0 ≤ paidOf p tp lm sz ∧ paidOf p tp lm sz ≤ 80000000 := by
  unfold paidOf
  have := mul_bounds (a := if lm - p < tp then lm - p else tp) (b := sz) (A := 1000000) (B := 80) (by split <;> omega) (by split <;> omega) (by omega) h7
  omega
theorem costOf_f (p tp lm sz : Int) (h0 : 8 ≤ p) (h1 : p ≤ 1000000) (h2 : 0 ≤ tp) (h3 : tp ≤ 1000000) (h4 : lm ≤ 1000000) (h5 : p ≤ lm) (h6 : 1 ≤ sz) (h7 : sz ≤ 80) : impl_costOf.f p tp lm sz = some (p * sz, paidOf p tp lm sz) := by
  have b1 := mul_bounds (a := p) (b := sz) (A := 1000000) (B := 80) (by omega) h1 (by omega) h7
  have b2 := paid_bounds h0 h2 h3 h4 h5 h6 h7
  unfold impl_costOf.f mn
  have e : sz * (if wrap64 (lm - p) < tp then wrap64 (lm - p) else tp) = paidOf p tp lm sz := by
    unfold paidOf; rw [wrap_id (by omega) (by omega), Int.mul_comm]
  rw [e, wrap_id (by omega) (by omega), wrap_id (by omega) (by omega)]
theorem specCostOf_ok (p tp lm sz : Int) (h0 : 8 ≤ p) (h1 : p ≤ 1000000) (h2 : 0 ≤ tp) (h3 : tp ≤ 1000000) (h4 : lm ≤ 1000000) (h5 : p ≤ lm) (h6 : 1 ≤ sz) (h7 : sz ≤ 80) : spec_CostOf.f p tp lm sz = some (p * sz, paidOf p tp lm sz, true) := by
  have b1 := mul_bounds (a := p) (b := sz) (A := 1000000) (B := 80) (by omega) h1 (by omega) h7
  have b2 := paid_bounds h0 h2 h3 h4 h5 h6 h7
  unfold spec_CostOf.f spec_l13Price.f
  simp only [l1In_f, Option.bind_some, decide_eq_true_eq]
  rw [if_pos ⟨h0, h1⟩, if_pos ⟨h2, h3⟩, if_pos ⟨h5, h4⟩, if_pos ⟨h6, h7⟩]
  have e : spec_l1Least.f tp (wrap64 (lm - p)) = some (if lm - p < tp then lm - p else tp) := by
    unfold spec_l1Least.f
    rw [wrap_id (by omega) (by omega)]
    by_cases h : tp < lm - p
    · rw [if_pos h, if_neg (by omega)]
    · rw [if_neg h]
      by_cases h' : lm - p < tp
      · rw [if_pos h']
      · rw [if_neg h']; congr 1; omega
  rw [e]
  simp only [Option.bind_some]
  have e2 : (if lm - p < tp then lm - p else tp) * sz = paidOf p tp lm sz := rfl
  rw [e2, wrap_id (by omega) (by omega), wrap_id (by omega) (by omega)]
theorem specCostOf_no (p tp lm sz : Int) (h0 : 8 ≤ p) (h1 : p ≤ 1000000) (h2 : 0 ≤ tp) (h3 : tp ≤ 1000000) (h5 : lm < p) : spec_CostOf.f p tp lm sz = some (0, 0, false) := by
  unfold spec_CostOf.f spec_l13Price.f
  simp only [l1In_f, Option.bind_some, decide_eq_true_eq]
  rw [if_pos ⟨h0, h1⟩, if_pos ⟨h2, h3⟩, if_neg (by omega)]
def mayC (s ns : List Int) (f a n tp lm sz p : Int) : Int := if n = rd ns f then (if lm < p then 2 else if rd s f < a + p * sz + paidOf p tp lm sz then 3 else if n = 1000 then 4 else 0) else 1
theorem specMay_f (s ns : List Int) (b f t a n tp lm sz p : Int) (hf : 0 ≤ f) (hf2 : f < (s.length : Int)) (hl : ns.length = s.length) (ha : 0 ≤ a) (ha2 : a ≤ 1000000000)
    (h0 : 8 ≤ p) (h1 : p ≤ 1000000) (h2 : 0 ≤ tp) (h3 : tp ≤ 1000000) (h4 : lm ≤ 1000000) (h6 : 1 ≤ sz) (h7 : sz ≤ 80) : spec_l14May.f s ns b f t a n tp lm sz p = some (mayC s ns f a n tp lm sz p) := by
  unfold spec_l14May.f mayC
  by_cases h5 : lm < p
  · rw [specCostOf_no p tp lm sz h0 h1 h2 h3 h5]
    simp only [Option.bind_some]
    rw [if_pos hf, if_pos (by omega), if_pos h5]
    by_cases hn : n = rd ns f
    · rw [if_pos hn, if_pos hn]; simp
    · rw [if_neg hn, if_neg hn]
  · have b1 := mul_bounds (a := p) (b := sz) (A := 1000000) (B := 80) (by omega) h1 (by omega) h7
    have b2 := paid_bounds (p := p) (lm := lm) h0 h2 h3 h4 (by omega) h6 h7
    rw [specCostOf_ok p tp lm sz h0 h1 h2 h3 h4 (by omega) h6 h7]
    simp only [Option.bind_some, if_true]
    rw [if_pos hf, if_pos (by omega), if_neg h5, wrap_id (n := a + p * sz) (by omega) (by omega), wrap_id (by omega) (by omega)]
    by_cases hn : n = rd ns f
    · rw [if_pos hn, if_pos hn, if_pos hf2]
      by_cases h8 : rd s f < a + p * sz + paidOf p tp lm sz
      · rw [if_pos h8, if_pos h8]
      · rw [if_neg h8, if_neg h8]
        by_cases h9 : n = 1000
        · rw [if_pos h9, if_pos h9]
        · rw [if_neg h9, if_neg h9]
    · rw [if_neg hn, if_neg hn]
theorem implMay_f (s ns : List Int) (b f t a n tp lm sz p : Int) (hf : 0 ≤ f) (hf2 : f < (s.length : Int)) (hl : ns.length = s.length) (ha : 0 ≤ a) (ha2 : a ≤ 1000000000)
    (h0 : 8 ≤ p) (h1 : p ≤ 1000000) (h2 : 0 ≤ tp) (h3 : tp ≤ 1000000) (h4 : lm ≤ 1000000) (h6 : 1 ≤ sz) (h7 : sz ≤ 80) : impl_mayApply.f s ns b f t a n tp lm sz p = some (mayC s ns f a n tp lm sz p) := by
  unfold impl_mayApply.f mayC
  rw [if_pos hf, if_pos (by omega)]
  by_cases hn : n = rd ns f
  · rw [if_pos hn, if_pos hn]
    by_cases h5 : lm < p
    · rw [if_pos h5, if_pos h5]
    · have b1 := mul_bounds (a := p) (b := sz) (A := 1000000) (B := 80) (by omega) h1 (by omega) h7
      have b2 := paid_bounds (p := p) (lm := lm) h0 h2 h3 h4 (by omega) h6 h7
      rw [if_neg h5, if_neg h5, costOf_f p tp lm sz h0 h1 h2 h3 h4 (by omega) h6 h7]
      simp only [Option.bind_some]
      rw [if_pos hf2, wrap_id (n := a + p * sz) (by omega) (by omega), wrap_id (by omega) (by omega)]
      by_cases h8 : rd s f < a + p * sz + paidOf p tp lm sz
      · rw [if_pos h8, if_pos h8]
      · rw [if_neg h8, if_neg h8]
        by_cases h9 : n = 1000
        · rw [if_pos h9, if_pos h9]
        · rw [if_neg h9, if_neg h9]
  · rw [if_neg hn, if_neg hn]
theorem mayC_range (s ns : List Int) (f a n tp lm sz p : Int) : mayC s ns f a n tp lm sz p = 0 ∨ mayC s ns f a n tp lm sz p > 0 := by
  unfold mayC
  split
  · split
    · right; omega
    · split
      · right; omega
      · split
        · right; omega
        · left; rfl
  · right; omega
theorem mayC_zero {s ns : List Int} {f a n tp lm sz p : Int} (h : mayC s ns f a n tp lm sz p = 0) : p ≤ lm := by
  unfold mayC at h
  split at h
  · split at h
    · omega
    · omega
  · omega
theorem apply_same (s ns : List Int) (b f t a n tp lm sz p q9 : Int) (hf : 0 ≤ f) (hf2 : f < (s.length : Int)) (ht : 0 ≤ t) (ht2 : t < (s.length : Int)) (hl : ns.length = s.length) (ha : 0 ≤ a) (ha2 : a ≤ 1000000000)
    (h0 : 8 ≤ p) (h1 : p ≤ 1000000) (h2 : 0 ≤ tp) (h3 : tp ≤ 1000000) (h4 : lm ≤ 1000000) (h6 : 1 ≤ sz) (h7 : sz ≤ 80) (hto : 0 ≤ q9) (hto2 : q9 < (s.length : Int)) :
    ∃ (S N : List Int) (B C : Int), spec_l14Apply.f s ns b f t a n tp lm sz p q9 = some (S, N, B, C) ∧ impl_State_apply.f s ns b f t a n tp lm sz p q9 = some (C, B, S, N) ∧ S.length = s.length ∧ N.length = ns.length := by
  have e1 := specMay_f s ns b f t a n tp lm sz p hf hf2 hl ha ha2 h0 h1 h2 h3 h4 h6 h7
  have e2 := implMay_f s ns b f t a n tp lm sz p hf hf2 hl ha ha2 h0 h1 h2 h3 h4 h6 h7
  unfold spec_l14Apply.f impl_State_apply.f
  rw [e1, e2]
  simp only [Option.bind_some]
  rcases mayC_range s ns f a n tp lm sz p with h | h
  · have h5 := mayC_zero h
    rw [h, if_neg (show ¬ (0 : Int) > 0 by omega), if_pos rfl, specCostOf_ok p tp lm sz h0 h1 h2 h3 h4 h5 h6 h7, costOf_f p tp lm sz h0 h1 h2 h3 h4 h5 h6 h7]
    simp only [Option.bind_some]
    rw [if_pos hf, if_pos hf2, if_pos ht, if_pos ht2, if_pos hto, if_pos hto2, if_pos (show f < (ns.length : Int) by omega)]
    rw [if_pos hf, if_pos hf2, if_pos ht, if_pos ht2, if_pos hto, if_pos hto2, if_pos (show f < (ns.length : Int) by omega)]
    exact ⟨_, _, _, _, rfl, rfl, by simp, by simp⟩
  · rw [if_pos h, if_neg (show ¬ mayC s ns f a n tp lm sz p = 0 by omega)]
    exact ⟨_, _, _, _, rfl, rfl, rfl, rfl⟩
theorem own_f (s n : List Int) (b : Int) (hs : s.length ≤ 1000000000) (hn : n.length ≤ 1000000000) : spec_l14Own.f s n b = some (s, n, b) := by
  unfold spec_l14Own.f
  simp only [Option.bind_some, List.nil_append, List.length_nil, Nat.zero_add]
  rw [if_pos (by omega), if_pos (by omega)]
theorem clone_f (s n : List Int) (b : Int) (hs : s.length ≤ 1000000000) (hn : n.length ≤ 1000000000) : impl_cloneState.f s n b = some (s, n, b) := by
  unfold impl_cloneState.f slices_Clone_int_int.f
  simp only [Option.bind_some, List.nil_append, List.length_nil, Nat.zero_add]
  rw [if_pos (by omega)]
  simp only [Option.bind_some]
  rw [if_pos (by omega)]
  rfl
theorem markIntS_l (l : List Int) (a : Int) (ha : 0 ≤ a) (ha2 : a + (l.length : Int) ≤ 4611686018427387904) (d : Nat) : ∀ (k i : Nat), i + d = l.length → d < k →
    laws_markIntS.l0 k (marks a i ++ l.drop i) (a + (i : Int)) (i : Int) = some (a + (l.length : Int), marks a l.length) := by
  induction d with
  | zero =>
    intro k i hi hk
    obtain ⟨k, rfl, _⟩ := succ_of hk
    have e : i = l.length := by omega
    subst e
    simp only [laws_markIntS.l0]
    rw [if_neg (by rw [mark_length a l _ (by omega)]; omega), List.drop_length, List.append_nil]
  | succ d ih =>
    intro k i hi hk
    obtain ⟨k, rfl, hk⟩ := succ_of hk
    have hl : i < l.length := by omega
    simp only [laws_markIntS.l0]
    rw [if_pos (by rw [mark_length a l _ (by omega)]; omega), if_pos (by omega), Int.toNat_natCast, mark_step a l i hl, wrap_succ hl (by unfold maxLen; omega), wrap_id (by omega) (by omega)]
    have := ih k (i + 1) (by omega) (by omega)
    have e : a + ((i + 1 : Nat) : Int) = a + (i : Int) + 1 := by omega
    rw [e] at this
    exact this
theorem markIntS_f (l : List Int) (a : Int) (ha : 0 ≤ a) (ha2 : a + (l.length : Int) ≤ 4611686018427387904) (k : Nat) (hk : l.length < k) : laws_markIntS.f k l a = some (a + (l.length : Int), marks a l.length) := by
  unfold laws_markIntS.f
  have := markIntS_l l a ha ha2 l.length k 0 (by omega) hk
  simpa [marks] using this
theorem markState_f (s n : List Int) (b a : Int) (ha : 0 ≤ a) (ha2 : a + (s.length : Int) + (n.length : Int) ≤ 4611686018427387904) (k : Nat) (hk : s.length < k) (hk2 : n.length < k) :
    laws_markState.f k s n b a = some (a + (s.length : Int) + (n.length : Int), marks a s.length, marks (a + (s.length : Int)) n.length) := by
  unfold laws_markState.f
  rw [markIntS_f s a ha (by omega) k hk]
  simp only [Option.bind_some]
  rw [markIntS_f n (a + (s.length : Int)) (by omega) (by omega) k hk2]
  rfl
theorem heldIntS_l (n : Nat) (a : Int) (ha : 0 ≤ a) (ha2 : a + (n : Int) ≤ 4611686018427387904) (d : Nat) : ∀ (k i : Nat), i + d = n → d < k →
    laws_heldIntS.l0 k (marks a n) (a + (i : Int)) (i : Int) = some (a + (n : Int)) := by
  induction d with
  | zero =>
    intro k i hi hk
    obtain ⟨k, rfl, _⟩ := succ_of hk
    simp only [laws_heldIntS.l0]
    rw [if_neg (by rw [marks_length]; omega)]
    congr 1; omega
  | succ d ih =>
    intro k i hi hk
    obtain ⟨k, rfl, hk⟩ := succ_of hk
    have hl : i < n := by omega
    simp only [laws_heldIntS.l0]
    rw [if_pos (by rw [marks_length]; omega), if_pos (by omega), rd_nat (by rw [marks_length]; exact hl), marks_get a n i hl, if_pos rfl, wrap_succ hl (by unfold maxLen; omega), wrap_id (by omega) (by omega)]
    have := ih k (i + 1) (by omega) (by omega)
    have e : a + ((i + 1 : Nat) : Int) = a + (i : Int) + 1 := by omega
    rw [e] at this
    exact this
theorem heldIntS_f (n : Nat) (a : Int) (ha : 0 ≤ a) (ha2 : a + (n : Int) ≤ 4611686018427387904) (k : Nat) (hk : n < k) : laws_heldIntS.f k (marks a n) a = some (a + (n : Int)) := by
  unfold laws_heldIntS.f
  have := heldIntS_l n a ha ha2 n k 0 (by omega) hk
  simpa using this
theorem heldState_f (s n : Nat) (b a : Int) (ha : 0 ≤ a) (ha2 : a + (s : Int) + (n : Int) ≤ 4611686018427387904) (k : Nat) (hk : s < k) (hk2 : n < k) :
    laws_heldState.f k (marks a s) (marks (a + (s : Int)) n) b a = some (a + (s : Int) + (n : Int)) := by
  unfold laws_heldState.f
  rw [heldIntS_f s a ha (by omega) k hk]
  simp only [Option.bind_some]
  rw [if_neg (by omega), heldIntS_f n (a + (s : Int)) (by omega) (by omega) k hk2]
  simp only [Option.bind_some]
  first
    | rw [if_neg (by omega)]
    | rfl
end FnExactApplyWishLaw
open FnExactApplyWishLaw
theorem same (s n : List Int) (b f t a nn tp lm sz p q9 : Int) (hs : s.length ≤ maxLen) (hn : n.length ≤ maxLen) (k : Nat) (hk : s.length + 1 < k) (hk2 : n.length < k) :
    ∃ (S N : List Int) (B C : Int) (o : Bool), spec_ApplyWish.f k s n b f t a nn tp lm sz p q9 = some (S, N, B, C, o) ∧ impl_ApplyWish.f k s n b f t a nn tp lm sz p q9 = some (S, N, B, C, o) ∧ S.length ≤ 8 ∧ N.length ≤ 8 := by
  unfold spec_ApplyWish.f impl_ApplyWish.f spec_l13Price.f impl_isPrice.f
  rw [specGoodWish_f s n b f t a nn tp lm sz hs hn k (by omega) hk2, implGoodWish_f s n b f t a nn tp lm sz k hk]
  obtain ⟨k, rfl⟩ : ∃ j, k = j + 1 := ⟨k - 1, by omega⟩
  simp only [Option.bind_some, l1In_f, within_f, spec_ApplyWish.j0, impl_ApplyWish.j0]
  cases h : goodStateB s n b
  · exact ⟨_, _, _, _, _, rfl, rfl, by simp, by simp⟩
  · have g := goodState_of h
    cases h2 : goodWishB (s.length : Int) f t a nn tp lm sz
    · exact ⟨_, _, _, _, _, rfl, rfl, by simp, by simp⟩
    · have gw := goodWish_of (m := s.length) (by omega) h2
      unfold maxLen at hs
      simp only [Bool.and_self, if_true, decide_eq_true_eq]
      by_cases h3 : 8 ≤ p ∧ p ≤ 1000000
      · rw [if_pos h3, if_pos h3, wrap_id (by omega) (by omega)]
        by_cases h4 : 0 ≤ q9 ∧ q9 ≤ (s.length : Int) - 1
        · rw [decide_eq_true h4]
          simp only [Bool.not_true, Bool.false_eq_true, if_false]
          obtain ⟨S, N, B, C, e1, e2, e3, e4⟩ := apply_same s n b f t a nn tp lm sz p q9 (by omega) (by omega) (by omega) (by omega) (by omega) (by omega) (by omega) (by omega) (by omega) (by omega) (by omega) (by omega) (by omega) (by omega) (by omega) (by omega)
          rw [own_f s n b (by omega) (by omega), clone_f s n b (by omega) (by omega)]
          simp only [Option.bind_some]
          rw [e1, e2]
          simp only [Option.bind_some]
          rw [own_f S N B (by omega) (by omega)]
          exact ⟨S, N, B, C, true, rfl, rfl, by omega, by omega⟩
        · rw [decide_eq_false h4]
          simp only [Bool.not_false, if_true]
          exact ⟨_, _, _, _, _, rfl, rfl, by simp, by simp⟩
      · rw [if_neg h3, if_neg h3]
        exact ⟨_, _, _, _, _, rfl, rfl, by simp, by simp⟩
theorem FnExactApplyWish : FnExactApplyWishPure := by
  intro s n b f t a nn tp lm sz p q9 hs hn _ _ _ _ _ _ _ _ _ _
  have hsame := fun k => same s n b f t a nn tp lm sz p q9 hs.1 hn.1 k
  obtain ⟨S, N, B, C, o, e1, e2, e3, e4⟩ := hsame (s.length + n.length + 50) (by omega) (by omega)
  have s1 : ∀ k, s.length + n.length + 50 ≤ k → spec_ApplyWish.f k s n b f t a nn tp lm sz p q9 = some (S, N, B, C, o) := fun k hk => mono_le (spec_ApplyWish.mono s n b f t a nn tp lm sz p q9) hk e1
  have s2 : ∀ k, s.length + n.length + 50 ≤ k → impl_ApplyWish.f k s n b f t a nn tp lm sz p q9 = some (S, N, B, C, o) := fun k hk => mono_le (impl_ApplyWish.mono s n b f t a nn tp lm sz p q9) hk e2
  refine ⟨s.length + n.length + 90, ?_⟩
  unfold laws_FnExactApplyWish.f laws_toWish.f
  rw [szState_f s n b 1048576 hs.1 hn.1 (by omega) (by omega)]
  simp only [Option.bind_some]
  by_cases h1 : (1048576 : Int) < (s.length : Int)
  · simp only [if_pos h1]; rw [if_pos (by omega)]
  · simp only [if_neg h1]
    by_cases h2 : (1048576 : Int) - (s.length : Int) < (n.length : Int)
    · simp only [if_pos h2]; rw [if_pos (by omega)]
    · simp only [if_neg h2]
      rw [if_neg (by omega), toState_f s n b (by omega) (by omega) _ (by omega) (by omega)]
      simp only [Option.bind_some]
      rw [s1 _ (by omega), s2 _ (by omega)]
      simp only [Option.bind_some, bne_self_eq_false]
      rw [eqState_f S N B (by omega) (by omega) _ (by omega) (by omega)]
      simp only [Option.bind_some, if_true, laws_FnExactApplyWish.j0, Bool.false_eq_true, if_false]
      rw [toState_f s n b (by omega) (by omega) _ (by omega) (by omega)]
      simp only [Option.bind_some]
      rw [eqState_f s n b (by omega) (by omega) _ (by omega) (by omega)]
      simp only [Option.bind_some, if_true]
      rw [markState_f s n b 1 (by omega) (by omega) _ (by omega) (by omega)]
      simp only [Option.bind_some]
      rw [if_neg (by omega), eqState_f S N B (by omega) (by omega) _ (by omega) (by omega)]
      simp only [Option.bind_some, if_true, bne_self_eq_false, laws_FnExactApplyWish.j1, Bool.false_eq_true, if_false]
      rw [markState_f S N B 1 (by omega) (by omega) _ (by omega) (by omega)]
      simp only [Option.bind_some]
      rw [heldState_f S.length N.length B 1 (by omega) (by omega) _ (by omega) (by omega)]
      simp only [Option.bind_some]
      rw [if_neg (by omega)]
      simp only [if_true]
      rw [toState_f s n b (by omega) (by omega) _ (by omega) (by omega)]
      simp only [Option.bind_some, laws_toWish.f]
      rw [s2 _ (by omega)]
      simp only [Option.bind_some]
      rw [eqState_f S N B (by omega) (by omega) _ (by omega) (by omega)]
      simp only [Option.bind_some, if_true, bne_self_eq_false, laws_FnExactApplyWish.j2, Bool.false_eq_true, if_false]
      rw [heldState_f S.length N.length B 1 (by omega) (by omega) _ (by omega) (by omega)]
      simp only [Option.bind_some]
      rw [if_neg (by omega)]
      simp
end Go.Proofs.Ytiggokojffejeaa.Pure
