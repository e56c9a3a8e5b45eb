/- AddWish of the program and of the reference return the same, in new memory, for every state, list of transactions and transaction; no condition. -/
import Derived.Test.YthalkdcpfiobkaaDefFnExactAddWish
import Derived.Test.YthalkdcpfiobkaaPx
import Derived.Test.YthalkdcpfiobkaaOv
namespace Go.Proofs.Ythalkdcpfiobkaa.Pure
open Go.RowKit Go.Proofs.Ythalkdcpfiobkaa.PFnExactAddWish Go.Proofs.YthalkdcpfiobkaaW.PrintWords Go.Proofs.YthalkdcpfiobkaaW.PrintLast Go.Proofs.YthalkdcpfiobkaaW.PrintMore Go.Proofs.Ythalkdcpfiobkaa.Px Go.Proofs.Ythalkdcpfiobkaa.Ov
namespace FnExactAddWishLaw
theorem toIntS_l (l : List Int) (hm : l.length ≤ maxLen) (d : Nat) : ∀ (k i : Nat), i + d = l.length → d < k →
    laws_toIntS.l0 k l (l.take i ++ List.replicate (l.length - i) 0) (i : Int) = some l := by
  induction d with
  | zero =>
    intro k i hi hk
    obtain ⟨k, rfl, _⟩ := succ_of hk
    have e : i = l.length := by omega
    subst e
    simp only [laws_toIntS.l0]
    rw [if_neg (by omega)]
    simp
  | succ d ih =>
    intro k i hi hk
    obtain ⟨k, rfl, hk⟩ := succ_of hk
    have hl : i < l.length := by omega
    simp only [laws_toIntS.l0]
    rw [if_pos (by omega), if_pos (by omega), if_pos (by rw [length_step _ _ _ (by omega)]; omega), rd_nat hl, Int.toNat_natCast, set_step l 0 i hl, wrap_succ hl hm]
    exact ih k (i + 1) (by omega) (by omega)
theorem toIntS_f (l : List Int) (hm : l.length ≤ 35184372088832) (k : Nat) (hk : l.length < k) : laws_toIntS.f k l = some l := by
  unfold laws_toIntS.f
  rw [if_pos (by omega), if_pos (by simpa using hm), Int.toNat_natCast]
  simpa using toIntS_l l (by unfold maxLen; omega) l.length k 0 (by omega) hk
theorem toState_f (s n : List Int) (b : Int) (hs : s.length ≤ 35184372088832) (hn : n.length ≤ 35184372088832) (k : Nat) (hk : s.length < k) (hk2 : n.length < k) : laws_toState.f k s n b = some (s, n, b) := by
  unfold laws_toState.f
  rw [toIntS_f s hs k hk, toIntS_f n hn k hk2]; rfl
theorem eqIntS_l (a : List Int) (hm : a.length ≤ maxLen) (d : Nat) : ∀ (k i : Nat), i + d = a.length → d < k →
    laws_eqIntS.l0 k a a (i : Int) = some true := by
  induction d with
  | zero =>
    intro k i hi hk
    obtain ⟨k, rfl, _⟩ := succ_of hk
    simp only [laws_eqIntS.l0]
    rw [if_neg (by omega)]
  | succ d ih =>
    intro k i hi hk
    obtain ⟨k, rfl, hk⟩ := succ_of hk
    have hl : i < a.length := by omega
    simp only [laws_eqIntS.l0]
    rw [if_pos (by omega), if_pos (by omega), if_pos (by omega)]
    simp only [if_true]
    rw [wrap_succ hl hm]
    exact ih k (i + 1) (by omega) (by omega)
theorem eqIntS_f (a : List Int) (hm : a.length ≤ maxLen) (k : Nat) (hk : a.length < k) : laws_eqIntS.f k a a = some true := by
  unfold laws_eqIntS.f
  rw [if_pos rfl]
  exact eqIntS_l a hm a.length k 0 (by omega) hk
theorem eqState_f (s n : List Int) (b : Int) (hs : s.length ≤ 35184372088832) (hn : n.length ≤ 35184372088832) (k : Nat) (hk : s.length < k) (hk2 : n.length < k) : laws_eqState.f k s n b s n b = some true := by
  unfold laws_eqState.f
  rw [eqIntS_f s (by unfold maxLen; omega) k hk, eqIntS_f n (by unfold maxLen; omega) k hk2]; simp
theorem szIntS_f (l : List Int) (a : Int) (h : l.length ≤ maxLen) (h0 : 0 ≤ a) (h1 : a ≤ 1048576) : laws_szIntS.f l a = some (if a < (l.length : Int) then -1 else a - (l.length : Int)) := by
  unfold laws_szIntS.f
  unfold maxLen at h
  rw [wrap_id (by omega) (by omega)]
  by_cases h2 : a < (l.length : Int)
  · rw [if_pos (by omega), if_pos h2]
  · rw [if_neg (by omega), if_neg h2]
theorem szState_f (s n : List Int) (b a : Int) (hs : s.length ≤ maxLen) (hn : n.length ≤ maxLen) (h0 : 0 ≤ a) (h1 : a ≤ 1048576) :
    laws_szState.f s n b a = some (if a < (s.length : Int) then -1 else if a - (s.length : Int) < (n.length : Int) then -1 else a - (s.length : Int) - (n.length : Int)) := by
  unfold laws_szState.f
  rw [szIntS_f s a hs h0 h1]
  simp only [Option.bind_some]
  by_cases h2 : a < (s.length : Int)
  · simp only [if_pos h2]
    rw [if_pos (by omega)]
  · simp only [if_neg h2]
    rw [if_neg (by omega), szIntS_f n _ hn (by omega) (by omega)]
    simp only [Option.bind_some]
    by_cases h3 : a - (s.length : Int) < (n.length : Int)
    · simp only [if_pos h3]
      rw [if_pos (by omega)]
    · simp only [if_neg h3]
      rw [if_neg (by omega)]
def cvWish (x : S46) : S49 := ⟨x.f0, x.f1, x.f2, x.f3, x.f4, x.f5, x.f6⟩
theorem toWishS_l (l : List S46) (hm : l.length ≤ maxLen) (d : Nat) : ∀ (k i : Nat), i + d = l.length → d < k →
    laws_toWishS.l0 k l ((l.map cvWish).take i ++ List.replicate ((l.map cvWish).length - i) z49) (i : Int) = some (l.map cvWish) := by
  induction d with
  | zero =>
    intro k i hi hk
    obtain ⟨k, rfl, _⟩ := succ_of hk
    have e : i = (l.map cvWish).length := by rw [List.length_map]; omega
    simp only [laws_toWishS.l0]
    rw [if_neg (by omega), e, List.take_length, Nat.sub_self, List.replicate_zero, List.append_nil]
  | succ d ih =>
    intro k i hi hk
    obtain ⟨k, rfl, hk⟩ := succ_of hk
    have hl : i < l.length := by omega
    have hl2 : i < (l.map cvWish).length := by rw [List.length_map]; omega
    simp only [laws_toWishS.l0, laws_toWish.f, Option.bind_some]
    rw [if_pos (by omega), if_pos (by omega), if_pos (by rw [length_step _ _ _ (by omega)]; omega), Int.toNat_natCast]
    have e : (⟨(rd_T46 l i).f0, (rd_T46 l i).f1, (rd_T46 l i).f2, (rd_T46 l i).f3, (rd_T46 l i).f4, (rd_T46 l i).f5, (rd_T46 l i).f6⟩ : S49) = (l.map cvWish)[i] := by
      rw [List.getElem_map]; unfold rd_T46 cvWish; rw [getD_nat hl]
    rw [e, set_step _ _ i hl2, wrap_succ hl hm]
    exact ih k (i + 1) (by omega) (by omega)
theorem toWishS_f (l : List S46) (hm : l.length ≤ 1048576) (k : Nat) (hk : l.length < k) : laws_toWishS.f k l = some (l.map cvWish) := by
  unfold laws_toWishS.f
  rw [if_pos (by omega), if_pos (by simp; omega), Int.toNat_natCast]
  have := toWishS_l l (by unfold maxLen; omega) l.length k 0 (by omega) hk
  simpa using this
theorem szWishS_f (l : List S46) (a : Int) (h : l.length ≤ maxLen) (h0 : 0 ≤ a) (h1 : a ≤ 1048576) : laws_szWishS.f l a = some (if a < (l.length : Int) then -1 else a - (l.length : Int)) := by
  unfold laws_szWishS.f
  unfold maxLen at h
  rw [wrap_id (by omega) (by omega)]
  by_cases h2 : a < (l.length : Int)
  · rw [if_pos (by omega), if_pos h2]
  · rw [if_neg (by omega), if_neg h2]
theorem eqWishS_l (a : List S49) (hm : a.length ≤ maxLen) (d : Nat) : ∀ (k i : Nat), i + d = a.length → d < k →
    laws_eqWishS.l0 k a a (i : Int) = some true := by
  induction d with
  | zero =>
    intro k i hi hk
    obtain ⟨k, rfl, _⟩ := succ_of hk
    simp only [laws_eqWishS.l0]
    rw [if_neg (by omega)]
  | succ d ih =>
    intro k i hi hk
    obtain ⟨k, rfl, hk⟩ := succ_of hk
    have hl : i < a.length := by omega
    simp only [laws_eqWishS.l0]
    rw [if_pos (by omega), if_pos (by omega), if_pos (by omega)]
    simp only [laws_eqWish.f, if_true, Option.bind_some]
    rw [wrap_succ hl hm]
    exact ih k (i + 1) (by omega) (by omega)
theorem eqWishS_f (a : List S49) (hm : a.length ≤ maxLen) (k : Nat) (hk : a.length < k) : laws_eqWishS.f k a a = some true := by
  unfold laws_eqWishS.f
  rw [if_pos rfl]
  exact eqWishS_l a hm a.length k 0 (by omega) hk
theorem l1In_f (a b c : Int) : spec_l1In.f a b c = some (decide (b ≤ a ∧ a ≤ c)) := by
  unfold spec_l1In.f
  by_cases h : b ≤ a <;> simp [h]
theorem within_f (a b c : Int) : impl_within.f a b c = some (decide (b ≤ a ∧ a ≤ c)) := rfl
def goodWishB (m : Int) (f t a n tp lm sz : Int) : Bool := decide (0 ≤ f ∧ f ≤ wrap64 (m - 1)) && (decide (0 ≤ t ∧ t ≤ wrap64 (m - 1)) && (decide (0 ≤ a ∧ a ≤ 1000000000) && (decide (0 ≤ n ∧ n ≤ 1000) && (decide (0 ≤ tp ∧ tp ≤ 1000000) && (decide (0 ≤ lm ∧ lm ≤ 1000000) && decide (1 ≤ sz ∧ sz ≤ 80))))))
theorem and_chain {p : Bool} {q : Bool} {x : Option Bool} (h : x = some q) : (if p = true then x else some false) = some (p && q) := by
  cases p <;> simp [h]
theorem l14Wish_f (m f t a n tp lm sz : Int) : spec_l14Wish.f m f t a n tp lm sz = some (goodWishB m f t a n tp lm sz) := by
  unfold spec_l14Wish.f goodWishB
  simp only [l1In_f, Option.bind_some]
  exact and_chain (and_chain (and_chain (and_chain (and_chain (and_chain rfl)))))
theorem isWish_f (s ns : List Int) (b f t a n tp lm sz : Int) : impl_isWish.f s ns b f t a n tp lm sz = some (goodWishB (s.length : Int) f t a n tp lm sz) := by
  unfold impl_isWish.f goodWishB impl_isFee.f impl_isUsed.f
  simp only [within_f, Option.bind_some]
  exact and_chain (and_chain (and_chain (and_chain (and_chain (and_chain rfl)))))
theorem goodWish_of {m : Nat} {f t a n tp lm sz : Int} (hm : m ≤ 8) (h : goodWishB (m : Int) f t a n tp lm sz = true) :
    0 ≤ f ∧ f < (m : Int) ∧ 0 ≤ t ∧ t < (m : Int) ∧ 0 ≤ a ∧ a ≤ 1000000000 ∧ 0 ≤ n ∧ n ≤ 1000 ∧ 0 ≤ tp ∧ tp ≤ 1000000 ∧ 0 ≤ lm ∧ lm ≤ 1000000 ∧ 1 ≤ sz ∧ sz ≤ 80 := by
  unfold goodWishB at h
  rw [wrap_id (by omega) (by omega)] at h
  simp only [Bool.and_eq_true, decide_eq_true_eq] at h
  omega
theorem l1All_l (l : List Int) (a b : Int) (hm : l.length ≤ maxLen) (d : Nat) : ∀ (k i : Nat), i + d = l.length → d < k →
    spec_l1All.l0 k a b l (l.length : Int) (i : Int) = some ((l.drop i).all fun n => decide (a ≤ n ∧ n ≤ b)) := by
  induction d with
  | zero =>
    intro k i hi hk
    obtain ⟨k, rfl, _⟩ := succ_of hk
    simp only [spec_l1All.l0]
    rw [if_neg (by omega), List.drop_of_length_le (by omega)]; rfl
  | succ d ih =>
    intro k i hi hk
    obtain ⟨k, rfl, hk⟩ := succ_of hk
    have hl : i < l.length := by omega
    simp only [spec_l1All.l0]
    rw [if_pos (by omega), if_pos (by omega), if_pos (by omega), rd_nat hl, l1In_f, all_drop _ l i hl, wrap_succ hl hm]
    simp only [Option.bind_some]
    rw [ih k (i + 1) (by omega) (by omega)]
    cases decide (a ≤ l[i] ∧ l[i] ≤ b) <;> simp
theorem l1All_f (l : List Int) (a b : Int) (hm : l.length ≤ maxLen) (k : Nat) (hk : l.length < k) : spec_l1All.f k l a b = some (l.all fun n => decide (a ≤ n ∧ n ≤ b)) := by
  unfold spec_l1All.f
  simpa using l1All_l l a b hm l.length k 0 (by omega) hk
theorem l1Sum_l (l : List Int) (hm : l.length ≤ maxLen) (B : Int) (hB : 0 ≤ B) (h0 : ∀ x ∈ l, 0 ≤ x ∧ x ≤ B) (hs : B * (l.length : Int) ≤ 4611686018427387904) (d : Nat) : ∀ (k i : Nat) (s : Int), i + d = l.length → d < k →
    0 ≤ s → s ≤ B * (i : Int) → spec_l1Sum.l0 k s l (l.length : Int) (i : Int) = some (s + (l.drop i).sum) := by
  induction d with
  | zero =>
    intro k i s hi hk _ _
    obtain ⟨k, rfl, _⟩ := succ_of hk
    simp only [spec_l1Sum.l0]
    rw [if_neg (by omega), List.drop_of_length_le (by omega)]; simp
  | succ d ih =>
    intro k i s hi hk s0 s1
    obtain ⟨k, rfl, hk⟩ := succ_of hk
    have hl : i < l.length := by omega
    simp only [spec_l1Sum.l0]
    have hx := h0 l[i] (List.getElem_mem hl)
    have hi1 : B * ((i + 1 : Nat) : Int) = B * (i : Int) + B := by rw [Int.natCast_add, Int.mul_add]; simp
    have hi2 : B * ((i + 1 : Nat) : Int) ≤ B * (l.length : Int) := Int.mul_le_mul_of_nonneg_left (by omega) hB
    rw [if_pos (by omega), if_pos (by omega), if_pos (by omega), rd_nat hl, wrap_succ hl hm, wrap_id (by omega) (by omega), ih k (i + 1) (s + l[i]) (by omega) (by omega) (by omega) (by omega), sum_drop l i hl]
    congr 1; omega
theorem l1Sum_f (l : List Int) (B : Int) (hB : 0 ≤ B) (h0 : ∀ x ∈ l, 0 ≤ x ∧ x ≤ B) (hm : l.length ≤ maxLen) (hs : B * (l.length : Int) ≤ 4611686018427387904) (k : Nat) (hk : l.length < k) : spec_l1Sum.f k l = some l.sum := by
  unfold spec_l1Sum.f
  have := l1Sum_l l hm B hB h0 hs l.length k 0 0 (by omega) hk (by omega) (by simp)
  simpa using this
def goodStateB (s n : List Int) (b : Int) : Bool := decide (1 ≤ s.length ∧ s.length ≤ 8) && (decide (n.length = s.length) && ((s.all fun x => decide (0 ≤ x ∧ x ≤ 1000000000)) && ((n.all fun x => decide (0 ≤ x ∧ x ≤ 1000)) && (decide (0 ≤ b ∧ b ≤ 1000000000) && decide (s.sum + b ≤ 1000000000)))))
theorem specGoodState_f (s n : List Int) (b : Int) (hs : s.length ≤ maxLen) (hn : n.length ≤ maxLen) (k : Nat) (hk : s.length < k) (hk2 : n.length < k) : spec_GoodState.f k s n b = some (goodStateB s n b) := by
  unfold spec_GoodState.f goodStateB
  rw [l1In_f]
  simp only [Option.bind_some, decide_eq_true_eq]
  by_cases h1 : (1 : Int) ≤ (s.length : Int) ∧ (s.length : Int) ≤ 8
  · rw [if_pos h1, decide_eq_true (show 1 ≤ s.length ∧ s.length ≤ 8 by omega)]
    by_cases h2 : (n.length : Int) = (s.length : Int)
    · rw [if_pos h2, decide_eq_true (show n.length = s.length by omega), l1All_f s _ _ hs k hk]
      simp only [Option.bind_some, Bool.true_and]
      cases h3 : s.all fun x => decide ((0 : Int) ≤ x ∧ x ≤ 1000000000)
      · simp
      · simp only [if_true, Bool.true_and]
        rw [l1All_f n _ _ hn k hk2]
        simp only [Option.bind_some]
        cases h4 : n.all fun x => decide ((0 : Int) ≤ x ∧ x ≤ 1000)
        · simp
        · simp only [if_true, Bool.true_and]
          rw [l1In_f]
          simp only [Option.bind_some, decide_eq_true_eq]
          have hb0 : ∀ x ∈ s, 0 ≤ x ∧ x ≤ 1000000000 := fun x hx => of_decide_eq_true (of_all h3 x hx)
          have hsum := sum_le (l := s) (b := 1000000000) (fun x hx => (hb0 x hx).2)
          have hsum0 := sum_nonneg (l := s) (fun x hx => (hb0 x hx).1)
          by_cases h5 : 0 ≤ b ∧ b ≤ 1000000000
          · rw [if_pos h5, decide_eq_true h5, l1Sum_f s 1000000000 (by omega) hb0 hs (by omega) k hk]
            simp only [Option.bind_some, Bool.true_and]
            rw [wrap_id (by omega) (by omega)]
          · rw [if_neg h5, decide_eq_false h5]; simp
    · rw [if_neg h2, decide_eq_false (show ¬ n.length = s.length by omega)]; simp
  · rw [if_neg h1, decide_eq_false (show ¬ (1 ≤ s.length ∧ s.length ≤ 8) by omega)]; simp
theorem goodState_of {s n : List Int} {b : Int} (h : goodStateB s n b = true) :
    1 ≤ s.length ∧ s.length ≤ 8 ∧ n.length = s.length ∧ (∀ x ∈ s, 0 ≤ x ∧ x ≤ 1000000000) ∧ (∀ x ∈ n, 0 ≤ x ∧ x ≤ 1000) ∧ 0 ≤ b ∧ b ≤ 1000000000 ∧ s.sum + b ≤ 1000000000 := by
  unfold goodStateB at h
  simp only [Bool.and_eq_true, decide_eq_true_eq, List.all_eq_true] at h
  obtain ⟨⟨h1, h2⟩, h3, h4, h5, ⟨h6, h7⟩, h8⟩ := h
  exact ⟨h1, h2, h3, h4, h5, h6, h7, h8⟩
theorem specGoodWish_f (s ns : List Int) (b f t a n tp lm sz : Int) (hs : s.length ≤ maxLen) (hn : ns.length ≤ maxLen) (k : Nat) (hk : s.length < k) (hk2 : ns.length < k) :
    spec_GoodWish.f k s ns b f t a n tp lm sz = some (goodStateB s ns b && goodWishB (s.length : Int) f t a n tp lm sz) := by
  unfold spec_GoodWish.f
  rw [specGoodState_f s ns b hs hn k hk hk2]
  simp only [Option.bind_some, l14Wish_f]
  exact and_chain rfl
theorem isState_l (s n : List Int) (b : Int) (h8 : s.length ≤ 8) (hn : n.length = s.length) (d : Nat) : ∀ (k i : Nat) (t : Int), i + d = s.length → d < k → 0 ≤ t → t ≤ 1000000000 * ((i : Int) + 1) →
    impl_isState.l0 k t s (s.length : Int) (i : Int) s n b = some (((s.drop i).all fun x => decide (0 ≤ x ∧ x ≤ 1000000000)) && (((n.drop i).all fun x => decide (0 ≤ x ∧ x ≤ 1000)) && decide ((s.drop i).sum + t ≤ 1000000000))) := by
  induction d with
  | zero =>
    intro k i t hi hk _ _
    obtain ⟨k, rfl, _⟩ := succ_of hk
    simp only [impl_isState.l0]
    rw [if_neg (by omega), List.drop_of_length_le (by omega), List.drop_of_length_le (by omega)]; simp
  | succ d ih =>
    intro k i t hi hk t0 t1
    obtain ⟨k, rfl, hk⟩ := succ_of hk
    have hl : i < s.length := by omega
    have hl2 : i < n.length := by omega
    simp only [impl_isState.l0]
    rw [if_pos (by omega), if_pos (by omega), if_pos (by omega), rd_nat hl, within_f, all_drop _ s i hl, all_drop _ n i hl2, sum_drop s i hl]
    simp only [Option.bind_some, decide_eq_true_eq]
    by_cases h1 : 0 ≤ s[i] ∧ s[i] ≤ 1000000000
    · rw [if_pos h1, if_pos (by omega), rd_nat hl2, within_f, decide_eq_true h1]
      simp only [Option.bind_some, decide_eq_true_eq, Bool.true_and]
      by_cases h2 : 0 ≤ n[i] ∧ n[i] ≤ 1000
      · rw [if_pos h2, decide_eq_true h2, wrap_succ hl (by unfold maxLen; omega), wrap_id (by omega) (by omega), ih k (i + 1) (t + s[i]) (by omega) (by omega) (by omega) (by omega)]
        simp only [Bool.true_and]
        have e : (List.drop (i + 1) s).sum + (t + s[i]) = s[i] + (List.drop (i + 1) s).sum + t := by omega
        rw [e]
      · rw [if_neg h2, decide_eq_false h2]; simp
    · rw [if_neg h1, decide_eq_false h1]; simp
theorem isState_f (s n : List Int) (b : Int) (k : Nat) (hk : s.length + 1 < k) : impl_isState.f k s n b = some (goodStateB s n b) := by
  unfold impl_isState.f goodStateB
  obtain ⟨k, rfl, hk⟩ := succ_of hk
  rw [within_f]
  simp only [Option.bind_some, decide_eq_true_eq]
  by_cases h1 : (1 : Int) ≤ (s.length : Int) ∧ (s.length : Int) ≤ 8
  · rw [if_pos h1, decide_eq_true (show 1 ≤ s.length ∧ s.length ≤ 8 by omega)]
    by_cases h2 : (n.length : Int) = (s.length : Int)
    · rw [if_pos h2, decide_eq_true (show n.length = s.length by omega), within_f]
      simp only [Option.bind_some, Bool.true_and, impl_isState.j0]
      by_cases h5 : 0 ≤ b ∧ b ≤ 1000000000
      · rw [if_neg (by simp [h5]), decide_eq_true h5]
        have := isState_l s n b (by omega) (by omega) s.length k 0 b (by omega) (by omega) h5.1 (by omega)
        simpa using this
      · rw [if_pos (by simp; omega), decide_eq_false h5]; simp
    · rw [if_neg h2, decide_eq_false (show ¬ n.length = s.length by omega)]; simp [impl_isState.j0]
  · rw [if_neg h1, decide_eq_false (show ¬ (1 ≤ s.length ∧ s.length ≤ 8) by omega)]; simp [impl_isState.j0]
def wgood (s ns : List Int) (b : Int) (x : S49) : Bool := goodStateB s ns b && goodWishB (s.length : Int) x.f0 x.f1 x.f2 x.f3 x.f4 x.f5 x.f6
def wpair (w x : S49) : Bool := decide (x.f0 = w.f0 ∧ x.f3 = w.f3)
def noDup (l : List S49) : Nat → Nat → Bool
  | 0, _ => true
  | d + 1, i => (match l[i]? with | some w => !((l.take i).any (wpair w)) | none => true) && noDup l d (i + 1)
theorem noDup_succ (l : List S49) (d i : Nat) (h : i < l.length) : noDup l (d + 1) i = (!((l.take i).any (wpair l[i])) && noDup l d (i + 1)) := by
  simp only [noDup, List.getElem?_eq_getElem h]
theorem find_lt {α : Type} (p : α → Bool) : ∀ (l : List α) (i k : Nat) (h : i < l.length), p l[i] = true → (findFrom p l k < (k : Int) + (i : Int) ↔ (l.take i).any p = true)
  | [], i, k, h, _ => by simp at h
  | x :: r, 0, k, h, hp => by
    have hx : p x = true := hp
    simp [findFrom, hx]
  | x :: r, i + 1, k, h, hp => by
    have hi : i < r.length := by simpa using h
    have hp' : p r[i] = true := hp
    have ih := find_lt p r i (k + 1) hi hp'
    unfold findFrom
    rw [List.take_succ_cons, List.any_cons]
    cases hx : p x
    · simp only [Bool.false_eq_true, if_false, Bool.false_or]
      rw [← ih]
      constructor <;> intro h <;> omega
    · simp only [if_true, Bool.true_or, iff_true]; omega
theorem rdW (l : List S49) (i : Nat) (h : i < l.length) : rd_T49 l (i : Int) = l[i] := by unfold rd_T49; exact getD_nat h
theorem specInner (s ns : List Int) (b : Int) (l z y : List S49) (n i : Int) (w : S49) (hm : y.length ≤ maxLen) (d : Nat) : ∀ (k j : Nat), j + d = y.length →
    spec_GoodWishes.l1 (k + d + 1) l z n i y (y.length : Int) (j : Int) s ns b w.f0 w.f1 w.f2 w.f3 w.f4 w.f5 w.f6 = if (y.drop j).any (wpair w) = true then some false else spec_GoodWishes.l0 k l z n (wrap64 (i + 1)) s ns b := by
  induction d with
  | zero =>
    intro k j hj
    simp only [spec_GoodWishes.l1]
    rw [if_neg (by omega), List.drop_of_length_le (by omega)]; simp
  | succ d ih =>
    intro k j hj
    have hl : j < y.length := by omega
    have e0 : k + (d + 1) + 1 = (k + d + 1) + 1 := by omega
    have ihj := ih k (j + 1) (by omega)
    rw [e0]
    generalize k + d + 1 = K at ihj ⊢
    simp only [spec_GoodWishes.l1]
    rw [if_pos (by omega), if_pos (by omega), if_pos (by omega), rdW y j hl, List.drop_eq_getElem_cons hl, List.any_cons, wrap_succ hl hm]
    have e : wpair w y[j] = decide (y[j].f0 = w.f0 ∧ y[j].f3 = w.f3) := rfl
    by_cases h1 : y[j].f0 = w.f0
    · rw [if_pos h1]
      by_cases h2 : y[j].f3 = w.f3
      · rw [if_pos h2, e, decide_eq_true ⟨h1, h2⟩]; simp
      · rw [if_neg h2, e, decide_eq_false (fun h => h2 h.2), ihj]; simp
    · rw [if_neg h1, e, decide_eq_false (fun h => h1 h.1), ihj]; simp
theorem specPool_l (s ns : List Int) (b : Int) (l : List S49) (hs : s.length ≤ maxLen) (hn : ns.length ≤ maxLen) (hm : l.length ≤ maxLen) (d : Nat) : ∀ (k i : Nat), i + d = l.length → s.length + ns.length + (d + 1) * (l.length + 2) < k →
    spec_GoodWishes.l0 k l l (l.length : Int) (i : Int) s ns b = some (((l.drop i).all (wgood s ns b) && noDup l d i) && (goodStateB s ns b && decide (l.length ≤ 20))) := by
  induction d with
  | zero =>
    intro k i hi hk
    obtain ⟨k, rfl, hk⟩ := succ_of hk
    simp only [spec_GoodWishes.l0]
    rw [if_neg (by omega), specGoodState_f s ns b hs hn k (by omega) (by omega), List.drop_of_length_le (by omega)]
    simp only [Option.bind_some, List.all_nil, noDup, Bool.true_and]
    have e : decide ((l.length : Int) ≤ 20) = decide (l.length ≤ 20) := decide_eq_decide.2 (by omega)
    rw [e]
    cases goodStateB s ns b <;> simp
  | succ d ih =>
    intro k i hi hk
    obtain ⟨k, rfl, hk⟩ := succ_of hk
    have hl : i < l.length := by omega
    have e1 : (d + 1 + 1) * (l.length + 2) = (d + 1) * (l.length + 2) + (l.length + 2) := by rw [Nat.add_mul (d + 1) 1, Nat.one_mul]
    simp only [spec_GoodWishes.l0]
    rw [if_pos (by omega), if_pos (by omega), if_pos (by omega), rdW l i hl, specGoodWish_f _ _ _ _ _ _ _ _ _ _ hs hn k (by omega) (by omega), all_drop _ l i hl, noDup_succ l d i hl]
    have ew : (goodStateB s ns b && goodWishB (s.length : Int) l[i].f0 l[i].f1 l[i].f2 l[i].f3 l[i].f4 l[i].f5 l[i].f6) = wgood s ns b l[i] := rfl
    rw [ew]
    simp only [Option.bind_some]
    cases hg : wgood s ns b l[i]
    · simp
    · simp only [if_true, Bool.true_and]
      rw [if_pos (by omega), Int.toNat_natCast]
      have hy : (l.take i).length = i := by rw [List.length_take]; omega
      obtain ⟨k', rfl⟩ : ∃ k', k = k' + i + 1 := ⟨k - i - 1, by omega⟩
      have := specInner s ns b l l (l.take i) (l.length : Int) (i : Int) l[i] (by omega) i k' 0 (by omega)
      rw [hy] at this
      simp only [Int.natCast_zero, List.drop_zero] at this
      rw [hy, this, wrap_succ hl hm, ih k' (i + 1) (by omega) (by omega)]
      cases (l.take i).any (wpair l[i]) <;> simp
theorem implPool_l (l : List S49) (hm : l.length ≤ maxLen) (d : Nat) : ∀ (k i : Nat), i + d = l.length → d < k →
    impl_arePool.l0 k l l (l.length : Int) (i : Int) = some (noDup l d i) := by
  induction d with
  | zero =>
    intro k i hi hk
    obtain ⟨k, rfl, hk⟩ := succ_of hk
    simp only [impl_arePool.l0, noDup]
    rw [if_neg (by omega)]
  | succ d ih =>
    intro k i hi hk
    obtain ⟨k, rfl, hk⟩ := succ_of hk
    have hl : i < l.length := by omega
    simp only [impl_arePool.l0, impl_wishIndex.f, Option.bind_some]
    rw [if_pos (by omega), if_pos (by omega), if_pos (by omega), rdW l i hl, noDup_succ l d i hl, wrap_succ hl hm, ih k (i + 1) (by omega) (by omega)]
    have hf := find_lt (wpair l[i]) l i 0 hl (by simp [wpair])
    simp only [Int.natCast_zero, Int.zero_add] at hf
    have ef : findFrom (fun x => decide (x.f0 = l[i].f0 ∧ x.f3 = l[i].f3)) l 0 = findFrom (wpair l[i]) l 0 := rfl
    rw [ef]
    by_cases h : (l.take i).any (wpair l[i]) = true
    · rw [if_pos (hf.2 h), h]; simp
    · rw [if_neg (fun hh => h (hf.1 hh))]
      have : (l.take i).any (wpair l[i]) = false := by simpa using h
      rw [this]; simp
def poolB (s ns : List Int) (b : Int) (l : List S49) : Bool := goodStateB s ns b && (decide (l.length ≤ 20) && ((l.all fun x => goodWishB (s.length : Int) x.f0 x.f1 x.f2 x.f3 x.f4 x.f5 x.f6) && noDup l l.length 0))
theorem specPool_f (s ns : List Int) (b : Int) (l : List S49) (hs : s.length ≤ maxLen) (hn : ns.length ≤ maxLen) (hm : l.length ≤ maxLen) (k : Nat) (hk : s.length + ns.length + (l.length + 1) * (l.length + 2) < k) :
    spec_GoodWishes.f k s ns b l = some (poolB s ns b l) := by
  unfold spec_GoodWishes.f
  have := specPool_l s ns b l hs hn hm l.length k 0 (by omega) hk
  simp only [Int.natCast_zero, List.drop_zero] at this
  rw [this]
  unfold poolB wgood
  congr 1
  cases goodStateB s ns b
  · simp
  · simp only [Bool.true_and]
    cases (l.all fun x => goodWishB (s.length : Int) x.f0 x.f1 x.f2 x.f3 x.f4 x.f5 x.f6) <;> cases noDup l l.length 0 <;> cases decide (l.length ≤ 20) <;> rfl
theorem implAreWishes_f (s ns : List Int) (b : Int) (l : List S49) : impl_areWishes.f s ns b l = some (l.all fun x => goodWishB (s.length : Int) x.f0 x.f1 x.f2 x.f3 x.f4 x.f5 x.f6) := by
  unfold impl_areWishes.f
  exact notContainsO_total _ (fun x => goodWishB (s.length : Int) x.f0 x.f1 x.f2 x.f3 x.f4 x.f5 x.f6) l (fun x _ => isWish_f s ns b x.f0 x.f1 x.f2 x.f3 x.f4 x.f5 x.f6)
theorem arePool_f (s ns : List Int) (b : Int) (l : List S49) (hm : l.length ≤ maxLen) (k : Nat) (hk : s.length + l.length + 2 < k) :
    impl_arePool.f k s ns b l = some (poolB s ns b l) := by
  unfold impl_arePool.f poolB
  rw [isState_f s ns b k (by omega)]
  obtain ⟨k, rfl, hk⟩ := succ_of hk
  simp only [Option.bind_some, impl_arePool.j0]
  cases goodStateB s ns b
  · simp
  · simp only [if_true, Bool.true_and]
    by_cases h : (l.length : Int) > 20
    · rw [if_pos h, decide_eq_false (show ¬ l.length ≤ 20 by omega)]; simp
    · rw [if_neg h, decide_eq_true (show l.length ≤ 20 by omega), implAreWishes_f]
      simp only [Option.bind_some, Bool.true_and]
      cases l.all fun x => goodWishB (s.length : Int) x.f0 x.f1 x.f2 x.f3 x.f4 x.f5 x.f6
      · simp
      · have := implPool_l l hm l.length k 0 (by omega) (by omega)
        simpa using this
theorem poolB_of {s ns : List Int} {b : Int} {l : List S49} (h : poolB s ns b l = true) :
    goodStateB s ns b = true ∧ l.length ≤ 20 ∧ (∀ x ∈ l, goodWishB (s.length : Int) x.f0 x.f1 x.f2 x.f3 x.f4 x.f5 x.f6 = true) ∧ noDup l l.length 0 = true := by
  unfold poolB at h
  simp only [Bool.and_eq_true, decide_eq_true_eq, List.all_eq_true] at h
  exact ⟨h.1, h.2.1, h.2.2.1, h.2.2.2⟩
theorem markIntS_l (l : List Int) (a : Int) (ha : 0 ≤ a) (ha2 : a + (l.length : Int) ≤ 4611686018427387904) (d : Nat) : ∀ (k i : Nat), i + d = l.length → d < k →
    laws_markIntS.l0 k (marks a i ++ l.drop i) (a + (i : Int)) (i : Int) = some (a + (l.length : Int), marks a l.length) := by
  induction d with
  | zero =>
    intro k i hi hk
    obtain ⟨k, rfl, _⟩ := succ_of hk
    have e : i = l.length := by omega
    subst e
    simp only [laws_markIntS.l0]
    rw [if_neg (by rw [mark_length a l _ (by omega)]; omega), List.drop_length, List.append_nil]
  | succ d ih =>
    intro k i hi hk
    obtain ⟨k, rfl, hk⟩ := succ_of hk
    have hl : i < l.length := by omega
    simp only [laws_markIntS.l0]
    rw [if_pos (by rw [mark_length a l _ (by omega)]; omega), if_pos (by omega), Int.toNat_natCast, mark_step a l i hl, wrap_succ hl (by unfold maxLen; omega), wrap_id (by omega) (by omega)]
    have := ih k (i + 1) (by omega) (by omega)
    have e : a + ((i + 1 : Nat) : Int) = a + (i : Int) + 1 := by omega
    rw [e] at this
    exact this
theorem markIntS_f (l : List Int) (a : Int) (ha : 0 ≤ a) (ha2 : a + (l.length : Int) ≤ 4611686018427387904) (k : Nat) (hk : l.length < k) : laws_markIntS.f k l a = some (a + (l.length : Int), marks a l.length) := by
  unfold laws_markIntS.f
  have := markIntS_l l a ha ha2 l.length k 0 (by omega) hk
  simpa [marks] using this
theorem markState_f (s n : List Int) (b a : Int) (ha : 0 ≤ a) (ha2 : a + (s.length : Int) + (n.length : Int) ≤ 4611686018427387904) (k : Nat) (hk : s.length < k) (hk2 : n.length < k) :
    laws_markState.f k s n b a = some (a + (s.length : Int) + (n.length : Int), marks a s.length, marks (a + (s.length : Int)) n.length) := by
  unfold laws_markState.f
  rw [markIntS_f s a ha (by omega) k hk]
  simp only [Option.bind_some]
  rw [markIntS_f n (a + (s.length : Int)) (by omega) (by omega) k hk2]
  rfl
theorem markWishS_l (n : Nat) (hn : n ≤ maxLen) (d : Nat) : ∀ (k i : Nat) (l : List S49) (a : Int), l.length = n → i + d = n → d < k → 0 ≤ a → a + 7 * (d : Int) ≤ 4611686018427387904 →
    ∃ l', laws_markWishS.l0 k l a (i : Int) = some (a + 7 * (d : Int), l') := by
  induction d with
  | zero =>
    intro k i l a hl hi hk _ _
    obtain ⟨k, rfl, _⟩ := succ_of hk
    simp only [laws_markWishS.l0]
    rw [if_neg (by omega)]
    exact ⟨l, by simp⟩
  | succ d ih =>
    intro k i l a hl hi hk h0 h1
    obtain ⟨k, rfl, hk⟩ := succ_of hk
    have h2 : i < l.length := by omega
    simp only [laws_markWishS.l0]
    rw [if_pos (by omega), if_pos (by omega)]
    simp only [Option.bind_some]
    have w1 : wrap64 (a + 1) = a + 1 := wrap_id (by omega) (by omega)
    have w2 : wrap64 (a + 1 + 1) = a + 1 + 1 := wrap_id (by omega) (by omega)
    have w3 : wrap64 (a + 1 + 1 + 1) = a + 1 + 1 + 1 := wrap_id (by omega) (by omega)
    have w4 : wrap64 (a + 1 + 1 + 1 + 1) = a + 1 + 1 + 1 + 1 := wrap_id (by omega) (by omega)
    have w5 : wrap64 (a + 1 + 1 + 1 + 1 + 1) = a + 1 + 1 + 1 + 1 + 1 := wrap_id (by omega) (by omega)
    have w6 : wrap64 (a + 1 + 1 + 1 + 1 + 1 + 1) = a + 1 + 1 + 1 + 1 + 1 + 1 := wrap_id (by omega) (by omega)
    have w7 : wrap64 (a + 1 + 1 + 1 + 1 + 1 + 1 + 1) = a + 1 + 1 + 1 + 1 + 1 + 1 + 1 := wrap_id (by omega) (by omega)
    simp only [w1, w2, w3, w4, w5, w6, w7]
    rw [wrap_succ h2 (by omega), show a + 7 * ((d + 1 : Nat) : Int) = (a + 1 + 1 + 1 + 1 + 1 + 1 + 1) + 7 * (d : Int) by omega]
    exact ih k (i + 1) _ _ (by simp only [List.length_set]; exact hl) (by omega) (by omega) (by omega) (by omega)
theorem markWishS_f (l : List S49) (a : Int) (hl : l.length ≤ maxLen) (h0 : 0 ≤ a) (h1 : a + 7 * (l.length : Int) ≤ 4611686018427387904) (k : Nat) (hk : l.length < k) :
    ∃ l', laws_markWishS.f k l a = some (a + 7 * (l.length : Int), l') := by
  unfold laws_markWishS.f
  have := markWishS_l l.length hl l.length k 0 l a rfl (by omega) hk h0 h1
  simpa using this
def wm (a : Int) : S49 := ⟨a, a + 1, a + 1 + 1, a + 1 + 1 + 1, a + 1 + 1 + 1 + 1, a + 1 + 1 + 1 + 1 + 1, a + 1 + 1 + 1 + 1 + 1 + 1⟩
theorem markWishX_l (n : Nat) (hn : n ≤ maxLen) (A : Int) (h0 : 0 ≤ A) (h1 : A + 7 * (n : Int) ≤ 4611686018427387904) (d : Nat) : ∀ (k i : Nat) (l : List S49), l.length = n → i + d = n → d < k →
    (∀ (j : Nat) (h : j < l.length), j < i → l[j] = wm (A + 7 * (j : Int))) →
    ∃ l', laws_markWishS.l0 k l (A + 7 * (i : Int)) (i : Int) = some (A + 7 * (n : Int), l') ∧ l'.length = n ∧ ∀ (j : Nat) (h : j < l'.length), l'[j] = wm (A + 7 * (j : Int)) := by
  induction d with
  | zero =>
    intro k i l hl hi hk hp
    obtain ⟨k, rfl, _⟩ := succ_of hk
    have e : i = n := by omega
    subst e
    simp only [laws_markWishS.l0]
    rw [if_neg (by omega)]
    exact ⟨l, rfl, hl, fun j h => hp j h (by omega)⟩
  | succ d ih =>
    intro k i l hl hi hk hp
    obtain ⟨k, rfl, hk⟩ := succ_of hk
    have h2 : i < l.length := by omega
    simp only [laws_markWishS.l0]
    rw [if_pos (by omega), if_pos (by omega)]
    simp only [Option.bind_some]
    have r1 : ∀ x, rd_T49 (l.set i x) (i : Int) = x := fun x => by
      rw [rdW _ i (by rw [List.length_set]; exact h2)]; exact List.getElem_set_self _
    simp only [Int.toNat_natCast, r1, List.set_set]
    obtain ⟨a, ha⟩ : ∃ a, a = A + 7 * (i : Int) := ⟨_, rfl⟩
    rw [← ha]
    have w1 : wrap64 (a + 1) = a + 1 := wrap_id (by omega) (by omega)
    have w2 : wrap64 (a + 1 + 1) = a + 1 + 1 := wrap_id (by omega) (by omega)
    have w3 : wrap64 (a + 1 + 1 + 1) = a + 1 + 1 + 1 := wrap_id (by omega) (by omega)
    have w4 : wrap64 (a + 1 + 1 + 1 + 1) = a + 1 + 1 + 1 + 1 := wrap_id (by omega) (by omega)
    have w5 : wrap64 (a + 1 + 1 + 1 + 1 + 1) = a + 1 + 1 + 1 + 1 + 1 := wrap_id (by omega) (by omega)
    have w6 : wrap64 (a + 1 + 1 + 1 + 1 + 1 + 1) = a + 1 + 1 + 1 + 1 + 1 + 1 := wrap_id (by omega) (by omega)
    have w7 : wrap64 (a + 1 + 1 + 1 + 1 + 1 + 1 + 1) = a + 1 + 1 + 1 + 1 + 1 + 1 + 1 := wrap_id (by omega) (by omega)
    simp only [w1, w2, w3, w4, w5, w6, w7]
    rw [wrap_succ h2 (by omega), show a + 1 + 1 + 1 + 1 + 1 + 1 + 1 = A + 7 * ((i + 1 : Nat) : Int) by omega]
    refine ih k (i + 1) _ (by rw [List.length_set]; exact hl) (by omega) (by omega) ?_
    intro j h hj
    rw [List.length_set] at h
    by_cases hji : i = j
    · subst hji
      rw [List.getElem_set_self, ← ha]; rfl
    · rw [List.getElem_set_ne hji]
      exact hp j h (by omega)
theorem heldWishX_l (n : Nat) (hn : n ≤ maxLen) (A : Int) (h0 : 0 ≤ A) (h1 : A + 7 * (n : Int) ≤ 4611686018427387904) (l : List S49) (hl : l.length = n) (hp : ∀ (j : Nat) (h : j < l.length), l[j] = wm (A + 7 * (j : Int))) (d : Nat) : ∀ (k i : Nat), i + d = n → d < k →
    laws_heldWishS.l0 k l (A + 7 * (i : Int)) (i : Int) = some (A + 7 * (n : Int)) := by
  induction d with
  | zero =>
    intro k i hi hk
    obtain ⟨k, rfl, _⟩ := succ_of hk
    have e : i = n := by omega
    subst e
    simp only [laws_heldWishS.l0]
    rw [if_neg (by omega)]
  | succ d ih =>
    intro k i hi hk
    obtain ⟨k, rfl, hk⟩ := succ_of hk
    have h2 : i < l.length := by omega
    simp only [laws_heldWishS.l0]
    rw [if_pos (by omega), if_pos (by omega), rdW l i h2, hp i h2]
    obtain ⟨a, ha⟩ : ∃ a, a = A + 7 * (i : Int) := ⟨_, rfl⟩
    rw [← ha]
    have w1 : wrap64 (a + 1) = a + 1 := wrap_id (by omega) (by omega)
    have w2 : wrap64 (a + 1 + 1) = a + 1 + 1 := wrap_id (by omega) (by omega)
    have w3 : wrap64 (a + 1 + 1 + 1) = a + 1 + 1 + 1 := wrap_id (by omega) (by omega)
    have w4 : wrap64 (a + 1 + 1 + 1 + 1) = a + 1 + 1 + 1 + 1 := wrap_id (by omega) (by omega)
    have w5 : wrap64 (a + 1 + 1 + 1 + 1 + 1) = a + 1 + 1 + 1 + 1 + 1 := wrap_id (by omega) (by omega)
    have w6 : wrap64 (a + 1 + 1 + 1 + 1 + 1 + 1) = a + 1 + 1 + 1 + 1 + 1 + 1 := wrap_id (by omega) (by omega)
    have w7 : wrap64 (a + 1 + 1 + 1 + 1 + 1 + 1 + 1) = a + 1 + 1 + 1 + 1 + 1 + 1 + 1 := wrap_id (by omega) (by omega)
    simp only [w1, w2, w3, w4, w5, w6, w7, wm, if_true]
    rw [wrap_succ h2 (by omega), show a + 1 + 1 + 1 + 1 + 1 + 1 + 1 = A + 7 * ((i + 1 : Nat) : Int) by omega]
    exact ih k (i + 1) (by omega) (by omega)
theorem markHeldW (l : List S49) (a : Int) (hl : l.length ≤ maxLen) (h0 : 0 ≤ a) (h1 : a + 7 * (l.length : Int) ≤ 4611686018427387904) :
    ∃ l' : List S49, (∀ k, l.length < k → laws_markWishS.f k l a = some (a + 7 * (l.length : Int), l')) ∧ ∀ k, l.length < k → laws_heldWishS.f k l' a = some (a + 7 * (l.length : Int)) := by
  have main := fun k hk => markWishX_l l.length hl a h0 h1 l.length k 0 l rfl (by omega) hk (fun j _ hj => absurd hj (by omega))
  obtain ⟨l', e, hl', hp⟩ := main (l.length + 1) (by omega)
  refine ⟨l', fun k hk => ?_, fun k hk => ?_⟩
  · have := mono_le (laws_markWishS.mono l a) (show l.length + 1 ≤ k by omega) (r := (a + 7 * (l.length : Int), l')) (by unfold laws_markWishS.f; simpa using e)
    exact this
  · unfold laws_heldWishS.f
    have := heldWishX_l l.length hl a h0 h1 l' hl' hp l.length k 0 (by omega) hk
    simpa using this
end FnExactAddWishLaw
open FnExactAddWishLaw
theorem find_range {α : Type} (p : α → Bool) : ∀ (l : List α) (k : Nat), findFrom p l k = -1 ∨ ((k : Int) ≤ findFrom p l k ∧ findFrom p l k < (k : Int) + (l.length : Int))
  | [], k => Or.inl rfl
  | x :: r, k => by
    unfold findFrom
    cases p x
    · simp only [Bool.false_eq_true, if_false, List.length_cons]
      rcases find_range p r (k + 1) with h | h
      · exact Or.inl h
      · right; omega
    · simp only [if_true, List.length_cons]; right; omega
def res (l : List S49) (w : S49) (j : Int) : List S49 × Int :=
  if j < 0 then (if (l.length : Int) = 20 then (l, 3) else (l ++ [w], 0)) else if (rd_T49 l j).f4 ≥ w.f4 then (l, 2) else (l.set j.toNat w, 0)
theorem specAdd_l (l : List S49) (w : S49) (h20 : l.length ≤ 20) (d : Nat) : ∀ (k i : Nat), i + d = l.length → 2 * d + 1 < k →
    spec_AddWish.l0 k l l l (l.length : Int) (i : Int) w.f0 w.f1 w.f2 w.f3 w.f4 w.f5 w.f6 = some ((res l w (findFrom (wpair w) (l.drop i) i)).1, (res l w (findFrom (wpair w) (l.drop i) i)).2, true) := by
  induction d with
  | zero =>
    intro k i hi hk
    obtain ⟨k, rfl, _⟩ := succ_of (show 1 < k by omega)
    simp only [spec_AddWish.l0]
    rw [if_neg (by omega), List.drop_of_length_le (by omega)]
    unfold findFrom res
    rw [if_pos (show (-1 : Int) < 0 by decide)]
    by_cases h : (l.length : Int) = 20
    · rw [if_pos h, if_pos h]
    · rw [if_neg h, if_neg h, if_pos (by omega)]
  | succ d ih =>
    intro k i hi hk
    obtain ⟨k, rfl⟩ : ∃ k', k = k' + 1 + 1 := ⟨k - 2, by omega⟩
    have hl : i < l.length := by omega
    simp only [spec_AddWish.l0, spec_AddWish.j2]
    rw [if_pos (by omega), if_pos (by omega), if_pos (by omega), rdW l i hl, findFrom_drop _ l i hl, wrap_succ hl (by unfold maxLen; omega)]
    have e : wpair w l[i] = decide (l[i].f0 = w.f0 ∧ l[i].f3 = w.f3) := rfl
    have up : ∀ k, 2 * d + 1 < k → spec_AddWish.l0 k l l l (l.length : Int) ((i + 1 : Nat) : Int) w.f0 w.f1 w.f2 w.f3 w.f4 w.f5 w.f6 = some ((res l w (findFrom (wpair w) (l.drop (i + 1)) (i + 1))).1, (res l w (findFrom (wpair w) (l.drop (i + 1)) (i + 1))).2, true) := fun k hk => ih k (i + 1) (by omega) hk
    by_cases h1 : l[i].f0 = w.f0
    · rw [if_pos h1]
      by_cases h2 : l[i].f3 = w.f3
      · rw [e, decide_eq_true ⟨h1, h2⟩, if_pos rfl, h2]
        simp only [bne_self_eq_false, Bool.false_eq_true, if_false]
        unfold res
        rw [if_neg (show ¬ ((i : Int) < 0) by omega), rdW l i hl]
        by_cases h3 : l[i].f4 ≥ w.f4
        · rw [if_pos h3, if_pos h3]
        · rw [if_neg h3, if_neg h3, if_pos (by omega), if_pos (by omega)]
      · have hb : (l[i].f3 != w.f3) = true := bne_iff_ne.mpr h2
        rw [e, decide_eq_false (fun h => h2 h.2), hb]
        simp only [if_true, Bool.false_eq_true, if_false]
        exact up _ (by omega)
    · rw [if_neg h1, e, decide_eq_false (fun h => h1 h.1)]
      simp only [if_true, Bool.false_eq_true, if_false]
      exact up _ (by omega)
theorem implAdd (s ns : List Int) (b : Int) (l : List S49) (w : S49) (h20 : l.length ≤ 20) (hf : 0 ≤ w.f0) (hf2 : w.f0 < (ns.length : Int)) (k : Nat) (hk : 1 < k) :
    impl_addWish.f k s ns b l w.f0 w.f1 w.f2 w.f3 w.f4 w.f5 w.f6 = if w.f3 < rd ns w.f0 then some (l, 1) else some (res l w (findFrom (wpair w) l 0)) := by
  obtain ⟨k, rfl⟩ : ∃ k', k = k' + 1 + 1 := ⟨k - 2, by omega⟩
  unfold impl_addWish.f impl_Wish_42.f impl_wishIndex.f
  simp only [Option.bind_some, List.nil_append, List.length_nil, Nat.zero_add]
  rw [if_pos (show l.length < 2513169434916 by omega)]
  simp only [Option.bind_some]
  have ef : findFrom (fun x : S49 => decide (x.f0 = w.f0 ∧ x.f3 = w.f3)) l 0 = findFrom (wpair w) l 0 := rfl
  rw [ef, if_pos hf, if_pos hf2]
  have hr := find_range (wpair w) l 0
  generalize findFrom (wpair w) l 0 = j at hr ⊢
  by_cases h1 : w.f3 < rd ns w.f0
  · rw [if_pos h1, if_pos h1]
  · rw [if_neg h1, if_neg h1]
    simp only [impl_addWish.j0, impl_addWish.j1]
    unfold res
    rcases hr with h | h
    · subst h
      rw [if_neg (show ¬ ((-1 : Int) ≥ 0) by decide)]
      simp only [Bool.false_eq_true, if_false]
      rw [if_pos (show (-1 : Int) < 0 by decide), if_pos (show (-1 : Int) < 0 by decide)]
      by_cases h2 : (l.length : Int) = 20
      · rw [if_pos h2, if_pos (beq_iff_eq.mpr h2)]
      · rw [if_neg h2, if_neg (fun h => h2 (beq_iff_eq.mp h)), if_neg (show ¬ ((-1 : Int) ≥ 0) by decide), if_pos (by omega)]
    · have g1 : ¬ j < 0 := by omega
      have g2 : 0 ≤ j := by omega
      have g3 : j < (l.length : Int) := by omega
      by_cases h2 : (rd_T49 l j).f4 ≥ w.f4
      · simp [g1, g2, g3, h2]
      · simp [g1, g2, g3, h2]
theorem res_len (l : List S49) (w : S49) (j : Int) (h : l.length ≤ 20) : (res l w j).1.length ≤ 21 := by
  unfold res
  split
  · split
    · simp; omega
    · simp; omega
  · split
    · simp; omega
    · simp; omega
theorem same (s ns : List Int) (b : Int) (l : List S49) (w : S49) (hs : s.length ≤ maxLen) (hn : ns.length ≤ maxLen) (hm : l.length ≤ maxLen) (k : Nat) (hk : s.length + ns.length + (l.length + 1) * (l.length + 2) + 2 * l.length + 3 < k) :
    ∃ (o : List S49) (v : Int) (c : Bool), spec_AddWish.f k s ns b l w.f0 w.f1 w.f2 w.f3 w.f4 w.f5 w.f6 = some (o, v, c) ∧ impl_AddWish.f k s ns b l w.f0 w.f1 w.f2 w.f3 w.f4 w.f5 w.f6 = some (o, v, c) ∧ o.length ≤ 21 := by
  unfold spec_AddWish.f impl_AddWish.f
  rw [specPool_f s ns b l hs hn hm k (by omega), arePool_f s ns b l hm k (by omega), isWish_f, specGoodWish_f s ns b _ _ _ _ _ _ _ hs hn k (by omega) (by omega)]
  simp only [Option.bind_some]
  obtain ⟨k, rfl, hk3⟩ := succ_of hk
  simp only [spec_AddWish.j0]
  cases h : poolB s ns b l
  · exact ⟨_, _, _, rfl, rfl, by simp⟩
  · obtain ⟨hg, h20, _, _⟩ := poolB_of h
    have g := goodState_of hg
    simp only [if_true, hg, Bool.true_and]
    cases h2 : goodWishB (s.length : Int) w.f0 w.f1 w.f2 w.f3 w.f4 w.f5 w.f6
    · exact ⟨_, _, _, rfl, rfl, by simp⟩
    · have gw := goodWish_of (m := s.length) (by omega) h2
      rw [implAdd s ns b l w h20 gw.1 (by omega) (k + 1) (by omega)]
      simp only [Bool.not_true, Bool.false_eq_true, if_false, if_true, Option.bind_some, List.nil_append, List.length_nil, Nat.zero_add]
      rw [if_pos (show l.length < 2513169434916 by omega)]
      try simp only [Option.bind_some]
      rw [if_pos gw.1, if_pos (show w.f0 < (ns.length : Int) by omega)]
      by_cases h3 : w.f3 < rd ns w.f0
      · rw [if_pos h3, if_pos h3]
        exact ⟨_, _, _, rfl, rfl, by omega⟩
      · rw [if_neg h3, if_neg h3]
        have := specAdd_l l w h20 l.length k 0 (by omega) (by omega)
        simp only [Int.natCast_zero, List.drop_zero] at this
        rw [this]
        exact ⟨_, _, _, rfl, rfl, res_len l w _ h20⟩
theorem FnExactAddWish : FnExactAddWishPure := by
  intro s n b l f t a nn tp lm sz hs hn _ hl _ _ _ _ _ _ _
  refine ⟨s.length + n.length + (l.length + 1) * (l.length + 2) + 2 * l.length + 90, ?_⟩
  have hmono1 : ∀ k, s.length + n.length + (l.length + 1) * (l.length + 2) + 2 * l.length + 4 ≤ k → ∀ v, spec_AddWish.f (s.length + n.length + (l.length + 1) * (l.length + 2) + 2 * l.length + 4) s n b (l.map cvWish) f t a nn tp lm sz = some v → spec_AddWish.f k s n b (l.map cvWish) f t a nn tp lm sz = some v := fun k hk v e => mono_le (spec_AddWish.mono s n b (l.map cvWish) f t a nn tp lm sz) hk e
  have hmono2 : ∀ k, s.length + n.length + (l.length + 1) * (l.length + 2) + 2 * l.length + 4 ≤ k → ∀ v, impl_AddWish.f (s.length + n.length + (l.length + 1) * (l.length + 2) + 2 * l.length + 4) s n b (l.map cvWish) f t a nn tp lm sz = some v → impl_AddWish.f k s n b (l.map cvWish) f t a nn tp lm sz = some v := fun k hk v e => mono_le (impl_AddWish.mono s n b (l.map cvWish) f t a nn tp lm sz) hk e
  have hsame := fun hm => same s n b (l.map cvWish) ⟨f, t, a, nn, tp, lm, sz⟩ hs.1 hn.1 hm (s.length + n.length + (l.length + 1) * (l.length + 2) + 2 * l.length + 4)
  rw [show (l.map cvWish).length = l.length from List.length_map _] at hsame
  generalize hK : (l.length + 1) * (l.length + 2) = K at *
  unfold laws_FnExactAddWish.f
  rw [szState_f s n b 1048576 hs.1 hn.1 (by omega) (by omega)]
  simp only [Option.bind_some]
  by_cases h1 : (1048576 : Int) < (s.length : Int)
  · simp only [if_pos h1]; rw [if_pos (by omega)]
  · simp only [if_neg h1]
    by_cases h2 : (1048576 : Int) - (s.length : Int) < (n.length : Int)
    · simp only [if_pos h2]; rw [if_pos (by omega)]
    · simp only [if_neg h2]
      rw [if_neg (by omega), szWishS_f l _ hl.1 (by omega) (by omega)]
      simp only [Option.bind_some]
      by_cases h3 : (1048576 : Int) - (s.length : Int) - (n.length : Int) < (l.length : Int)
      · simp only [if_pos h3]; rw [if_pos (by omega)]
      · simp only [if_neg h3]
        have hc : (l.map cvWish).length = l.length := List.length_map _
        have hm : (l.map cvWish).length ≤ maxLen := by unfold maxLen; omega
        obtain ⟨o, v, c, e1, e2, e3⟩ := hsame hl.1 (by omega)
        have s1 := fun k hk => hmono1 k hk _ e1
        have s2 := fun k hk => hmono2 k hk _ e2
        have ho : o.length ≤ maxLen := by unfold maxLen; omega
        obtain ⟨l2, em⟩ := markWishS_f (l.map cvWish) (1 + (s.length : Int) + (n.length : Int)) hm (by omega) (by omega) (s.length + n.length + K + 2 * l.length + 89) (by omega)
        obtain ⟨o2, em1, em2⟩ := markHeldW o 1 ho (by omega) (by omega)
        rw [if_neg (by omega), toState_f s n b (by omega) (by omega) _ (by omega) (by omega)]
        simp only [Option.bind_some]
        rw [toWishS_f l (by omega) _ (by omega)]
        simp only [Option.bind_some, laws_toWish.f]
        rw [s1 _ (by omega), s2 _ (by omega)]
        simp only [Option.bind_some, bne_self_eq_false]
        rw [eqWishS_f o ho _ (by omega)]
        simp only [Option.bind_some, if_true, laws_FnExactAddWish.j0, Bool.false_eq_true, if_false]
        rw [toState_f s n b (by omega) (by omega) _ (by omega) (by omega)]
        simp only [Option.bind_some]
        rw [eqState_f s n b (by omega) (by omega) _ (by omega) (by omega)]
        simp only [Option.bind_some, if_true]
        rw [toWishS_f l (by omega) _ (by omega)]
        simp only [Option.bind_some]
        rw [eqWishS_f _ hm _ (by omega)]
        simp only [Option.bind_some, if_true]
        rw [markState_f s n b 1 (by omega) (by omega) _ (by omega) (by omega)]
        simp only [Option.bind_some]
        rw [em]
        simp only [Option.bind_some]
        rw [if_neg (by omega), eqWishS_f o ho _ (by omega)]
        simp only [Option.bind_some, if_true, laws_FnExactAddWish.j1, bne_self_eq_false, Bool.false_eq_true, if_false]
        rw [em1 _ (by omega)]
        simp only [Option.bind_some]
        rw [em2 _ (by omega)]
        simp only [Option.bind_some]
        rw [if_neg (by omega)]
        simp only [if_true]
        rw [toState_f s n b (by omega) (by omega) _ (by omega) (by omega)]
        simp only [Option.bind_some]
        rw [toWishS_f l (by omega) _ (by omega)]
        simp only [Option.bind_some, laws_toWish.f]
        rw [s2 _ (by omega)]
        simp only [Option.bind_some, bne_self_eq_false]
        rw [eqWishS_f o ho _ (by omega)]
        simp only [Option.bind_some, if_true, laws_FnExactAddWish.j2, Bool.false_eq_true, if_false]
        rw [em2 _ (by omega)]
        simp only [Option.bind_some]
        rw [if_neg (by omega)]
        simp
end Go.Proofs.Ythalkdcpfiobkaa.Pure
