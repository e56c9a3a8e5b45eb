/- SameState of the program and of the reference return the same, for every two states; no condition. -/
import Derived.Test.YtfhklbbpfofhpaaDefFnExactSameState
import Derived.Test.YtfhklbbpfofhpaaPx
import Derived.Test.YtfhklbbpfofhpaaOv
namespace Go.Proofs.Ytfhklbbpfofhpaa.Pure
open Go.RowKit Go.Proofs.Ytfhklbbpfofhpaa.PFnExactSameState Go.Proofs.YtfhklbbpfofhpaaW.PrintWords Go.Proofs.YtfhklbbpfofhpaaW.PrintLast Go.Proofs.YtfhklbbpfofhpaaW.PrintMore Go.Proofs.Ytfhklbbpfofhpaa.Px Go.Proofs.Ytfhklbbpfofhpaa.Ov
namespace FnExactSameStateLaw
theorem toIntS_l (l : List Int) (hm : l.length ≤ maxLen) (d : Nat) : ∀ (k i : Nat), i + d = l.length → d < k →
    laws_toIntS.l0 k l (l.take i ++ List.replicate (l.length - i) 0) (i : Int) = some l := by
  induction d with
  | zero =>
    intro k i hi hk
    obtain ⟨k, rfl, _⟩ := succ_of hk
    have e : i = l.length := by omega
    subst e
    simp only [laws_toIntS.l0]
    rw [if_neg (by omega)]
    simp
  | succ d ih =>
    intro k i hi hk
    obtain ⟨k, rfl, hk⟩ := succ_of hk
    have hl : i < l.length := by omega
    simp only [laws_toIntS.l0]
    rw [if_pos (by omega), if_pos (by omega), if_pos (by rw [length_step _ _ _ (by omega)]; omega), rd_nat hl, Int.toNat_natCast, set_step l 0 i hl, wrap_succ hl hm]
    exact ih k (i + 1) (by omega) (by omega)
theorem toIntS_f (l : List Int) (hm : l.length ≤ 35184372088832) (k : Nat) (hk : l.length < k) : laws_toIntS.f k l = some l := by
  unfold laws_toIntS.f
  rw [if_pos (by omega), if_pos (by simpa using hm), Int.toNat_natCast]
  simpa using toIntS_l l (by unfold maxLen; omega) l.length k 0 (by omega) hk
theorem toState_f (s n : List Int) (b : Int) (hs : s.length ≤ 35184372088832) (hn : n.length ≤ 35184372088832) (k : Nat) (hk : s.length < k) (hk2 : n.length < k) : laws_toState.f k s n b = some (s, n, b) := by
  unfold laws_toState.f
  rw [toIntS_f s hs k hk, toIntS_f n hn k hk2]; rfl
theorem eqIntS_l (a : List Int) (hm : a.length ≤ maxLen) (d : Nat) : ∀ (k i : Nat), i + d = a.length → d < k →
    laws_eqIntS.l0 k a a (i : Int) = some true := by
  induction d with
  | zero =>
    intro k i hi hk
    obtain ⟨k, rfl, _⟩ := succ_of hk
    simp only [laws_eqIntS.l0]
    rw [if_neg (by omega)]
  | succ d ih =>
    intro k i hi hk
    obtain ⟨k, rfl, hk⟩ := succ_of hk
    have hl : i < a.length := by omega
    simp only [laws_eqIntS.l0]
    rw [if_pos (by omega), if_pos (by omega), if_pos (by omega)]
    simp only [if_true]
    rw [wrap_succ hl hm]
    exact ih k (i + 1) (by omega) (by omega)
theorem eqIntS_f (a : List Int) (hm : a.length ≤ maxLen) (k : Nat) (hk : a.length < k) : laws_eqIntS.f k a a = some true := by
  unfold laws_eqIntS.f
  rw [if_pos rfl]
  exact eqIntS_l a hm a.length k 0 (by omega) hk
theorem eqState_f (s n : List Int) (b : Int) (hs : s.length ≤ 35184372088832) (hn : n.length ≤ 35184372088832) (k : Nat) (hk : s.length < k) (hk2 : n.length < k) : laws_eqState.f k s n b s n b = some true := by
  unfold laws_eqState.f
  rw [eqIntS_f s (by unfold maxLen; omega) k hk, eqIntS_f n (by unfold maxLen; omega) k hk2]; simp
theorem szIntS_f (l : List Int) (a : Int) (h : l.length ≤ maxLen) (h0 : 0 ≤ a) (h1 : a ≤ 1048576) : laws_szIntS.f l a = some (if a < (l.length : Int) then -1 else a - (l.length : Int)) := by
  unfold laws_szIntS.f
  unfold maxLen at h
  rw [wrap_id (by omega) (by omega)]
  by_cases h2 : a < (l.length : Int)
  · rw [if_pos (by omega), if_pos h2]
  · rw [if_neg (by omega), if_neg h2]
theorem szState_f (s n : List Int) (b a : Int) (hs : s.length ≤ maxLen) (hn : n.length ≤ maxLen) (h0 : 0 ≤ a) (h1 : a ≤ 1048576) :
    laws_szState.f s n b a = some (if a < (s.length : Int) then -1 else if a - (s.length : Int) < (n.length : Int) then -1 else a - (s.length : Int) - (n.length : Int)) := by
  unfold laws_szState.f
  rw [szIntS_f s a hs h0 h1]
  simp only [Option.bind_some]
  by_cases h2 : a < (s.length : Int)
  · simp only [if_pos h2]
    rw [if_pos (by omega)]
  · simp only [if_neg h2]
    rw [if_neg (by omega), szIntS_f n _ hn (by omega) (by omega)]
    simp only [Option.bind_some]
    by_cases h3 : a - (s.length : Int) < (n.length : Int)
    · simp only [if_pos h3]
      rw [if_pos (by omega)]
    · simp only [if_neg h3]
      rw [if_neg (by omega)]
theorem l1In_f (a b c : Int) : spec_l1In.f a b c = some (decide (b ≤ a ∧ a ≤ c)) := by
  unfold spec_l1In.f
  by_cases h : b ≤ a <;> simp [h]
theorem l1All_l (l : List Int) (a b : Int) (hm : l.length ≤ maxLen) (d : Nat) : ∀ (k i : Nat), i + d = l.length → d < k →
    spec_l1All.l0 k a b l (l.length : Int) (i : Int) = some ((l.drop i).all fun n => decide (a ≤ n ∧ n ≤ b)) := by
  induction d with
  | zero =>
    intro k i hi hk
    obtain ⟨k, rfl, _⟩ := succ_of hk
    simp only [spec_l1All.l0]
    rw [if_neg (by omega), List.drop_of_length_le (by omega)]; rfl
  | succ d ih =>
    intro k i hi hk
    obtain ⟨k, rfl, hk⟩ := succ_of hk
    have hl : i < l.length := by omega
    simp only [spec_l1All.l0]
    rw [if_pos (by omega), if_pos (by omega), if_pos (by omega), rd_nat hl, l1In_f, all_drop _ l i hl, wrap_succ hl hm]
    simp only [Option.bind_some]
    rw [ih k (i + 1) (by omega) (by omega)]
    cases decide (a ≤ l[i] ∧ l[i] ≤ b) <;> simp
theorem l1All_f (l : List Int) (a b : Int) (hm : l.length ≤ maxLen) (k : Nat) (hk : l.length < k) : spec_l1All.f k l a b = some (l.all fun n => decide (a ≤ n ∧ n ≤ b)) := by
  unfold spec_l1All.f
  simpa using l1All_l l a b hm l.length k 0 (by omega) hk
theorem l1Sum_l (l : List Int) (hm : l.length ≤ maxLen) (B : Int) (hB : 0 ≤ B) (h0 : ∀ x ∈ l, 0 ≤ x ∧ x ≤ B) (hs : B * (l.length : Int) ≤ 4611686018427387904) (d : Nat) : ∀ (k i : Nat) (s : Int), i + d = l.length → d < k →
    0 ≤ s → s ≤ B * (i : Int) → spec_l1Sum.l0 k s l (l.length : Int) (i : Int) = some (s + (l.drop i).sum) := by
  induction d with
  | zero =>
    intro k i s hi hk _ _
    obtain ⟨k, rfl, _⟩ := succ_of hk
    simp only [spec_l1Sum.l0]
    rw [if_neg (by omega), List.drop_of_length_le (by omega)]; simp
  | succ d ih =>
    intro k i s hi hk s0 s1
    obtain ⟨k, rfl, hk⟩ := succ_of hk
    have hl : i < l.length := by omega
    simp only [spec_l1Sum.l0]
    have hx := h0 l[i] (List.getElem_mem hl)
    have hi1 : B * ((i + 1 : Nat) : Int) = B * (i : Int) + B := by rw [Int.natCast_add, Int.mul_add]; simp
    have hi2 : B * ((i + 1 : Nat) : Int) ≤ B * (l.length : Int) := Int.mul_le_mul_of_nonneg_left (by omega) hB
    rw [if_pos (by omega), if_pos (by omega), if_pos (by omega), rd_nat hl, wrap_succ hl hm, wrap_id (by omega) (by omega), ih k (i + 1) (s + l[i]) (by omega) (by omega) (by omega) (by omega), sum_drop l i hl]
    congr 1; omega
theorem l1Sum_f (l : List Int) (B : Int) (hB : 0 ≤ B) (h0 : ∀ x ∈ l, 0 ≤ x ∧ x ≤ B) (hm : l.length ≤ maxLen) (hs : B * (l.length : Int) ≤ 4611686018427387904) (k : Nat) (hk : l.length < k) : spec_l1Sum.f k l = some l.sum := by
  unfold spec_l1Sum.f
  have := l1Sum_l l hm B hB h0 hs l.length k 0 0 (by omega) hk (by omega) (by simp)
  simpa using this
def goodStateB (s n : List Int) (b : Int) : Bool := decide (1 ≤ s.length ∧ s.length ≤ 8) && (decide (n.length = s.length) && ((s.all fun x => decide (0 ≤ x ∧ x ≤ 1000000000)) && ((n.all fun x => decide (0 ≤ x ∧ x ≤ 1000)) && (decide (0 ≤ b ∧ b ≤ 1000000000) && decide (s.sum + b ≤ 1000000000)))))
theorem specGoodState_f (s n : List Int) (b : Int) (hs : s.length ≤ maxLen) (hn : n.length ≤ maxLen) (k : Nat) (hk : s.length < k) (hk2 : n.length < k) : spec_GoodState.f k s n b = some (goodStateB s n b) := by
  unfold spec_GoodState.f goodStateB
  rw [l1In_f]
  simp only [Option.bind_some, decide_eq_true_eq]
  by_cases h1 : (1 : Int) ≤ (s.length : Int) ∧ (s.length : Int) ≤ 8
  · rw [if_pos h1, decide_eq_true (show 1 ≤ s.length ∧ s.length ≤ 8 by omega)]
    by_cases h2 : (n.length : Int) = (s.length : Int)
    · rw [if_pos h2, decide_eq_true (show n.length = s.length by omega), l1All_f s _ _ hs k hk]
      simp only [Option.bind_some, Bool.true_and]
      cases h3 : s.all fun x => decide ((0 : Int) ≤ x ∧ x ≤ 1000000000)
      · simp
      · simp only [if_true, Bool.true_and]
        rw [l1All_f n _ _ hn k hk2]
        simp only [Option.bind_some]
        cases h4 : n.all fun x => decide ((0 : Int) ≤ x ∧ x ≤ 1000)
        · simp
        · simp only [if_true, Bool.true_and]
          rw [l1In_f]
          simp only [Option.bind_some, decide_eq_true_eq]
          have hb0 : ∀ x ∈ s, 0 ≤ x ∧ x ≤ 1000000000 := fun x hx => of_decide_eq_true (of_all h3 x hx)
          have hsum := sum_le (l := s) (b := 1000000000) (fun x hx => (hb0 x hx).2)
          have hsum0 := sum_nonneg (l := s) (fun x hx => (hb0 x hx).1)
          by_cases h5 : 0 ≤ b ∧ b ≤ 1000000000
          · rw [if_pos h5, decide_eq_true h5, l1Sum_f s 1000000000 (by omega) hb0 hs (by omega) k hk]
            simp only [Option.bind_some, Bool.true_and]
            rw [wrap_id (by omega) (by omega)]
          · rw [if_neg h5, decide_eq_false h5]; simp
    · rw [if_neg h2, decide_eq_false (show ¬ n.length = s.length by omega)]; simp
  · rw [if_neg h1, decide_eq_false (show ¬ (1 ≤ s.length ∧ s.length ≤ 8) by omega)]; simp
theorem within_f (a b c : Int) : impl_within.f a b c = some (decide (b ≤ a ∧ a ≤ c)) := rfl
theorem isState_l (s n : List Int) (b : Int) (h8 : s.length ≤ 8) (hn : n.length = s.length) (d : Nat) : ∀ (k i : Nat) (t : Int), i + d = s.length → d < k → 0 ≤ t → t ≤ 1000000000 * ((i : Int) + 1) →
    impl_isState.l0 k t s (s.length : Int) (i : Int) s n b = some (((s.drop i).all fun x => decide (0 ≤ x ∧ x ≤ 1000000000)) && (((n.drop i).all fun x => decide (0 ≤ x ∧ x ≤ 1000)) && decide ((s.drop i).sum + t ≤ 1000000000))) := by
  induction d with
  | zero =>
    intro k i t hi hk _ _
    obtain ⟨k, rfl, _⟩ := succ_of hk
    simp only [impl_isState.l0]
    rw [if_neg (by omega), List.drop_of_length_le (by omega), List.drop_of_length_le (by omega)]; simp
  | succ d ih =>
    intro k i t hi hk t0 t1
    obtain ⟨k, rfl, hk⟩ := succ_of hk
    have hl : i < s.length := by omega
    have hl2 : i < n.length := by omega
    simp only [impl_isState.l0]
    rw [if_pos (by omega), if_pos (by omega), if_pos (by omega), rd_nat hl, within_f, all_drop _ s i hl, all_drop _ n i hl2, sum_drop s i hl]
    simp only [Option.bind_some, decide_eq_true_eq]
    by_cases h1 : 0 ≤ s[i] ∧ s[i] ≤ 1000000000
    · rw [if_pos h1, if_pos (by omega), rd_nat hl2, within_f, decide_eq_true h1]
      simp only [Option.bind_some, decide_eq_true_eq, Bool.true_and]
      by_cases h2 : 0 ≤ n[i] ∧ n[i] ≤ 1000
      · rw [if_pos h2, decide_eq_true h2, wrap_succ hl (by unfold maxLen; omega), wrap_id (by omega) (by omega), ih k (i + 1) (t + s[i]) (by omega) (by omega) (by omega) (by omega)]
        simp only [Bool.true_and]
        have e : (List.drop (i + 1) s).sum + (t + s[i]) = s[i] + (List.drop (i + 1) s).sum + t := by omega
        rw [e]
      · rw [if_neg h2, decide_eq_false h2]; simp
    · rw [if_neg h1, decide_eq_false h1]; simp
theorem isState_f (s n : List Int) (b : Int) (k : Nat) (hk : s.length + 1 < k) : impl_isState.f k s n b = some (goodStateB s n b) := by
  unfold impl_isState.f goodStateB
  obtain ⟨k, rfl, hk⟩ := succ_of hk
  rw [within_f]
  simp only [Option.bind_some, decide_eq_true_eq]
  by_cases h1 : (1 : Int) ≤ (s.length : Int) ∧ (s.length : Int) ≤ 8
  · rw [if_pos h1, decide_eq_true (show 1 ≤ s.length ∧ s.length ≤ 8 by omega)]
    by_cases h2 : (n.length : Int) = (s.length : Int)
    · rw [if_pos h2, decide_eq_true (show n.length = s.length by omega), within_f]
      simp only [Option.bind_some, Bool.true_and, impl_isState.j0]
      by_cases h5 : 0 ≤ b ∧ b ≤ 1000000000
      · rw [if_neg (by simp [h5]), decide_eq_true h5]
        have := isState_l s n b (by omega) (by omega) s.length k 0 b (by omega) (by omega) h5.1 (by omega)
        simpa using this
      · rw [if_pos (by simp; omega), decide_eq_false h5]; simp
    · rw [if_neg h2, decide_eq_false (show ¬ n.length = s.length by omega)]; simp [impl_isState.j0]
  · rw [if_neg h1, decide_eq_false (show ¬ (1 ≤ s.length ∧ s.length ≤ 8) by omega)]; simp [impl_isState.j0]
theorem l1Same_l (a b : List Int) (he : a.length = b.length) (hm : a.length ≤ maxLen) (d : Nat) : ∀ (k i : Nat), i + d = a.length → d < k →
    spec_l1Same.l0 k a b (a.length : Int) (i : Int) = some (decide (a.drop i = b.drop i)) := by
  induction d with
  | zero =>
    intro k i hi hk
    obtain ⟨k, rfl, _⟩ := succ_of hk
    simp only [spec_l1Same.l0]
    rw [if_neg (by omega), List.drop_of_length_le (by omega), List.drop_of_length_le (by omega)]; simp
  | succ d ih =>
    intro k i hi hk
    obtain ⟨k, rfl, hk⟩ := succ_of hk
    have hl : i < a.length := by omega
    have hl2 : i < b.length := by omega
    simp only [spec_l1Same.l0]
    rw [if_pos (by omega), if_pos (by omega), if_pos (by omega), if_pos (by omega), rd_nat hl, rd_nat hl2, List.drop_eq_getElem_cons hl, List.drop_eq_getElem_cons hl2]
    by_cases h : a[i] = b[i]
    · rw [if_pos h, wrap_succ hl hm, ih k (i + 1) (by omega) (by omega)]; simp only [List.cons.injEq, h, true_and]
    · rw [if_neg h]; simp only [List.cons.injEq, h, false_and, decide_false]
theorem l1Same_f (a b : List Int) (hm : a.length ≤ maxLen) (k : Nat) (hk : a.length < k) : spec_l1Same.f k a b = some (decide (a = b)) := by
  unfold spec_l1Same.f
  by_cases h : (a.length : Int) = (b.length : Int)
  · rw [if_pos h]
    simpa using l1Same_l a b (by omega) hm a.length k 0 (by omega) hk
  · rw [if_neg h]
    have : a ≠ b := fun e => h (by rw [e])
    simp [this]
theorem slicesEqual_l (a b : List Int) (he : a.length = b.length) (hm : a.length ≤ maxLen) (d : Nat) : ∀ (k i : Nat), i + d = a.length → d < k →
    slices_Equal_int_int.l0 k a b (a.length : Int) (i : Int) = some (decide (a.drop i = b.drop i)) := by
  induction d with
  | zero =>
    intro k i hi hk
    obtain ⟨k, rfl, _⟩ := succ_of hk
    simp only [slices_Equal_int_int.l0]
    rw [if_neg (by omega), List.drop_of_length_le (by omega), List.drop_of_length_le (by omega)]; simp
  | succ d ih =>
    intro k i hi hk
    obtain ⟨k, rfl, hk⟩ := succ_of hk
    have hl : i < a.length := by omega
    have hl2 : i < b.length := by omega
    simp only [slices_Equal_int_int.l0]
    rw [if_pos (by omega), if_pos (by omega), if_pos (by omega), if_pos (by omega), rd_nat hl, rd_nat hl2, List.drop_eq_getElem_cons hl, List.drop_eq_getElem_cons hl2]
    by_cases h : a[i] = b[i]
    · rw [if_pos h, wrap_succ hl hm, ih k (i + 1) (by omega) (by omega)]; simp only [List.cons.injEq, h, true_and]
    · rw [if_neg h]; simp only [List.cons.injEq, h, false_and, decide_false]
theorem slicesEqual_f (a b : List Int) (hm : a.length ≤ maxLen) (k : Nat) (hk : a.length < k) : slices_Equal_int_int.f k a b = some (decide (a = b)) := by
  unfold slices_Equal_int_int.f
  by_cases h : (a.length : Int) = (b.length : Int)
  · rw [if_pos h]
    simpa using slicesEqual_l a b (by omega) hm a.length k 0 (by omega) hk
  · rw [if_neg h]
    have : a ≠ b := fun e => h (by rw [e])
    simp [this]
end FnExactSameStateLaw
open FnExactSameStateLaw
theorem same (s n : List Int) (b : Int) (s' n' : List Int) (b' : Int) (hs : s.length ≤ maxLen) (hn : n.length ≤ maxLen) (hs' : s'.length ≤ maxLen) (hn' : n'.length ≤ maxLen) (k : Nat) (hk : s.length + 2 < k) (hk2 : n.length + 1 < k) (hk' : s'.length + 2 < k) (hk2' : n'.length + 1 < k) :
    ∃ v, spec_SameState.f k s n b s' n' b' = some v ∧ impl_SameState.f k s n b s' n' b' = some v := by
  unfold spec_SameState.f impl_SameState.f
  rw [specGoodState_f s n b hs hn k (by omega) (by omega), isState_f s n b k (by omega)]
  simp only [Option.bind_some]
  obtain ⟨k, rfl, hk3⟩ := succ_of hk
  simp only [spec_SameState.j0, impl_SameState.j0]
  cases h : goodStateB s n b
  · exact ⟨_, rfl, rfl⟩
  · simp only [if_true]
    rw [specGoodState_f s' n' b' hs' hn' (k + 1) (by omega) (by omega), isState_f s' n' b' (k + 1) (by omega)]
    simp only [Option.bind_some]
    cases h' : goodStateB s' n' b'
    · exact ⟨_, rfl, rfl⟩
    · rw [l1Same_f s s' hs k (by omega), slicesEqual_f s s' hs k (by omega), l1Same_f n n' hn k (by omega), slicesEqual_f n n' hn k (by omega)]
      simp only [Option.bind_some]
      cases decide (s = s') <;> cases decide (n = n') <;> exact ⟨_, rfl, rfl⟩
theorem FnExactSameState : FnExactSameStatePure := by
  intro s n b s' n' b' hs hn _ hs' hn' _
  refine ⟨s.length + n.length + s'.length + n'.length + 4, ?_⟩
  unfold laws_FnExactSameState.f
  rw [szState_f s n b 1048576 hs.1 hn.1 (by omega) (by omega)]
  simp only [Option.bind_some]
  by_cases h1 : (1048576 : Int) < (s.length : Int)
  · simp only [if_pos h1]; rw [if_pos (by omega)]
  · simp only [if_neg h1]
    by_cases h2 : (1048576 : Int) - (s.length : Int) < (n.length : Int)
    · simp only [if_pos h2]; rw [if_pos (by omega)]
    · simp only [if_neg h2]
      rw [if_neg (by omega), szState_f s' n' b' _ hs'.1 hn'.1 (by omega) (by omega)]
      simp only [Option.bind_some]
      by_cases h3 : (1048576 : Int) - (s.length : Int) - (n.length : Int) < (s'.length : Int)
      · simp only [if_pos h3]; rw [if_pos (by omega)]
      · simp only [if_neg h3]
        by_cases h4 : (1048576 : Int) - (s.length : Int) - (n.length : Int) - (s'.length : Int) < (n'.length : Int)
        · simp only [if_pos h4]; rw [if_pos (by omega)]
        · simp only [if_neg h4]
          rw [if_neg (by omega), toState_f s n b (by omega) (by omega) _ (by omega) (by omega)]
          simp only [Option.bind_some]
          rw [toState_f s' n' b' (by omega) (by omega) _ (by omega) (by omega)]
          simp only [Option.bind_some]
          obtain ⟨v, e1, e2⟩ := same s n b s' n' b' hs.1 hn.1 hs'.1 hn'.1 (s.length + n.length + s'.length + n'.length + 4) (by omega) (by omega) (by omega) (by omega)
          rw [e1, e2]
          simp only [Option.bind_some, bne_self_eq_false, Bool.false_eq_true, if_false, laws_FnExactSameState.j0]
          rw [toState_f s n b (by omega) (by omega) _ (by omega) (by omega)]
          simp only [Option.bind_some]
          rw [eqState_f s n b (by omega) (by omega) _ (by omega) (by omega)]
          simp only [Option.bind_some, if_true]
          rw [toState_f s' n' b' (by omega) (by omega) _ (by omega) (by omega)]
          simp only [Option.bind_some]
          rw [eqState_f s' n' b' (by omega) (by omega) _ (by omega) (by omega)]
          simp
end Go.Proofs.Ytfhklbbpfofhpaa.Pure
