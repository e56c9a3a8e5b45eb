/- NewNode of the program and of the reference return the same, in new memory, for all stakes; no condition. -/
import Derived.Test.YtgnhdomnlaijpaaDefFnExactNewNode
import Derived.Test.YtgnhdomnlaijpaaPx
import Derived.Test.YtgnhdomnlaijpaaOv
namespace Go.Proofs.Ytgnhdomnlaijpaa.Pure
open Go.RowKit Go.Proofs.Ytgnhdomnlaijpaa.PFnExactNewNode Go.Proofs.YtgnhdomnlaijpaaW.PrintWords Go.Proofs.YtgnhdomnlaijpaaW.PrintLast Go.Proofs.YtgnhdomnlaijpaaW.PrintMore Go.Proofs.Ytgnhdomnlaijpaa.Px Go.Proofs.Ytgnhdomnlaijpaa.Ov
namespace FnExactNewNodeLaw
theorem toIntS_l (l : List Int) (hm : l.length ≤ maxLen) (d : Nat) : ∀ (k i : Nat), i + d = l.length → d < k →
    laws_toIntS.l0 k l (l.take i ++ List.replicate (l.length - i) 0) (i : Int) = some l := by
  induction d with
  | zero =>
    intro k i hi hk
    obtain ⟨k, rfl, _⟩ := succ_of hk
    have e : i = l.length := by omega
    subst e
    simp only [laws_toIntS.l0]
    rw [if_neg (by omega)]
    simp
  | succ d ih =>
    intro k i hi hk
    obtain ⟨k, rfl, hk⟩ := succ_of hk
    have hl : i < l.length := by omega
    simp only [laws_toIntS.l0]
    rw [if_pos (by omega), if_pos (by omega), if_pos (by rw [length_step _ _ _ (by omega)]; omega), rd_nat hl, Int.toNat_natCast, set_step l 0 i hl, wrap_succ hl hm]
    exact ih k (i + 1) (by omega) (by omega)
theorem toIntS_f (l : List Int) (hm : l.length ≤ 35184372088832) (k : Nat) (hk : l.length < k) : laws_toIntS.f k l = some l := by
  unfold laws_toIntS.f
  rw [if_pos (by omega), if_pos (by simpa using hm), Int.toNat_natCast]
  simpa using toIntS_l l (by unfold maxLen; omega) l.length k 0 (by omega) hk
theorem eqIntS_l (a : List Int) (hm : a.length ≤ maxLen) (d : Nat) : ∀ (k i : Nat), i + d = a.length → d < k →
    laws_eqIntS.l0 k a a (i : Int) = some true := by
  induction d with
  | zero =>
    intro k i hi hk
    obtain ⟨k, rfl, _⟩ := succ_of hk
    simp only [laws_eqIntS.l0]
    rw [if_neg (by omega)]
  | succ d ih =>
    intro k i hi hk
    obtain ⟨k, rfl, hk⟩ := succ_of hk
    have hl : i < a.length := by omega
    simp only [laws_eqIntS.l0]
    rw [if_pos (by omega), if_pos (by omega), if_pos (by omega)]
    simp only [if_true]
    rw [wrap_succ hl hm]
    exact ih k (i + 1) (by omega) (by omega)
theorem eqIntS_f (a : List Int) (hm : a.length ≤ maxLen) (k : Nat) (hk : a.length < k) : laws_eqIntS.f k a a = some true := by
  unfold laws_eqIntS.f
  rw [if_pos rfl]
  exact eqIntS_l a hm a.length k 0 (by omega) hk
theorem l1In_f (a b c : Int) : spec_l1In.f a b c = some (decide (b ≤ a ∧ a ≤ c)) := by
  unfold spec_l1In.f
  by_cases h : b ≤ a <;> simp [h]
theorem l1All_l (l : List Int) (a b : Int) (hm : l.length ≤ maxLen) (d : Nat) : ∀ (k i : Nat), i + d = l.length → d < k →
    spec_l1All.l0 k a b l (l.length : Int) (i : Int) = some ((l.drop i).all fun n => decide (a ≤ n ∧ n ≤ b)) := by
  induction d with
  | zero =>
    intro k i hi hk
    obtain ⟨k, rfl, _⟩ := succ_of hk
    simp only [spec_l1All.l0]
    rw [if_neg (by omega), List.drop_of_length_le (by omega)]; rfl
  | succ d ih =>
    intro k i hi hk
    obtain ⟨k, rfl, hk⟩ := succ_of hk
    have hl : i < l.length := by omega
    simp only [spec_l1All.l0]
    rw [if_pos (by omega), if_pos (by omega), if_pos (by omega), rd_nat hl, l1In_f, all_drop _ l i hl, wrap_succ hl hm]
    simp only [Option.bind_some]
    rw [ih k (i + 1) (by omega) (by omega)]
    cases decide (a ≤ l[i] ∧ l[i] ≤ b) <;> simp
theorem l1All_f (l : List Int) (a b : Int) (hm : l.length ≤ maxLen) (k : Nat) (hk : l.length < k) : spec_l1All.f k l a b = some (l.all fun n => decide (a ≤ n ∧ n ≤ b)) := by
  unfold spec_l1All.f
  simpa using l1All_l l a b hm l.length k 0 (by omega) hk
theorem markIntS_l (l : List Int) (a : Int) (ha : 0 ≤ a) (ha2 : a + (l.length : Int) ≤ 4611686018427387904) (d : Nat) : ∀ (k i : Nat), i + d = l.length → d < k →
    laws_markIntS.l0 k (marks a i ++ l.drop i) (a + (i : Int)) (i : Int) = some (a + (l.length : Int), marks a l.length) := by
  induction d with
  | zero =>
    intro k i hi hk
    obtain ⟨k, rfl, _⟩ := succ_of hk
    have e : i = l.length := by omega
    subst e
    simp only [laws_markIntS.l0]
    rw [if_neg (by rw [mark_length a l _ (by omega)]; omega), List.drop_length, List.append_nil]
  | succ d ih =>
    intro k i hi hk
    obtain ⟨k, rfl, hk⟩ := succ_of hk
    have hl : i < l.length := by omega
    simp only [laws_markIntS.l0]
    rw [if_pos (by rw [mark_length a l _ (by omega)]; omega), if_pos (by omega), Int.toNat_natCast, mark_step a l i hl, wrap_succ hl (by unfold maxLen; omega), wrap_id (by omega) (by omega)]
    have := ih k (i + 1) (by omega) (by omega)
    have e : a + ((i + 1 : Nat) : Int) = a + (i : Int) + 1 := by omega
    rw [e] at this
    exact this
theorem markIntS_f (l : List Int) (a : Int) (ha : 0 ≤ a) (ha2 : a + (l.length : Int) ≤ 4611686018427387904) (k : Nat) (hk : l.length < k) : laws_markIntS.f k l a = some (a + (l.length : Int), marks a l.length) := by
  unfold laws_markIntS.f
  have := markIntS_l l a ha ha2 l.length k 0 (by omega) hk
  simpa [marks] using this
theorem heldIntS_l (n : Nat) (a : Int) (ha : 0 ≤ a) (ha2 : a + (n : Int) ≤ 4611686018427387904) (d : Nat) : ∀ (k i : Nat), i + d = n → d < k →
    laws_heldIntS.l0 k (marks a n) (a + (i : Int)) (i : Int) = some (a + (n : Int)) := by
  induction d with
  | zero =>
    intro k i hi hk
    obtain ⟨k, rfl, _⟩ := succ_of hk
    simp only [laws_heldIntS.l0]
    rw [if_neg (by rw [marks_length]; omega)]
    congr 1; omega
  | succ d ih =>
    intro k i hi hk
    obtain ⟨k, rfl, hk⟩ := succ_of hk
    have hl : i < n := by omega
    simp only [laws_heldIntS.l0]
    rw [if_pos (by rw [marks_length]; omega), if_pos (by omega), rd_nat (by rw [marks_length]; exact hl), marks_get a n i hl, if_pos rfl, wrap_succ hl (by unfold maxLen; omega), wrap_id (by omega) (by omega)]
    have := ih k (i + 1) (by omega) (by omega)
    have e : a + ((i + 1 : Nat) : Int) = a + (i : Int) + 1 := by omega
    rw [e] at this
    exact this
theorem heldIntS_f (n : Nat) (a : Int) (ha : 0 ≤ a) (ha2 : a + (n : Int) ≤ 4611686018427387904) (k : Nat) (hk : n < k) : laws_heldIntS.f k (marks a n) a = some (a + (n : Int)) := by
  unfold laws_heldIntS.f
  have := heldIntS_l n a ha ha2 n k 0 (by omega) hk
  simpa using this
end FnExactNewNodeLaw
open FnExactNewNodeLaw
def nodeOf (l : List Int) : List Int × List S64 × Bool := if areStakesB l = true then (l, [], true) else ([], [], false)
theorem spec_same (l : List Int) (hm : l.length ≤ 1048576) (k : Nat) (hk : l.length < k) : spec_NewNode.f k l = some (nodeOf l) := by
  unfold spec_NewNode.f spec_GoodStakes.f nodeOf areStakesB
  rw [l1In_f]
  simp only [Option.bind_some, decide_eq_true_eq]
  by_cases h : (1 : Int) ≤ (l.length : Int) ∧ (l.length : Int) ≤ 10
  · rw [if_pos h, l1All_f l _ _ (by unfold maxLen; omega) k hk, decide_eq_true (show 1 ≤ l.length ∧ l.length ≤ 10 by omega)]
    simp only [Option.bind_some, Bool.true_and]
    cases l.all fun n => decide ((1 : Int) ≤ n ∧ n ≤ 1000)
    · simp
    · simp only [if_true]
      rw [if_pos (by simp; omega)]; simp
  · rw [if_neg h, decide_eq_false (show ¬ (1 ≤ l.length ∧ l.length ≤ 10) by omega)]; simp
theorem impl_same (l : List Int) (hm : l.length ≤ 1048576) : impl_NewNode.f l = some (nodeOf l) := by
  unfold impl_NewNode.f impl_areStakes.f nodeOf slices_Clone_int_int.f
  simp only [Option.bind_some]
  cases areStakesB l
  · simp
  · simp only [if_true]
    rw [if_pos (by simp; omega)]; simp
theorem eqNode_f (s : List Int) (hm : s.length ≤ maxLen) (k : Nat) (hk : s.length + 1 < k) : laws_eqNode.f k s [] s [] = some true := by
  obtain ⟨k, rfl, hk⟩ := succ_of hk
  unfold laws_eqNode.f laws_eqNewsS.f
  rw [eqIntS_f s hm _ (by omega)]
  simp [laws_eqNewsS.l0]
theorem markNode_f (s : List Int) (hm : s.length ≤ 1048576) (k : Nat) (hk : s.length + 1 < k) : laws_markNode.f k s [] 1 = some (1 + (s.length : Int), marks 1 s.length, []) := by
  obtain ⟨k, rfl, hk⟩ := succ_of hk
  unfold laws_markNode.f laws_markNewsS.f
  rw [markIntS_f s 1 (by omega) (by omega) _ (by omega)]
  simp [laws_markNewsS.l0]
theorem heldNode_f (n : Nat) (hm : n ≤ 1048576) (k : Nat) (hk : n + 1 < k) : laws_heldNode.f k (marks 1 n) [] 1 = some (1 + (n : Int)) := by
  obtain ⟨k, rfl, hk⟩ := succ_of hk
  unfold laws_heldNode.f laws_heldNewsS.f
  rw [heldIntS_f n 1 (by omega) (by omega) _ (by omega)]
  simp only [Option.bind_some, laws_heldNewsS.l0]
  rw [if_neg (by omega), if_neg (by simp)]
  simp only [Option.bind_some]
  rw [if_neg (by omega)]
theorem FnExactNewNode : FnExactNewNodePure := by
  intro l hl
  have hm := hl.1
  refine ⟨l.length + 70, ?_⟩
  unfold laws_FnExactNewNode.f
  by_cases h1 : (l.length : Int) > 1048576
  · rw [if_pos h1]
  · rw [if_neg h1, toIntS_f l (by omega) _ (by omega)]
    simp only [Option.bind_some]
    rw [spec_same l (by omega) _ (by omega), impl_same l (by omega)]
    obtain ⟨s, b, e, hs⟩ : ∃ (s : List Int) (b : Bool), nodeOf l = (s, [], b) ∧ s.length ≤ l.length := by
      unfold nodeOf
      cases areStakesB l
      · exact ⟨[], false, rfl, by simp⟩
      · exact ⟨l, true, rfl, Nat.le_refl _⟩
    have hu : s.length ≤ maxLen := by unfold maxLen; omega
    rw [e]
    simp only [Option.bind_some, laws_FnExactNewNode.j0, laws_FnExactNewNode.j1, laws_FnExactNewNode.j2, bne_self_eq_false]
    rw [eqNode_f s hu _ (by omega)]
    simp only [Option.bind_some, if_true, Bool.false_eq_true, if_false]
    rw [toIntS_f l (by omega) _ (by omega)]
    simp only [Option.bind_some]
    rw [eqIntS_f l (by unfold maxLen; omega) _ (by omega)]
    simp only [Option.bind_some, if_true]
    rw [markIntS_f l 1 (by omega) (by omega) _ (by omega)]
    simp only [Option.bind_some]
    rw [if_neg (by omega), eqNode_f s hu _ (by omega)]
    simp only [Option.bind_some, if_true]
    rw [markNode_f s (by omega) _ (by omega)]
    simp only [Option.bind_some]
    rw [heldNode_f s.length (by omega) _ (by omega)]
    simp only [Option.bind_some]
    rw [if_neg (by omega)]
    simp only [if_true]
    rw [toIntS_f l (by omega) _ (by omega)]
    simp only [Option.bind_some]
    rw [impl_same l (by omega), e]
    simp only [Option.bind_some, bne_self_eq_false]
    rw [eqNode_f s hu _ (by omega)]
    simp only [if_true, Option.bind_some, Bool.false_eq_true, if_false]
    rw [heldNode_f s.length (by omega) _ (by omega)]
    simp only [Option.bind_some]
    rw [if_neg (by omega)]
    simp
end Go.Proofs.Ytgnhdomnlaijpaa.Pure
