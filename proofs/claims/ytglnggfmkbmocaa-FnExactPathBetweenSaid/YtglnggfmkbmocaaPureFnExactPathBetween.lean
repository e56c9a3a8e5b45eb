/- PathBetween of the program and of the reference return the same, in new memory, for every list of blocks and two numbers; no condition. -/
import Derived.Test.YtglnggfmkbmocaaDefFnExactPathBetween
import Derived.Test.YtglnggfmkbmocaaPx
import Derived.Test.YtglnggfmkbmocaaOv
namespace Go.Proofs.Ytglnggfmkbmocaa.Pure
open Go.RowKit Go.Proofs.Ytglnggfmkbmocaa.PFnExactPathBetween Go.Proofs.YtglnggfmkbmocaaW.PrintWords Go.Proofs.YtglnggfmkbmocaaW.PrintLast Go.Proofs.YtglnggfmkbmocaaW.PrintMore Go.Proofs.Ytglnggfmkbmocaa.Px Go.Proofs.Ytglnggfmkbmocaa.Ov
namespace FnExactPathBetweenLaw
def cvBlock (x : S92) : S90 := ⟨x.f0, x.f1⟩
theorem rdB (l : List S90) (i : Nat) (h : i < l.length) : rd_T90 l (i : Int) = l[i] := by unfold rd_T90; exact getD_nat h
theorem toBlockS_l (l : List S92) (hm : l.length ≤ maxLen) (d : Nat) : ∀ (k i : Nat), i + d = l.length → d < k →
    laws_toBlockS.l0 k l ((l.map cvBlock).take i ++ List.replicate ((l.map cvBlock).length - i) z90) (i : Int) = some (l.map cvBlock) := by
  induction d with
  | zero =>
    intro k i hi hk
    obtain ⟨k, rfl, _⟩ := succ_of hk
    have e : i = (l.map cvBlock).length := by rw [List.length_map]; omega
    simp only [laws_toBlockS.l0]
    rw [if_neg (by omega), e, List.take_length, Nat.sub_self, List.replicate_zero, List.append_nil]
  | succ d ih =>
    intro k i hi hk
    obtain ⟨k, rfl, hk⟩ := succ_of hk
    have hl : i < l.length := by omega
    have hl2 : i < (l.map cvBlock).length := by rw [List.length_map]; omega
    simp only [laws_toBlockS.l0, laws_toBlock.f, Option.bind_some]
    rw [if_pos (by omega), if_pos (by omega), if_pos (by rw [length_step _ _ _ (by omega)]; omega), Int.toNat_natCast]
    have e : (⟨(rd_T92 l i).f0, (rd_T92 l i).f1⟩ : S90) = (l.map cvBlock)[i] := by
      rw [List.getElem_map]; unfold rd_T92 cvBlock; rw [getD_nat hl]
    rw [e, set_step _ _ i hl2, wrap_succ hl hm]
    exact ih k (i + 1) (by omega) (by omega)
theorem toBlockS_f (l : List S92) (hm : l.length ≤ 1048576) (k : Nat) (hk : l.length < k) : laws_toBlockS.f k l = some (l.map cvBlock) := by
  unfold laws_toBlockS.f
  rw [if_pos (by omega), if_pos (by simp; omega), Int.toNat_natCast]
  have := toBlockS_l l (by unfold maxLen; omega) l.length k 0 (by omega) hk
  simpa using this
theorem szBlockS_f (l : List S92) (a : Int) (h : l.length ≤ maxLen) (h0 : 0 ≤ a) (h1 : a ≤ 1048576) : laws_szBlockS.f l a = some (if a < (l.length : Int) then -1 else a - (l.length : Int)) := by
  unfold laws_szBlockS.f
  unfold maxLen at h
  rw [wrap_id (by omega) (by omega)]
  by_cases h2 : a < (l.length : Int)
  · rw [if_pos (by omega), if_pos h2]
  · rw [if_neg (by omega), if_neg h2]
theorem eqBlockS_l (a : List S90) (hm : a.length ≤ maxLen) (d : Nat) : ∀ (k i : Nat), i + d = a.length → d < k →
    laws_eqBlockS.l0 k a a (i : Int) = some true := by
  induction d with
  | zero =>
    intro k i hi hk
    obtain ⟨k, rfl, _⟩ := succ_of hk
    simp only [laws_eqBlockS.l0]
    rw [if_neg (by omega)]
  | succ d ih =>
    intro k i hi hk
    obtain ⟨k, rfl, hk⟩ := succ_of hk
    have hl : i < a.length := by omega
    simp only [laws_eqBlockS.l0]
    rw [if_pos (by omega), if_pos (by omega), if_pos (by omega)]
    simp only [laws_eqBlock.f, if_true, Option.bind_some]
    rw [wrap_succ hl hm]
    exact ih k (i + 1) (by omega) (by omega)
theorem eqBlockS_f (a : List S90) (hm : a.length ≤ maxLen) (k : Nat) (hk : a.length < k) : laws_eqBlockS.f k a a = some true := by
  unfold laws_eqBlockS.f
  rw [if_pos rfl]
  exact eqBlockS_l a hm a.length k 0 (by omega) hk
theorem markBlockS_l (n : Nat) (hn : n ≤ maxLen) (d : Nat) : ∀ (k i : Nat) (l : List S90) (a : Int), l.length = n → i + d = n → d < k → 0 ≤ a → a + 2 * (d : Int) ≤ 4611686018427387904 →
    ∃ l', laws_markBlockS.l0 k l a (i : Int) = some (a + 2 * (d : Int), l') := by
  induction d with
  | zero =>
    intro k i l a hl hi hk _ _
    obtain ⟨k, rfl, _⟩ := succ_of hk
    simp only [laws_markBlockS.l0]
    rw [if_neg (by omega)]
    exact ⟨l, by simp⟩
  | succ d ih =>
    intro k i l a hl hi hk h0 h1
    obtain ⟨k, rfl, hk⟩ := succ_of hk
    have h2 : i < l.length := by omega
    simp only [laws_markBlockS.l0]
    rw [if_pos (by omega), if_pos (by omega)]
    simp only [Option.bind_some]
    have w1 : wrap64 (a + 1) = a + 1 := wrap_id (by omega) (by omega)
    have w2 : wrap64 (a + 1 + 1) = a + 1 + 1 := wrap_id (by omega) (by omega)
    simp only [w1, w2]
    rw [wrap_succ h2 (by omega), show a + 2 * ((d + 1 : Nat) : Int) = (a + 1 + 1) + 2 * (d : Int) by omega]
    exact ih k (i + 1) _ _ (by simp only [List.length_set]; exact hl) (by omega) (by omega) (by omega) (by omega)
theorem markBlockS_f (l : List S90) (a : Int) (hl : l.length ≤ maxLen) (h0 : 0 ≤ a) (h1 : a + 2 * (l.length : Int) ≤ 4611686018427387904) (k : Nat) (hk : l.length < k) :
    ∃ l', laws_markBlockS.f k l a = some (a + 2 * (l.length : Int), l') := by
  unfold laws_markBlockS.f
  have := markBlockS_l l.length hl l.length k 0 l a rfl (by omega) hk h0 h1
  simpa using this
theorem at_last (A M' B : List Int) (x z : Int) (h : A.length + M'.length + 1 < (A ++ x :: (M' ++ [z]) ++ B).length) : (A ++ x :: (M' ++ [z]) ++ B)[A.length + M'.length + 1] = z := by
  have e : (A ++ x :: (M' ++ [z]) ++ B) = (A ++ x :: M') ++ (z :: B) := by simp
  rw [List.getElem_of_eq e, List.getElem_append_right (by simp only [List.length_append, List.length_cons]; omega)]
  have j : A.length + M'.length + 1 - (A ++ x :: M').length = 0 := by simp only [List.length_append, List.length_cons]; omega
  simp only [j, List.getElem_cons_zero]
theorem reverse_l (n : Nat) : ∀ (M A B : List Int) (k : Nat), M.length = n → A.length = B.length → A.length + M.length + B.length ≤ maxLen → n < k →
    slices_Reverse_int_int.l0 k (A ++ M ++ B) (A.length : Int) ((A.length : Int) + (M.length : Int) - 1) = some (A ++ M.reverse ++ B) := by
  induction n using Nat.strongRecOn with
  | _ n ih =>
    intro M A B k hM hAB hlen hk
    obtain ⟨k, rfl, hk⟩ := succ_of hk
    unfold maxLen at hlen
    simp only [slices_Reverse_int_int.l0]
    match M, hM with
    | [], hM => rw [if_neg (by simp only [List.length_nil]; omega)]; rfl
    | [x], hM => rw [if_neg (by simp only [List.length_cons, List.length_nil]; omega)]; rfl
    | x :: y :: r, hM =>
      obtain ⟨M', z, e⟩ : ∃ (M' : List Int) (z : Int), y :: r = M' ++ [z] := ⟨(y :: r).dropLast, (y :: r).getLast (by simp), (List.dropLast_concat_getLast (by simp)).symm⟩
      rw [e] at hM hlen ⊢
      simp only [List.length_cons, List.length_append, List.length_nil] at hM hlen ⊢
      have e1 : A ++ x :: (M' ++ [z]) ++ B = A ++ ([x] ++ M' ++ [z]) ++ B := by simp
      have i1 : ((A.length : Int) + ((M'.length + (0 + 1) + 1 : Nat) : Int) - 1) = ((A.length + M'.length + 1 : Nat) : Int) := by omega
      rw [i1]
      have hT : (A ++ x :: (M' ++ [z]) ++ B).length = A.length + M'.length + 2 + B.length := by simp; omega
      rw [if_pos (by omega), if_pos (by omega), if_pos (by omega), if_pos (by omega), if_pos (by omega)]
      have r1 : rd (A ++ x :: (M' ++ [z]) ++ B) ((A.length + M'.length + 1 : Nat) : Int) = z := by
        rw [rd_nat (by rw [hT]; omega)]
        exact at_last A M' B x z _
      have r0 : rd (A ++ x :: (M' ++ [z]) ++ B) (A.length : Int) = x := by
        rw [rd_nat (by rw [hT]; omega)]
        simp
      rw [r0, r1, Int.toNat_natCast, Int.toNat_natCast]
      have es : ((A ++ x :: (M' ++ [z]) ++ B).set A.length z).set (A.length + M'.length + 1) x = (A ++ [z]) ++ M' ++ ([x] ++ B) := by
        apply List.ext_getElem
        · simp
        · intro i h1 h2
          simp only [List.getElem_set, List.getElem_append, List.getElem_cons, List.length_append, List.length_cons, List.length_nil]
          grind
      rw [es, wrap_id (by omega) (by omega), wrap_id (by omega) (by omega)]
      have := ih M'.length (by omega) M' (A ++ [z]) ([x] ++ B) k rfl (by simp; omega) (by unfold maxLen; simp; omega) (by omega)
      simp only [List.length_append, List.length_cons, List.length_nil] at this
      have j1 : ((A.length + (0 + 1) : Nat) : Int) = (A.length : Int) + 1 := by omega
      have j2 : (A.length : Int) + 1 + (M'.length : Int) - 1 = ((A.length + M'.length + 1 : Nat) : Int) - 1 := by omega
      rw [j1, j2] at this
      rw [this]
      simp
theorem reverse_f (l : List Int) (hl : l.length ≤ maxLen) (k : Nat) (hk : l.length < k) : slices_Reverse_int_int.f k l = some l.reverse := by
  unfold slices_Reverse_int_int.f
  unfold maxLen at hl
  rw [wrap_id (by omega) (by omega)]
  have := reverse_l l.length l [] [] k rfl rfl (by unfold maxLen; simp; omega) hk
  simpa using this
theorem l1In_f (a b c : Int) : spec_l1In.f a b c = some (decide (b ≤ a ∧ a ≤ c)) := by
  unfold spec_l1In.f
  by_cases h : b ≤ a <;> simp [h]
def okAt (t : List S90) (i : Nat) : Bool :=
  if (i : Int) = 0 then (decide ((rd_T90 t i).f0 = -1) && decide ((rd_T90 t i).f1 = 0)) else
    (decide (0 ≤ (rd_T90 t i).f0 ∧ (rd_T90 t i).f0 ≤ (i : Int) - 1) && (decide (1 ≤ (rd_T90 t i).f1 ∧ (rd_T90 t i).f1 ≤ 4000) && decide (¬ (rd_T90 t i).f1 ≤ (rd_T90 t (rd_T90 t i).f0).f1)))
def allOk (t : List S90) : Nat → Nat → Bool
  | 0, _ => true
  | d + 1, i => okAt t i && allOk t d (i + 1)
theorem goodTree_l (t : List S90) (hm : t.length ≤ maxLen) (d : Nat) : ∀ (k i : Nat), i + d = t.length → d < k →
    spec_GoodTree.l0 k t t (t.length : Int) (i : Int) = some (allOk t d i && decide ((1 : Int) ≤ (t.length : Int) ∧ (t.length : Int) ≤ 24)) := by
  induction d with
  | zero =>
    intro k i hi hk
    obtain ⟨k, rfl, _⟩ := succ_of hk
    simp only [spec_GoodTree.l0]
    rw [if_neg (by omega), l1In_f]
    simp [allOk]
  | succ d ih =>
    intro k i hi hk
    obtain ⟨k, rfl, hk⟩ := succ_of hk
    have hl : i < t.length := by omega
    have up := ih k (i + 1) (by omega) (by omega)
    simp only [spec_GoodTree.l0, allOk, okAt]
    have hw : wrap64 ((i : Int) - 1) = (i : Int) - 1 := by unfold maxLen at hm; exact wrap_id (by omega) (by omega)
    rw [if_pos (by omega), if_pos (by omega), if_pos (by omega), wrap_succ hl hm, up, hw]
    simp only [l1In_f, Option.bind_some]
    by_cases h0 : (i : Int) = 0
    · rw [if_pos h0, if_pos h0]
      by_cases h1 : (rd_T90 t i).f0 = -1 <;> by_cases h2 : (rd_T90 t i).f1 = 0 <;> simp [h1, h2]
    · rw [if_neg h0, if_neg h0]
      by_cases h1 : 0 ≤ (rd_T90 t i).f0 ∧ (rd_T90 t i).f0 ≤ (i : Int) - 1
      · rw [decide_eq_true h1, if_pos (show (0 : Int) ≤ (rd_T90 t i).f0 from h1.1), if_pos (show (rd_T90 t i).f0 < (t.length : Int) by omega)]
        by_cases h2 : 1 ≤ (rd_T90 t i).f1 ∧ (rd_T90 t i).f1 ≤ 4000
        · rw [decide_eq_true h2]
          by_cases h3 : (rd_T90 t i).f1 ≤ (rd_T90 t (rd_T90 t i).f0).f1
          · simp [h3]
          · simp [h3]
        · rw [decide_eq_false h2]; simp
      · rw [decide_eq_false h1]; simp
theorem goodTree_f (t : List S90) (hm : t.length ≤ maxLen) (k : Nat) (hk : t.length < k) :
    spec_GoodTree.f k t = some (allOk t t.length 0 && decide ((1 : Int) ≤ (t.length : Int) ∧ (t.length : Int) ≤ 24)) := by
  unfold spec_GoodTree.f
  exact goodTree_l t hm t.length k 0 (by omega) hk
theorem within_f (a b c : Int) : impl_within.f a b c = some (decide (b ≤ a ∧ a ≤ c)) := rfl
theorem eqIntS_l (a : List Int) (hm : a.length ≤ maxLen) (d : Nat) : ∀ (k i : Nat), i + d = a.length → d < k →
    laws_eqIntS.l0 k a a (i : Int) = some true := by
  induction d with
  | zero =>
    intro k i hi hk
    obtain ⟨k, rfl, _⟩ := succ_of hk
    simp only [laws_eqIntS.l0]
    rw [if_neg (by omega)]
  | succ d ih =>
    intro k i hi hk
    obtain ⟨k, rfl, hk⟩ := succ_of hk
    have hl : i < a.length := by omega
    simp only [laws_eqIntS.l0]
    rw [if_pos (by omega), if_pos (by omega), if_pos (by omega)]
    simp only [if_true]
    rw [wrap_succ hl hm]
    exact ih k (i + 1) (by omega) (by omega)
theorem eqIntS_f (a : List Int) (hm : a.length ≤ maxLen) (k : Nat) (hk : a.length < k) : laws_eqIntS.f k a a = some true := by
  unfold laws_eqIntS.f
  rw [if_pos rfl]
  exact eqIntS_l a hm a.length k 0 (by omega) hk
theorem markIntS_l (l : List Int) (a : Int) (ha : 0 ≤ a) (ha2 : a + (l.length : Int) ≤ 4611686018427387904) (d : Nat) : ∀ (k i : Nat), i + d = l.length → d < k →
    laws_markIntS.l0 k (marks a i ++ l.drop i) (a + (i : Int)) (i : Int) = some (a + (l.length : Int), marks a l.length) := by
  induction d with
  | zero =>
    intro k i hi hk
    obtain ⟨k, rfl, _⟩ := succ_of hk
    have e : i = l.length := by omega
    subst e
    simp only [laws_markIntS.l0]
    rw [if_neg (by rw [mark_length a l _ (by omega)]; omega), List.drop_length, List.append_nil]
  | succ d ih =>
    intro k i hi hk
    obtain ⟨k, rfl, hk⟩ := succ_of hk
    have hl : i < l.length := by omega
    simp only [laws_markIntS.l0]
    rw [if_pos (by rw [mark_length a l _ (by omega)]; omega), if_pos (by omega), Int.toNat_natCast, mark_step a l i hl, wrap_succ hl (by unfold maxLen; omega), wrap_id (by omega) (by omega)]
    have := ih k (i + 1) (by omega) (by omega)
    have e : a + ((i + 1 : Nat) : Int) = a + (i : Int) + 1 := by omega
    rw [e] at this
    exact this
theorem markIntS_f (l : List Int) (a : Int) (ha : 0 ≤ a) (ha2 : a + (l.length : Int) ≤ 4611686018427387904) (k : Nat) (hk : l.length < k) : laws_markIntS.f k l a = some (a + (l.length : Int), marks a l.length) := by
  unfold laws_markIntS.f
  have := markIntS_l l a ha ha2 l.length k 0 (by omega) hk
  simpa [marks] using this
theorem heldIntS_l (n : Nat) (a : Int) (ha : 0 ≤ a) (ha2 : a + (n : Int) ≤ 4611686018427387904) (d : Nat) : ∀ (k i : Nat), i + d = n → d < k →
    laws_heldIntS.l0 k (marks a n) (a + (i : Int)) (i : Int) = some (a + (n : Int)) := by
  induction d with
  | zero =>
    intro k i hi hk
    obtain ⟨k, rfl, _⟩ := succ_of hk
    simp only [laws_heldIntS.l0]
    rw [if_neg (by rw [marks_length]; omega)]
    congr 1; omega
  | succ d ih =>
    intro k i hi hk
    obtain ⟨k, rfl, hk⟩ := succ_of hk
    have hl : i < n := by omega
    simp only [laws_heldIntS.l0]
    rw [if_pos (by rw [marks_length]; omega), if_pos (by omega), rd_nat (by rw [marks_length]; exact hl), marks_get a n i hl, if_pos rfl, wrap_succ hl (by unfold maxLen; omega), wrap_id (by omega) (by omega)]
    have := ih k (i + 1) (by omega) (by omega)
    have e : a + ((i + 1 : Nat) : Int) = a + (i : Int) + 1 := by omega
    rw [e] at this
    exact this
theorem heldIntS_f (n : Nat) (a : Int) (ha : 0 ≤ a) (ha2 : a + (n : Int) ≤ 4611686018427387904) (k : Nat) (hk : n < k) : laws_heldIntS.f k (marks a n) a = some (a + (n : Int)) := by
  unfold laws_heldIntS.f
  have := heldIntS_l n a ha ha2 n k 0 (by omega) hk
  simpa using this
theorem rd_drop1 (t : List S90) (j : Nat) : rd_T90 (t.drop 1) (j : Int) = rd_T90 t ((j + 1 : Nat) : Int) := by
  unfold rd_T90
  rw [Int.toNat_natCast, Int.toNat_natCast]
  simp only [List.getD_eq_getElem?_getD, List.getElem?_drop, Nat.add_comm]
theorem isTree_l (t : List S90) (hm : t.length ≤ 24) (d : Nat) : ∀ (k j : Nat), j + 1 + d = t.length → d < k → (∀ i, i < j + 1 → 0 ≤ (rd_T90 t (i : Int)).f1 ∧ (rd_T90 t (i : Int)).f1 ≤ 4000) →
    impl_isTree.l0 k t (t.drop 1) ((t.drop 1).length : Int) (j : Int) = some (allOk t d (j + 1)) := by
  have hl1 : (t.drop 1).length = t.length - 1 := List.length_drop
  induction d with
  | zero =>
    intro k j hj hk hs
    obtain ⟨k, rfl, _⟩ := succ_of hk
    simp only [impl_isTree.l0]
    rw [if_neg (by omega)]
    rfl
  | succ d ih =>
    intro k j hj hk hs
    obtain ⟨k, rfl, hk⟩ := succ_of hk
    simp only [impl_isTree.l0, allOk, okAt, within_f, Option.bind_some, rd_drop1]
    rw [if_pos (by omega), if_pos (by omega), if_pos (by omega), if_neg (show ¬ (((j + 1 : Nat) : Int) = 0) by omega)]
    generalize hx : rd_T90 t ((j + 1 : Nat) : Int) = x
    by_cases h1 : 0 ≤ x.f0 ∧ x.f0 ≤ (j : Int)
    · have h1' : 0 ≤ x.f0 ∧ x.f0 ≤ ((j + 1 : Nat) : Int) - 1 := by omega
      obtain ⟨p, hp⟩ := Int.eq_ofNat_of_zero_le h1.1
      have hsp := hs p (by omega)
      rw [decide_eq_true h1, decide_eq_true h1', if_pos rfl, if_pos h1.1, if_pos (by omega), hp, wrap_id (by omega) (by omega)]
      by_cases h2 : (rd_T90 t (p : Int)).f1 + 1 ≤ x.f1 ∧ x.f1 ≤ 4000
      · have h2' : 1 ≤ x.f1 ∧ x.f1 ≤ 4000 := by omega
        have h2'' : ¬ x.f1 ≤ (rd_T90 t (p : Int)).f1 := by omega
        rw [decide_eq_true h2, decide_eq_true h2', decide_eq_true h2'', if_pos rfl, wrap_id (by omega) (by omega)]
        have up := ih k (j + 1) (by omega) (by omega) (by
          intro i hi
          by_cases hij : i = j + 1
          · subst hij; rw [hx]; omega
          · exact hs i (by omega))
        simp only [Bool.true_and]
        exact up
      · rw [decide_eq_false h2, if_neg Bool.false_ne_true]
        by_cases h3 : x.f1 ≤ (rd_T90 t (p : Int)).f1
        · simp [h3]
        · have h4 : ¬ (1 ≤ x.f1 ∧ x.f1 ≤ 4000) := by omega
          rw [decide_eq_false h4]; simp
    · have h1' : ¬ (0 ≤ x.f0 ∧ x.f0 ≤ ((j + 1 : Nat) : Int) - 1) := by omega
      rw [decide_eq_false h1, decide_eq_false h1', if_neg Bool.false_ne_true]
      simp
theorem isTree_f (t : List S90) (k : Nat) (hk : 30 < k) :
    impl_isTree.f k t = some (allOk t t.length 0 && decide ((1 : Int) ≤ (t.length : Int) ∧ (t.length : Int) ≤ 24)) := by
  unfold impl_isTree.f
  simp only [within_f, Option.bind_some]
  obtain ⟨k, rfl, hk⟩ := succ_of hk
  by_cases h : (1 : Int) ≤ (t.length : Int) ∧ (t.length : Int) ≤ 24
  · rw [decide_eq_true h, if_pos rfl, if_pos (by omega)]
    simp only [impl_isTree.j0]
    obtain ⟨d, hd⟩ : ∃ d, t.length = d + 1 := ⟨t.length - 1, by omega⟩
    have e : allOk t t.length 0 = (okAt t 0 && allOk t d 1) := by rw [hd]; rfl
    have e0 : okAt t 0 = (decide ((rd_T90 t 0).f0 = -1) && decide ((rd_T90 t 0).f1 = 0)) := by unfold okAt; rw [if_pos (by omega)]; rfl
    rw [e, e0]
    by_cases h1 : (rd_T90 t 0).f0 = -1
    · by_cases h2 : (rd_T90 t 0).f1 = 0
      · simp only [h1, h2, beq_self_eq_true, Bool.not_true, Bool.or_self, Bool.false_eq_true, if_false, decide_true, Bool.true_and, Bool.and_true]
        rw [if_pos h.1]
        simp only [Option.bind_some]
        have := isTree_l t (by omega) d k 0 (by omega) (by omega) (by
          intro i hi
          have : i = 0 := by omega
          subst this
          rw [Int.natCast_zero, h2]
          omega)
        simpa using this
      · simp [h1, h2]
    · simp [h1]
  · rw [decide_eq_false h, if_neg Bool.false_ne_true]
    simp [impl_isTree.j0]
structure GoodT (t : List S90) : Prop where
  len : t.length ≤ 24
  pos : 1 ≤ t.length
  root : (rd_T90 t 0).f0 = -1
  par : ∀ x : Nat, 1 ≤ x → x < t.length → ∃ p : Nat, p < x ∧ (rd_T90 t (x : Int)).f0 = (p : Int)
theorem allOk_of (t : List S90) : ∀ (d i : Nat), allOk t d i = true → ∀ j, i ≤ j → j < i + d → okAt t j = true
  | 0, i, _, j, h1, h2 => by omega
  | d + 1, i, h, j, h1, h2 => by
    simp only [allOk, Bool.and_eq_true] at h
    by_cases e : j = i
    · subst e; exact h.1
    · exact allOk_of t d (i + 1) h.2 j (by omega) (by omega)
theorem good_of {t : List S90} (h : (allOk t t.length 0 && decide ((1 : Int) ≤ (t.length : Int) ∧ (t.length : Int) ≤ 24)) = true) : GoodT t := by
  rw [Bool.and_eq_true, decide_eq_true_iff] at h
  obtain ⟨h1, h2⟩ := h
  have h3 := allOk_of t t.length 0 h1
  refine ⟨by omega, by omega, ?_, ?_⟩
  · have := h3 0 (by omega) (by omega)
    unfold okAt at this
    rw [if_pos (by omega), Bool.and_eq_true, decide_eq_true_iff] at this
    exact this.1
  · intro x hx hx2
    have := h3 x (by omega) (by omega)
    unfold okAt at this
    rw [if_neg (by omega), Bool.and_eq_true, decide_eq_true_iff] at this
    obtain ⟨p, hp⟩ := Int.eq_ofNat_of_zero_le this.1.1
    exact ⟨p, by omega, hp⟩
def wy (t : List S90) (x : Nat) : List Int := (spec_l3Way.f 64 t (x : Int)).getD []
theorem way_ex (t : List S90) (g : GoodT t) : ∀ x : Nat, x < t.length → ∃ W : List Int, W.length ≤ x + 1 ∧ ∀ k, x + 2 ≤ k → spec_l3Way.f k t (x : Int) = some W := by
  intro x
  induction x using Nat.strongRecOn with
  | _ x ih =>
    intro hx
    have h24 := g.len
    by_cases h0 : 1 ≤ x
    · obtain ⟨p, hp, hpe⟩ := g.par x h0 hx
      obtain ⟨W, hW, hq⟩ := ih p hp (by omega)
      refine ⟨W ++ [(x : Int)], by simp; omega, ?_⟩
      intro k hk
      obtain ⟨k, rfl⟩ : ∃ k', k = k' + 1 := ⟨k - 1, by omega⟩
      simp only [spec_l3Way.f]
      rw [if_neg (by omega), if_pos (by omega), if_pos (by omega), hpe, hq k (by omega)]
      simp only [Option.bind_some]
      rw [if_pos (by omega)]
    · have e : x = 0 := by omega
      subst e
      refine ⟨[(0 : Int)], by simp, ?_⟩
      intro k hk
      obtain ⟨k, rfl⟩ : ∃ k', k = k' + 1 + 1 := ⟨k - 2, by omega⟩
      simp only [spec_l3Way.f]
      rw [if_neg (by omega), if_pos (by omega), if_pos (by omega), show ((0 : Nat) : Int) = 0 from rfl, g.root, if_pos (by omega)]
      simp
theorem wy_f (t : List S90) (g : GoodT t) (x : Nat) (hx : x < t.length) (k : Nat) (hk : x + 2 ≤ k) : spec_l3Way.f k t (x : Int) = some (wy t x) := by
  obtain ⟨W, _, h⟩ := way_ex t g x hx
  have h24 := g.len
  unfold wy
  rw [h k hk, h 64 (by omega)]; rfl
theorem wy_len (t : List S90) (g : GoodT t) (x : Nat) (hx : x < t.length) : (wy t x).length ≤ x + 1 := by
  obtain ⟨W, h1, h⟩ := way_ex t g x hx
  have h24 := g.len
  unfold wy
  rw [h 64 (by omega)]; exact h1
theorem wy_zero (t : List S90) (g : GoodT t) : wy t 0 = [(0 : Int)] := by
  have h24 := g.pos
  have e := wy_f t g 0 (by omega) (0 + 1 + 1) (by omega)
  simp only [spec_l3Way.f] at e
  rw [if_neg (by omega), if_pos (by omega), if_pos (by omega), show ((0 : Nat) : Int) = 0 from rfl, g.root, if_pos (by omega)] at e
  simpa using e.symm
theorem wy_succ (t : List S90) (g : GoodT t) (x p : Nat) (h0 : 1 ≤ x) (hx : x < t.length) (hp : p < x) (hpe : (rd_T90 t (x : Int)).f0 = (p : Int)) : wy t x = wy t p ++ [(x : Int)] := by
  have h24 := g.len
  obtain ⟨k, hk⟩ : ∃ k, k = x + 1 := ⟨_, rfl⟩
  have e := wy_f t g x hx (k + 1) (by omega)
  simp only [spec_l3Way.f] at e
  have hl := wy_len t g p (by omega)
  rw [if_neg (by omega), if_pos (by omega), if_pos (by omega), hpe, wy_f t g p (by omega) k (by omega)] at e
  simp only [Option.bind_some] at e
  rw [if_pos (by omega)] at e
  injection e with e
  exact e.symm
theorem wy_le (t : List S90) (g : GoodT t) : ∀ x : Nat, x < t.length → ∀ m ∈ wy t x, ∃ j : Nat, m = (j : Int) ∧ j ≤ x := by
  intro x
  induction x using Nat.strongRecOn with
  | _ x ih =>
    intro hx m hm
    by_cases h0 : 1 ≤ x
    · obtain ⟨p, hp, hpe⟩ := g.par x h0 hx
      rw [wy_succ t g x p h0 hx hp hpe, List.mem_append] at hm
      rcases hm with h | h
      · obtain ⟨j, h1, h2⟩ := ih p hp (by omega) m h
        exact ⟨j, h1, by omega⟩
      · simp only [List.mem_singleton] at h; exact ⟨x, h, by omega⟩
    · have e : x = 0 := by omega
      subst e
      rw [wy_zero t g] at hm
      simp only [List.mem_singleton] at hm
      exact ⟨0, hm, by omega⟩
theorem wy_last (t : List S90) (g : GoodT t) (x : Nat) (hx : x < t.length) : ∃ P, wy t x = P ++ [(x : Int)] ∧ ∀ m ∈ P, m < (x : Int) := by
  by_cases h0 : 1 ≤ x
  · obtain ⟨p, hp, hpe⟩ := g.par x h0 hx
    refine ⟨wy t p, wy_succ t g x p h0 hx hp hpe, ?_⟩
    intro m hm
    obtain ⟨j, h1, h2⟩ := wy_le t g p (by omega) m hm
    omega
  · have e : x = 0 := by omega
    subst e
    exact ⟨[], by rw [wy_zero t g]; rfl, by simp⟩
theorem wy_self (t : List S90) (g : GoodT t) (x : Nat) (hx : x < t.length) : (x : Int) ∈ wy t x := by
  obtain ⟨P, h, _⟩ := wy_last t g x hx
  rw [h]; simp
end FnExactPathBetweenLaw
open FnExactPathBetweenLaw
theorem specL1 (m : Int) (P R U : List Int) (hm : m ∉ P) (hl : P.length + R.length ≤ 100) (d : Nat) : ∀ (k i : Nat), i + d = P.length → d < k →
    spec_l16Path.l1 k m U (P ++ m :: R) (i : Int) = some (U, R) := by
  have hT : (P ++ m :: R).length = P.length + R.length + 1 := by simp; omega
  induction d with
  | zero =>
    intro k i hi hk
    obtain ⟨k, rfl, _⟩ := succ_of hk
    have e : i = P.length := by omega
    simp only [spec_l16Path.l1]
    have r0 : rd (P ++ m :: R) (i : Int) = m := by rw [rd_nat (by rw [hT]; omega)]; simp [e]
    rw [if_pos (by omega), if_pos (by omega), if_pos r0, wrap_id (by omega) (by omega)]
    simp only [Option.bind_some, List.nil_append, List.length_nil, Nat.zero_add]
    rw [if_pos (by omega), if_pos (by omega)]
    have e2 : ((i : Int) + 1).toNat = P.length + 1 := by omega
    have e3 : (P ++ m :: R).drop (P.length + 1) = R := by rw [List.drop_append]; simp
    rw [e2, e3]
    rw [if_pos (by omega)]
  | succ d ih =>
    intro k i hi hk
    obtain ⟨k, rfl, hk⟩ := succ_of hk
    have hi2 : i < P.length := by omega
    simp only [spec_l16Path.l1]
    have r0 : rd (P ++ m :: R) (i : Int) = P[i] := by rw [rd_nat (by rw [hT]; omega)]; simp [List.getElem_append_left, hi2]
    have r1 : ¬ rd (P ++ m :: R) (i : Int) = m := by rw [r0]; intro h; exact hm (h ▸ List.getElem_mem hi2)
    rw [if_pos (by omega), if_pos (by omega), if_neg r1, wrap_id (by omega) (by omega)]
    exact ih k (i + 1) (by omega) (by omega)
theorem walk (t : List S90) (g : GoodT t) (m : Int) : ∀ x : Nat, x < t.length → m ∈ wy t x → ∃ U P : List Int, wy t x = P ++ m :: U.reverse ∧ m ∉ P ∧ U.length ≤ x ∧
    (∀ (k : Nat) (acc : List Int) (b : Int), acc.length + x ≤ 100 → x + 1 ≤ k → ∃ k', k ≤ k' + x + 1 ∧ spec_l16Path.l0 k t b m acc (x : Int) = (spec_l3Way.f k' t b).bind fun w => spec_l16Path.l1 k' m (acc ++ U) w 0) ∧
    (∀ (k : Nat) (acc : List Int) (b : Int), acc.length + x ≤ 100 → x + 1 ≤ k → ∃ k', k ≤ k' + x + 1 ∧ impl_pathBetween.l0 k t (x : Int) b m acc = impl_pathBetween.l1 k' t b m (acc ++ U) []) ∧
    (∀ (k : Nat) (up acc : List Int), acc.length + x ≤ 100 → x + 1 ≤ k → ∃ k', k ≤ k' + x + 1 ∧ impl_pathBetween.l1 k t (x : Int) m up acc = (slices_Reverse_int_int.f k' (acc ++ U)).bind fun r => some (up, r)) := by
  intro x
  induction x using Nat.strongRecOn with
  | _ x ih =>
    intro hx hm
    have h24 := g.len
    by_cases e : (x : Int) = m
    · obtain ⟨P, hP, hlt⟩ := wy_last t g x hx
      refine ⟨[], P, ?_, ?_, by simp, ?_, ?_, ?_⟩
      · rw [hP, e]; rfl
      · intro h; have := hlt m h; omega
      · intro k acc b ha hk
        obtain ⟨k, rfl⟩ : ∃ k', k = k' + 1 := ⟨k - 1, by omega⟩
        refine ⟨k, by omega, ?_⟩
        simp only [spec_l16Path.l0]
        rw [if_pos e, List.append_nil]
      · intro k acc b ha hk
        obtain ⟨k, rfl⟩ : ∃ k', k = k' + 1 := ⟨k - 1, by omega⟩
        refine ⟨k, by omega, ?_⟩
        simp only [impl_pathBetween.l0]
        rw [if_pos e, List.append_nil]
      · intro k up acc ha hk
        obtain ⟨k, rfl⟩ : ∃ k', k = k' + 1 := ⟨k - 1, by omega⟩
        refine ⟨k, by omega, ?_⟩
        simp only [impl_pathBetween.l1]
        rw [if_pos e, List.append_nil]
    · have h0 : 1 ≤ x := by
        rcases Nat.eq_zero_or_pos x with h | h
        · subst h; rw [wy_zero t g] at hm; simp only [List.mem_singleton] at hm; omega
        · exact h
      obtain ⟨p, hp, hpe⟩ := g.par x h0 hx
      have hws := wy_succ t g x p h0 hx hp hpe
      have hm2 : m ∈ wy t p := by
        rw [hws, List.mem_append] at hm
        rcases hm with h | h
        · exact h
        · simp only [List.mem_singleton] at h; omega
      obtain ⟨U, P, q1, q2, q3, q4, q5, q6⟩ := ih p hp (by omega) hm2
      refine ⟨(x : Int) :: U, P, ?_, q2, by simp; omega, ?_, ?_, ?_⟩
      · rw [hws, q1]; simp
      · intro k acc b ha hk
        obtain ⟨k, rfl⟩ : ∃ k', k = k' + 1 := ⟨k - 1, by omega⟩
        obtain ⟨k', hk', hq⟩ := q4 k (acc ++ [(x : Int)]) b (by simp; omega) (by omega)
        refine ⟨k', by omega, ?_⟩
        simp only [spec_l16Path.l0]
        rw [if_neg e, if_pos (by omega), if_pos (by omega), if_pos (by omega), hpe, hq]
        simp
      · intro k acc b ha hk
        obtain ⟨k, rfl⟩ : ∃ k', k = k' + 1 := ⟨k - 1, by omega⟩
        obtain ⟨k', hk', hq⟩ := q5 k (acc ++ [(x : Int)]) b (by simp; omega) (by omega)
        refine ⟨k', by omega, ?_⟩
        simp only [impl_pathBetween.l0]
        rw [if_neg e, if_pos (by omega), if_pos (by omega), if_pos (by omega), hpe, hq]
        simp
      · intro k up acc ha hk
        obtain ⟨k, rfl⟩ : ∃ k', k = k' + 1 := ⟨k - 1, by omega⟩
        obtain ⟨k', hk', hq⟩ := q6 k up (acc ++ [(x : Int)]) (by simp; omega) (by omega)
        refine ⟨k', by omega, ?_⟩
        simp only [impl_pathBetween.l1]
        rw [if_neg e, if_pos (by omega), if_pos (by omega), if_pos (by omega), hpe, hq]
        simp
theorem has_l (l : List Int) (m : Int) (hm : l.length ≤ maxLen) (d : Nat) : ∀ (k i : Nat), i + d = l.length → d < k → spec_l1Has.l0 k m l (l.length : Int) (i : Int) = some (decide (m ∈ l.drop i)) := by
  induction d with
  | zero =>
    intro k i hi hk
    obtain ⟨k, rfl, _⟩ := succ_of hk
    simp only [spec_l1Has.l0]
    rw [if_neg (by omega), List.drop_of_length_le (by omega)]
    simp
  | succ d ih =>
    intro k i hi hk
    obtain ⟨k, rfl, hk⟩ := succ_of hk
    have hl : i < l.length := by omega
    simp only [spec_l1Has.l0]
    rw [if_pos (by omega), if_pos (by omega), if_pos (by omega), rd_nat hl, wrap_succ hl hm, ih k (i + 1) (by omega) (by omega), List.drop_eq_getElem_cons hl]
    by_cases h : l[i] = m
    · rw [if_pos h, decide_eq_true (List.mem_cons.mpr (Or.inl h.symm))]
    · rw [if_neg h]
      congr 1
      apply decide_eq_decide.mpr
      rw [List.mem_cons]
      exact ⟨Or.inr, fun q => q.elim (fun e => absurd e.symm h) id⟩
theorem above_f (t : List S90) (g : GoodT t) (a : Int) (b : Nat) (hb : b < t.length) (k : Nat) (hk : b + 2 ≤ k) : spec_l3Above.f k t a (b : Int) = some (decide (a ∈ wy t b)) := by
  have h24 := g.len
  unfold spec_l3Above.f spec_l1Has.f
  have hl := wy_len t g b hb
  rw [wy_f t g b hb k hk]
  simp only [Option.bind_some]
  have := has_l (wy t b) a (by unfold maxLen; omega) (wy t b).length k 0 (by omega) (by omega)
  simp only [Int.natCast_zero, List.drop_zero] at this
  rw [this]; rfl
theorem specMeet (t : List S90) (g : GoodT t) (b : Nat) (hb : b < t.length) (m : Int) (hmb : m ∈ wy t b) : ∀ a : Nat, a < t.length → m ∈ wy t a → (∀ x ∈ wy t a, m < x → x ∉ wy t b) → ∀ k, a + b + 3 ≤ k → spec_l3Meet.l0 k t (a : Int) (b : Int) = some m := by
  intro a
  induction a using Nat.strongRecOn with
  | _ a ih =>
    intro ha hma hx k hk
    obtain ⟨k, rfl⟩ : ∃ k', k = k' + 1 := ⟨k - 1, by omega⟩
    simp only [spec_l3Meet.l0]
    rw [above_f t g _ b hb k (by omega)]
    simp only [Option.bind_some]
    by_cases e : (a : Int) = m
    · rw [e, decide_eq_true hmb, if_pos rfl]
    · obtain ⟨j, hj, hj2⟩ := wy_le t g a ha m hma
      have h0 : 1 ≤ a := by omega
      have hn := hx (a : Int) (wy_self t g a ha) (by omega)
      obtain ⟨p, hp, hpe⟩ := g.par a h0 ha
      have hws := wy_succ t g a p h0 ha hp hpe
      have hm2 : m ∈ wy t p := by
        rw [hws, List.mem_append] at hma
        rcases hma with h | h
        · exact h
        · simp only [List.mem_singleton] at h; omega
      rw [decide_eq_false hn, if_neg Bool.false_ne_true, if_pos (by omega), if_pos (by omega), hpe]
      exact ih p hp (by omega) hm2 (fun x h => hx x (by rw [hws]; exact List.mem_append_left _ h)) k (by omega)
theorem implMeet (t : List S90) (g : GoodT t) (s : Nat) : ∀ a b : Nat, a + b = s → a < t.length → b < t.length → ∃ m, (∀ k, a + b + 1 ≤ k → impl_meetOf.l0 k t (a : Int) (b : Int) = some m) ∧ m ∈ wy t a ∧ m ∈ wy t b ∧ ∀ x ∈ wy t a, m < x → x ∉ wy t b := by
  induction s using Nat.strongRecOn with
  | _ s ih =>
    intro a b hs ha hb
    rcases Nat.lt_trichotomy a b with h | h | h
    · obtain ⟨p, hp, hpe⟩ := g.par b (by omega) hb
      have hws := wy_succ t g b p (by omega) hb hp hpe
      obtain ⟨m, h1, h2, h3, h4⟩ := ih (a + p) (by omega) a p rfl ha (by omega)
      refine ⟨m, ?_, h2, by rw [hws]; exact List.mem_append_left _ h3, ?_⟩
      · intro k hk
        obtain ⟨k, rfl⟩ : ∃ k', k = k' + 1 := ⟨k - 1, by omega⟩
        simp only [impl_meetOf.l0]
        rw [if_neg (by omega), if_neg (by omega), if_pos (by omega), if_pos (by omega), hpe]
        exact h1 k (by omega)
      · intro x hx hmx hn
        rw [hws, List.mem_append] at hn
        rcases hn with hn | hn
        · exact h4 x hx hmx hn
        · simp only [List.mem_singleton] at hn
          obtain ⟨j, hj, hj2⟩ := wy_le t g a ha x hx
          omega
    · subst h
      refine ⟨(a : Int), ?_, wy_self t g a ha, wy_self t g a ha, ?_⟩
      · intro k hk
        obtain ⟨k, rfl⟩ : ∃ k', k = k' + 1 := ⟨k - 1, by omega⟩
        simp only [impl_meetOf.l0, if_true]
      · intro x hx hmx
        obtain ⟨j, hj, hj2⟩ := wy_le t g a ha x hx
        omega
    · obtain ⟨p, hp, hpe⟩ := g.par a (by omega) ha
      have hws := wy_succ t g a p (by omega) ha hp hpe
      obtain ⟨m, h1, h2, h3, h4⟩ := ih (p + b) (by omega) p b rfl (by omega) hb
      refine ⟨m, ?_, by rw [hws]; exact List.mem_append_left _ h2, h3, ?_⟩
      · intro k hk
        obtain ⟨k, rfl⟩ : ∃ k', k = k' + 1 := ⟨k - 1, by omega⟩
        simp only [impl_meetOf.l0]
        rw [if_neg (by omega), if_pos (by omega), if_pos (by omega), if_pos (by omega), hpe]
        exact h1 k (by omega)
      · intro x hx hmx
        rw [hws, List.mem_append] at hx
        rcases hx with hx | hx
        · exact h4 x hx hmx
        · simp only [List.mem_singleton] at hx
          intro hn
          obtain ⟨j, hj, hj2⟩ := wy_le t g b hb x hn
          omega
theorem paths (t : List S90) (g : GoodT t) (a b : Nat) (ha : a < t.length) (hb : b < t.length) (k : Nat) (hk : 200 ≤ k) : ∃ U D : List Int, U.length ≤ 24 ∧ D.length ≤ 24 ∧ spec_l16Path.f k t (a : Int) (b : Int) = some (U, D) ∧ impl_pathBetween.f k t (a : Int) (b : Int) = some (U, D) := by
  have h24 := g.len
  obtain ⟨m, h1, h2, h3, h4⟩ := implMeet t g (a + b) a b rfl ha hb
  obtain ⟨U, P, a1, a2, a3, a4, a5, a6⟩ := walk t g m a ha h2
  obtain ⟨V, Q, b1, b2, b3, b4, b5, b6⟩ := walk t g m b hb h3
  have hl := wy_len t g b hb
  rw [b1] at hl
  simp only [List.length_append, List.length_cons, List.length_reverse] at hl
  refine ⟨U, V.reverse, by omega, by simp; omega, ?_, ?_⟩
  · unfold spec_l16Path.f spec_l3Meet.f
    rw [specMeet t g b hb m h3 a ha h2 h4 k (by omega)]
    simp only [Option.bind_some]
    obtain ⟨k', hk', hq⟩ := a4 k [] (b : Int) (by simp; omega) (by omega)
    rw [hq, wy_f t g b hb k' (by omega)]
    simp only [Option.bind_some, List.nil_append]
    rw [b1]
    have := specL1 m Q V.reverse U b2 (by simp; omega) Q.length k' 0 (by omega) (by omega)
    simpa using this
  · unfold impl_pathBetween.f impl_meetOf.f
    rw [h1 k (by omega)]
    simp only [Option.bind_some]
    obtain ⟨k', hk', hq⟩ := a5 k [] (b : Int) (by simp; omega) (by omega)
    rw [hq]
    obtain ⟨k2, hk2, hq2⟩ := b6 k' ([] ++ U) [] (by simp; omega) (by omega)
    rw [hq2, List.nil_append, List.nil_append, reverse_f V (by unfold maxLen; omega) k2 (by omega)]
    rfl
def gB (t : List S90) : Bool := allOk t t.length 0 && decide ((1 : Int) ≤ (t.length : Int) ∧ (t.length : Int) ≤ 24)
theorem there_f (t : List S90) (hm : t.length ≤ maxLen) (a : Int) (k : Nat) (hk : t.length < k) : spec_l3There.f k t a = some (gB t && decide (0 ≤ a ∧ a < (t.length : Int))) := by
  unfold spec_l3There.f
  rw [goodTree_f t hm k hk]
  simp only [Option.bind_some]
  change (if gB t = true then _ else _) = _
  cases gB t
  · simp
  · by_cases h : 0 ≤ a <;> simp [h]
theorem isBlockOf_f (t : List S90) (hm : t.length ≤ maxLen) (a : Int) (k : Nat) (hk : 30 < k) : impl_isBlockOf.f k t a = some (gB t && decide (0 ≤ a ∧ a < (t.length : Int))) := by
  unfold impl_isBlockOf.f
  rw [isTree_f t k hk]
  simp only [Option.bind_some, within_f]
  change (if gB t = true then _ else _) = _
  unfold maxLen at hm
  cases gB t
  · simp
  · rw [wrap_id (by omega) (by omega)]
    simp only [if_true, Bool.true_and]
    congr 1
    by_cases h : 0 ≤ a ∧ a < (t.length : Int)
    · rw [decide_eq_true h, decide_eq_true (by omega)]
    · rw [decide_eq_false h, decide_eq_false (by omega)]
theorem same (t : List S90) (hm : t.length ≤ maxLen) (a b : Int) (k : Nat) (hk : t.length < k) (hk2 : 200 ≤ k) : ∃ (U D : List Int) (c : Bool), U.length ≤ 24 ∧ D.length ≤ 24 ∧ spec_PathBetween.f k t a b = some (U, D, c) ∧ impl_PathBetween.f k t a b = some (U, D, c) := by
  unfold spec_PathBetween.f impl_PathBetween.f
  rw [there_f t hm a k hk, there_f t hm b k hk, isBlockOf_f t hm a k (by omega), isBlockOf_f t hm b k (by omega)]
  simp only [Option.bind_some]
  cases hg : gB t
  · exact ⟨[], [], false, by simp, by simp, by simp, by simp⟩
  · by_cases h1 : 0 ≤ a ∧ a < (t.length : Int)
    · by_cases h2 : 0 ≤ b ∧ b < (t.length : Int)
      · obtain ⟨x, rfl⟩ := Int.eq_ofNat_of_zero_le h1.1
        obtain ⟨y, rfl⟩ := Int.eq_ofNat_of_zero_le h2.1
        obtain ⟨U, D, q1, q2, q3, q4⟩ := paths t (good_of hg) x y (by omega) (by omega) k hk2
        refine ⟨U, D, true, q1, q2, ?_, ?_⟩
        · rw [decide_eq_true h1, decide_eq_true h2]; simp [q3]
        · rw [decide_eq_true h1, decide_eq_true h2]; simp [q4]
      · exact ⟨[], [], false, by simp, by simp, by rw [decide_eq_true h1, decide_eq_false h2]; simp, by rw [decide_eq_true h1, decide_eq_false h2]; simp⟩
    · exact ⟨[], [], false, by simp, by simp, by rw [decide_eq_false h1]; simp, by rw [decide_eq_false h1]; simp⟩
theorem FnExactPathBetween : FnExactPathBetweenPure := by
  intro l a b hl _ _
  refine ⟨l.length + 1000, ?_⟩
  unfold laws_FnExactPathBetween.f
  rw [szBlockS_f l _ hl.1 (by omega) (by omega)]
  simp only [Option.bind_some]
  by_cases h1 : (1048576 : Int) < (l.length : Int)
  · simp only [if_pos h1]; rw [if_pos (by omega)]
  · simp only [if_neg h1]
    have hc : (l.map cvBlock).length = l.length := List.length_map _
    have hm : (l.map cvBlock).length ≤ maxLen := by unfold maxLen; omega
    have hsame := fun k => same (l.map cvBlock) hm a b k
    obtain ⟨U, D, c, e1, e2, e3, e4⟩ := hsame (l.length + 500) (by omega) (by omega)
    have s1 : ∀ k, l.length + 500 ≤ k → spec_PathBetween.f k (l.map cvBlock) a b = some (U, D, c) := fun k hk => mono_le (spec_PathBetween.mono (l.map cvBlock) a b) hk e3
    have s2 : ∀ k, l.length + 500 ≤ k → impl_PathBetween.f k (l.map cvBlock) a b = some (U, D, c) := fun k hk => mono_le (impl_PathBetween.mono (l.map cvBlock) a b) hk e4
    have hU : U.length ≤ maxLen := by unfold maxLen; omega
    have hD : D.length ≤ maxLen := by unfold maxLen; omega
    obtain ⟨l2, em⟩ := markBlockS_f (l.map cvBlock) 1 hm (by omega) (by omega) (l.length + 999) (by omega)
    rw [if_neg (by omega), toBlockS_f l (by omega) _ (by omega)]
    simp only [Option.bind_some]
    rw [s1 _ (by omega), s2 _ (by omega)]
    simp only [Option.bind_some, bne_self_eq_false]
    rw [eqIntS_f U hU _ (by omega), eqIntS_f D hD _ (by omega)]
    simp only [Option.bind_some, if_true, laws_FnExactPathBetween.j0, Bool.false_eq_true, if_false]
    rw [toBlockS_f l (by omega) _ (by omega)]
    simp only [Option.bind_some]
    rw [eqBlockS_f _ hm _ (by omega)]
    simp only [Option.bind_some, if_true]
    rw [em]
    simp only [Option.bind_some]
    rw [if_neg (by omega), eqIntS_f U hU _ (by omega), eqIntS_f D hD _ (by omega)]
    simp only [Option.bind_some, if_true, laws_FnExactPathBetween.j1, bne_self_eq_false, Bool.false_eq_true, if_false]
    rw [markIntS_f U 1 (by omega) (by omega) _ (by omega)]
    simp only [Option.bind_some]
    rw [markIntS_f D _ (by omega) (by omega) _ (by omega)]
    simp only [Option.bind_some]
    rw [heldIntS_f U.length 1 (by omega) (by omega) _ (by omega)]
    simp only [Option.bind_some]
    rw [if_neg (by omega), heldIntS_f D.length _ (by omega) (by omega) _ (by omega)]
    simp only [Option.bind_some]
    rw [if_neg (by omega)]
    simp only [if_true]
    rw [toBlockS_f l (by omega) _ (by omega)]
    simp only [Option.bind_some]
    rw [s2 _ (by omega)]
    simp only [Option.bind_some, bne_self_eq_false]
    rw [eqIntS_f U hU _ (by omega), eqIntS_f D hD _ (by omega)]
    simp only [Option.bind_some, if_true, laws_FnExactPathBetween.j2, Bool.false_eq_true, if_false]
    rw [heldIntS_f U.length 1 (by omega) (by omega) _ (by omega)]
    simp only [Option.bind_some]
    rw [if_neg (by omega), heldIntS_f D.length _ (by omega) (by omega) _ (by omega)]
    simp only [Option.bind_some]
    rw [if_neg (by omega)]
    simp
end Go.Proofs.Ytglnggfmkbmocaa.Pure
