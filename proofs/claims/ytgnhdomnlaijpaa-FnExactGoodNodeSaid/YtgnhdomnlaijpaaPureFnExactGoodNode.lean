/- GoodNode of the program and of the reference return the same, for every node; no condition. -/
import Derived.Test.YtgnhdomnlaijpaaDefFnExactGoodNode
import Derived.Test.YtgnhdomnlaijpaaPx
import Derived.Test.YtgnhdomnlaijpaaOv
namespace Go.Proofs.Ytgnhdomnlaijpaa.Pure
open Go.RowKit Go.Proofs.Ytgnhdomnlaijpaa.PFnExactGoodNode Go.Proofs.YtgnhdomnlaijpaaW.PrintWords Go.Proofs.YtgnhdomnlaijpaaW.PrintLast Go.Proofs.YtgnhdomnlaijpaaW.PrintMore Go.Proofs.Ytgnhdomnlaijpaa.Px Go.Proofs.Ytgnhdomnlaijpaa.Ov
namespace FnExactGoodNodeLaw
theorem toIntS_l (l : List Int) (hm : l.length ≤ maxLen) (d : Nat) : ∀ (k i : Nat), i + d = l.length → d < k →
    laws_toIntS.l0 k l (l.take i ++ List.replicate (l.length - i) 0) (i : Int) = some l := by
  induction d with
  | zero =>
    intro k i hi hk
    obtain ⟨k, rfl, _⟩ := succ_of hk
    have e : i = l.length := by omega
    subst e
    simp only [laws_toIntS.l0]
    rw [if_neg (by omega)]
    simp
  | succ d ih =>
    intro k i hi hk
    obtain ⟨k, rfl, hk⟩ := succ_of hk
    have hl : i < l.length := by omega
    simp only [laws_toIntS.l0]
    rw [if_pos (by omega), if_pos (by omega), if_pos (by rw [length_step _ _ _ (by omega)]; omega), rd_nat hl, Int.toNat_natCast, set_step l 0 i hl, wrap_succ hl hm]
    exact ih k (i + 1) (by omega) (by omega)
theorem toIntS_f (l : List Int) (hm : l.length ≤ 35184372088832) (k : Nat) (hk : l.length < k) : laws_toIntS.f k l = some l := by
  unfold laws_toIntS.f
  rw [if_pos (by omega), if_pos (by simpa using hm), Int.toNat_natCast]
  simpa using toIntS_l l (by unfold maxLen; omega) l.length k 0 (by omega) hk
theorem eqIntS_l (a : List Int) (hm : a.length ≤ maxLen) (d : Nat) : ∀ (k i : Nat), i + d = a.length → d < k →
    laws_eqIntS.l0 k a a (i : Int) = some true := by
  induction d with
  | zero =>
    intro k i hi hk
    obtain ⟨k, rfl, _⟩ := succ_of hk
    simp only [laws_eqIntS.l0]
    rw [if_neg (by omega)]
  | succ d ih =>
    intro k i hi hk
    obtain ⟨k, rfl, hk⟩ := succ_of hk
    have hl : i < a.length := by omega
    simp only [laws_eqIntS.l0]
    rw [if_pos (by omega), if_pos (by omega), if_pos (by omega)]
    simp only [if_true]
    rw [wrap_succ hl hm]
    exact ih k (i + 1) (by omega) (by omega)
theorem eqIntS_f (a : List Int) (hm : a.length ≤ maxLen) (k : Nat) (hk : a.length < k) : laws_eqIntS.f k a a = some true := by
  unfold laws_eqIntS.f
  rw [if_pos rfl]
  exact eqIntS_l a hm a.length k 0 (by omega) hk
theorem szIntS_f (l : List Int) (a : Int) (h : l.length ≤ maxLen) (h0 : 0 ≤ a) (h1 : a ≤ 1048576) : laws_szIntS.f l a = some (if a < (l.length : Int) then -1 else a - (l.length : Int)) := by
  unfold laws_szIntS.f
  unfold maxLen at h
  rw [wrap_id (by omega) (by omega)]
  by_cases h2 : a < (l.length : Int)
  · rw [if_pos (by omega), if_pos h2]
  · rw [if_neg (by omega), if_neg h2]
def cvNews (x : S62) : S64 := ⟨x.f0, x.f1, x.f2, x.f3, x.f4, x.f5⟩
theorem rdN (l : List S64) (i : Nat) (h : i < l.length) : rd_T64 l (i : Int) = l[i] := by unfold rd_T64; exact getD_nat h
theorem toNewsS_l (l : List S62) (hm : l.length ≤ maxLen) (d : Nat) : ∀ (k i : Nat), i + d = l.length → d < k →
    laws_toNewsS.l0 k l ((l.map cvNews).take i ++ List.replicate ((l.map cvNews).length - i) z64) (i : Int) = some (l.map cvNews) := by
  induction d with
  | zero =>
    intro k i hi hk
    obtain ⟨k, rfl, _⟩ := succ_of hk
    have e : i = (l.map cvNews).length := by rw [List.length_map]; omega
    simp only [laws_toNewsS.l0]
    rw [if_neg (by omega), e, List.take_length, Nat.sub_self, List.replicate_zero, List.append_nil]
  | succ d ih =>
    intro k i hi hk
    obtain ⟨k, rfl, hk⟩ := succ_of hk
    have hl : i < l.length := by omega
    have hl2 : i < (l.map cvNews).length := by rw [List.length_map]; omega
    simp only [laws_toNewsS.l0, laws_toNews.f, Option.bind_some]
    rw [if_pos (by omega), if_pos (by omega), if_pos (by rw [length_step _ _ _ (by omega)]; omega), Int.toNat_natCast]
    have e : (⟨(rd_T62 l i).f0, (rd_T62 l i).f1, (rd_T62 l i).f2, (rd_T62 l i).f3, (rd_T62 l i).f4, (rd_T62 l i).f5⟩ : S64) = (l.map cvNews)[i] := by
      rw [List.getElem_map]; unfold rd_T62 cvNews; rw [getD_nat hl]
    rw [e, set_step _ _ i hl2, wrap_succ hl hm]
    exact ih k (i + 1) (by omega) (by omega)
theorem toNewsS_f (l : List S62) (hm : l.length ≤ 1048576) (k : Nat) (hk : l.length < k) : laws_toNewsS.f k l = some (l.map cvNews) := by
  unfold laws_toNewsS.f
  rw [if_pos (by omega), if_pos (by simp; omega), Int.toNat_natCast]
  have := toNewsS_l l (by unfold maxLen; omega) l.length k 0 (by omega) hk
  simpa using this
theorem szNewsS_f (l : List S62) (a : Int) (h : l.length ≤ maxLen) (h0 : 0 ≤ a) (h1 : a ≤ 1048576) : laws_szNewsS.f l a = some (if a < (l.length : Int) then -1 else a - (l.length : Int)) := by
  unfold laws_szNewsS.f
  unfold maxLen at h
  rw [wrap_id (by omega) (by omega)]
  by_cases h2 : a < (l.length : Int)
  · rw [if_pos (by omega), if_pos h2]
  · rw [if_neg (by omega), if_neg h2]
theorem eqNewsS_l (a : List S64) (hm : a.length ≤ maxLen) (d : Nat) : ∀ (k i : Nat), i + d = a.length → d < k →
    laws_eqNewsS.l0 k a a (i : Int) = some true := by
  induction d with
  | zero =>
    intro k i hi hk
    obtain ⟨k, rfl, _⟩ := succ_of hk
    simp only [laws_eqNewsS.l0]
    rw [if_neg (by omega)]
  | succ d ih =>
    intro k i hi hk
    obtain ⟨k, rfl, hk⟩ := succ_of hk
    have hl : i < a.length := by omega
    simp only [laws_eqNewsS.l0]
    rw [if_pos (by omega), if_pos (by omega), if_pos (by omega)]
    simp only [laws_eqNews.f, if_true, Option.bind_some]
    rw [wrap_succ hl hm]
    exact ih k (i + 1) (by omega) (by omega)
theorem eqNewsS_f (a : List S64) (hm : a.length ≤ maxLen) (k : Nat) (hk : a.length < k) : laws_eqNewsS.f k a a = some true := by
  unfold laws_eqNewsS.f
  rw [if_pos rfl]
  exact eqNewsS_l a hm a.length k 0 (by omega) hk
theorem toNode_f (s : List Int) (l : List S62) (hs : s.length ≤ 1048576) (hm : l.length ≤ 1048576) (k : Nat) (hk : s.length < k) (hk2 : l.length < k) : laws_toNode.f k s l = some (s, l.map cvNews) := by
  unfold laws_toNode.f
  rw [toIntS_f s (by omega) k hk, toNewsS_f l hm k hk2]
  rfl
theorem eqNode_f (s : List Int) (l : List S64) (hs : s.length ≤ maxLen) (hm : l.length ≤ maxLen) (k : Nat) (hk : s.length < k) (hk2 : l.length < k) : laws_eqNode.f k s l s l = some true := by
  unfold laws_eqNode.f
  rw [eqIntS_f s hs k hk, eqNewsS_f l hm k hk2]
  rfl
theorem szNode_f (s : List Int) (l : List S62) (a : Int) (hs : s.length ≤ maxLen) (hm : l.length ≤ maxLen) (h0 : 0 ≤ a) (h1 : a ≤ 1048576) : laws_szNode.f s l a = some (if a < (s.length : Int) then -1 else if a - (s.length : Int) < (l.length : Int) then -1 else a - (s.length : Int) - (l.length : Int)) := by
  unfold laws_szNode.f
  rw [szIntS_f s a hs h0 h1]
  simp only [Option.bind_some]
  by_cases h : a < (s.length : Int)
  · simp only [if_pos h]; rw [if_pos (by omega)]
  · simp only [if_neg h]
    rw [if_neg (by omega), szNewsS_f l _ hm (by omega) (by omega)]
    simp only [Option.bind_some]
    by_cases h2 : a - (s.length : Int) < (l.length : Int)
    · simp only [if_pos h2]; rw [if_pos (by omega)]
    · simp only [if_neg h2]; rw [if_neg (by omega)]
def cmpI (a b : Int) : Int := if a < b then -1 else if a > b then 1 else 0
theorem compare_f (a b : Int) : cmp_Compare_int.f a b = some (cmpI a b) := by
  unfold cmp_Compare_int.f cmp_isNaN_int.f cmpI
  simp only [Option.bind_some, bne_self_eq_false, Bool.false_eq_true, if_false]
  split
  · rfl
  · split <;> rfl
def orF (c0 c1 c2 c3 c4 c5 : Int) : Int := if c0 = 0 then (if c1 = 0 then (if c2 = 0 then (if c3 = 0 then (if c4 = 0 then (if c5 = 0 then 0 else c5) else c4) else c3) else c2) else c1) else c0
theorem or_f (c0 c1 c2 c3 c4 c5 : Int) (k : Nat) : cmp_Or_int.f (k + 7) [c0, c1, c2, c3, c4, c5] = some (orF c0 c1 c2 c3 c4 c5) := by
  have w1 : wrap64 (0 + 1) = 1 := wrap_id (by omega) (by omega)
  have w2 : wrap64 (1 + 1) = 2 := wrap_id (by omega) (by omega)
  have w3 : wrap64 (2 + 1) = 3 := wrap_id (by omega) (by omega)
  have w4 : wrap64 (3 + 1) = 4 := wrap_id (by omega) (by omega)
  have w5 : wrap64 (4 + 1) = 5 := wrap_id (by omega) (by omega)
  have w6 : wrap64 (5 + 1) = 6 := wrap_id (by omega) (by omega)
  unfold cmp_Or_int.f orF
  simp only [cmp_Or_int.l0, w1, w2, w3, w4, w5, w6]
  have r0 : rd [c0, c1, c2, c3, c4, c5] 0 = c0 := rfl
  have r1 : rd [c0, c1, c2, c3, c4, c5] 1 = c1 := rfl
  have r2 : rd [c0, c1, c2, c3, c4, c5] 2 = c2 := rfl
  have r3 : rd [c0, c1, c2, c3, c4, c5] 3 = c3 := rfl
  have r4 : rd [c0, c1, c2, c3, c4, c5] 4 = c4 := rfl
  have r5 : rd [c0, c1, c2, c3, c4, c5] 5 = c5 := rfl
  rw [r0, r1, r2, r3, r4, r5]
  by_cases h0 : c0 = 0 <;> by_cases h1 : c1 = 0 <;> by_cases h2 : c2 = 0 <;> by_cases h3 : c3 = 0 <;> by_cases h4 : c4 = 0 <;> by_cases h5 : c5 = 0 <;> simp [h0, h1, h2, h3, h4, h5]
def lexF (x y : S64) : Bool := if x.f0 = y.f0 then (if x.f1 = y.f1 then (if x.f2 = y.f2 then (if x.f3 = y.f3 then (if x.f4 = y.f4 then (if x.f5 = y.f5 then false else decide (x.f5 < y.f5)) else decide (x.f4 < y.f4)) else decide (x.f3 < y.f3)) else decide (x.f2 < y.f2)) else decide (x.f1 < y.f1)) else decide (x.f0 < y.f0)
theorem less_f (x y : S64) (k : Nat) : spec_l17Less.f (k + 7) x.f0 x.f1 x.f2 x.f3 x.f4 x.f5 y.f0 y.f1 y.f2 y.f3 y.f4 y.f5 = some (lexF x y) := by
  have w1 : wrap64 (0 + 1) = 1 := wrap_id (by omega) (by omega)
  have w2 : wrap64 (1 + 1) = 2 := wrap_id (by omega) (by omega)
  have w3 : wrap64 (2 + 1) = 3 := wrap_id (by omega) (by omega)
  have w4 : wrap64 (3 + 1) = 4 := wrap_id (by omega) (by omega)
  have w5 : wrap64 (4 + 1) = 5 := wrap_id (by omega) (by omega)
  have w6 : wrap64 (5 + 1) = 6 := wrap_id (by omega) (by omega)
  unfold spec_l17Less.f lexF
  obtain ⟨c0, c1, c2, c3, c4, c5⟩ := x
  obtain ⟨d0, d1, d2, d3, d4, d5⟩ := y
  simp only [Option.bind_some, spec_l17Less.l0, w1, w2, w3, w4, w5, w6]
  have r0 : ∀ a0 a1 a2 a3 a4 a5 : Int, rd [a0, a1, a2, a3, a4, a5] 0 = a0 := fun _ _ _ _ _ _ => rfl
  have r1 : ∀ a0 a1 a2 a3 a4 a5 : Int, rd [a0, a1, a2, a3, a4, a5] 1 = a1 := fun _ _ _ _ _ _ => rfl
  have r2 : ∀ a0 a1 a2 a3 a4 a5 : Int, rd [a0, a1, a2, a3, a4, a5] 2 = a2 := fun _ _ _ _ _ _ => rfl
  have r3 : ∀ a0 a1 a2 a3 a4 a5 : Int, rd [a0, a1, a2, a3, a4, a5] 3 = a3 := fun _ _ _ _ _ _ => rfl
  have r4 : ∀ a0 a1 a2 a3 a4 a5 : Int, rd [a0, a1, a2, a3, a4, a5] 4 = a4 := fun _ _ _ _ _ _ => rfl
  have r5 : ∀ a0 a1 a2 a3 a4 a5 : Int, rd [a0, a1, a2, a3, a4, a5] 5 = a5 := fun _ _ _ _ _ _ => rfl
  simp only [r0, r1, r2, r3, r4, r5]
  by_cases h0 : c0 = d0 <;> by_cases h1 : c1 = d1 <;> by_cases h2 : c2 = d2 <;> by_cases h3 : c3 = d3 <;> by_cases h4 : c4 = d4 <;> by_cases h5 : c5 = d5 <;> simp [h0, h1, h2, h3, h4, h5]
theorem step_lex (a b c : Int) (B : Bool) (h : c ≥ 0 ↔ B = false) : ((if cmpI a b = 0 then c else cmpI a b) ≥ 0 ↔ (if a = b then B else decide (a < b)) = false) := by
  by_cases e : a = b
  · have : cmpI a b = 0 := by unfold cmpI; rw [if_neg (by omega), if_neg (by omega)]
    rw [if_pos this, if_pos e]; exact h
  · rw [if_neg e]
    by_cases l : a < b
    · have : cmpI a b = -1 := by unfold cmpI; rw [if_pos l]
      rw [this, decide_eq_true l]; simp
    · have : cmpI a b = 1 := by unfold cmpI; rw [if_neg l, if_pos (by omega)]
      rw [this, decide_eq_false l]; simp
theorem compareNews_f (x y : S64) (k : Nat) : ∃ c, impl_compareNews.f (k + 7) x.f0 x.f1 x.f2 x.f3 x.f4 x.f5 y.f0 y.f1 y.f2 y.f3 y.f4 y.f5 = some c ∧ (c ≥ 0 ↔ lexF x y = false) := by
  unfold impl_compareNews.f
  simp only [compare_f, Option.bind_some, or_f]
  refine ⟨_, rfl, ?_⟩
  unfold orF lexF
  exact step_lex _ _ _ _ (step_lex _ _ _ _ (step_lex _ _ _ _ (step_lex _ _ _ _ (step_lex _ _ _ _ (step_lex _ _ _ _ (by simp))))))
theorem l1In_f (a b c : Int) : spec_l1In.f a b c = some (decide (b ≤ a ∧ a ≤ c)) := by
  unfold spec_l1In.f
  by_cases h : b ≤ a <;> simp [h]
theorem within_f (a b c : Int) : impl_within.f a b c = some (decide (b ≤ a ∧ a ≤ c)) := rfl
theorem isNews_same (l : List Int) (a b c d e f : Int) : ∃ v : Bool, spec_l17News.f l a b c d e f = some v ∧ impl_isNews.f l a b c d e f = some v := by
  unfold spec_l17News.f impl_isNews.f
  simp only [l1In_f, within_f, Option.bind_some]
  generalize decide (1 ≤ d ∧ d ≤ 4000) = p1
  generalize decide (0 ≤ e ∧ e ≤ wrap64 ((l.length : Int) - 1)) = p2
  generalize decide (1 ≤ b ∧ b ≤ 99) = p3
  generalize decide (0 ≤ c ∧ c ≤ wrap64 (b - 1)) = p4
  generalize decide (0 ≤ b ∧ b ≤ 99) = p5
  generalize decide (0 ≤ f ∧ f ≤ 98) = p6
  generalize (f == 0) = p7
  by_cases h1 : a = 1
  · rw [if_pos h1, if_pos h1]
    by_cases h : e = 0 <;> cases p1 <;> cases p3 <;> cases p4 <;> simp [h]
  · rw [if_neg h1, if_neg h1]
    by_cases h2 : a = 2
    · rw [if_pos h2, if_pos h2]
      by_cases h : c = 0 <;> cases p1 <;> cases p2 <;> cases p5 <;> simp [h]
    · rw [if_neg h2, if_neg h2]
      by_cases h3 : a = 3
      · rw [if_pos h3, if_pos h3]
        by_cases h : c = 0 <;> by_cases h' : d = 0 <;> cases p2 <;> cases p3 <;> cases p6 <;> simp [h, h']
      · rw [if_neg h3, if_neg h3]; exact ⟨_, rfl, rfl⟩
theorem l1All_l (l : List Int) (a b : Int) (hm : l.length ≤ maxLen) (d : Nat) : ∀ (k i : Nat), i + d = l.length → d < k →
    spec_l1All.l0 k a b l (l.length : Int) (i : Int) = some ((l.drop i).all fun n => decide (a ≤ n ∧ n ≤ b)) := by
  induction d with
  | zero =>
    intro k i hi hk
    obtain ⟨k, rfl, _⟩ := succ_of hk
    simp only [spec_l1All.l0]
    rw [if_neg (by omega), List.drop_of_length_le (by omega)]; rfl
  | succ d ih =>
    intro k i hi hk
    obtain ⟨k, rfl, hk⟩ := succ_of hk
    have hl : i < l.length := by omega
    simp only [spec_l1All.l0]
    rw [if_pos (by omega), if_pos (by omega), if_pos (by omega), rd_nat hl, l1In_f, all_drop _ l i hl, wrap_succ hl hm]
    simp only [Option.bind_some]
    rw [ih k (i + 1) (by omega) (by omega)]
    cases decide (a ≤ l[i] ∧ l[i] ≤ b) <;> simp
theorem l1All_f (l : List Int) (a b : Int) (hm : l.length ≤ maxLen) (k : Nat) (hk : l.length < k) : spec_l1All.f k l a b = some (l.all fun n => decide (a ≤ n ∧ n ≤ b)) := by
  unfold spec_l1All.f
  simpa using l1All_l l a b hm l.length k 0 (by omega) hk
theorem goodStakes_f (l : List Int) (hm : l.length ≤ maxLen) (k : Nat) (hk : l.length < k) : spec_GoodStakes.f k l = some (areStakesB l) := by
  unfold spec_GoodStakes.f areStakesB
  rw [l1In_f]
  simp only [Option.bind_some, decide_eq_true_eq]
  by_cases h : (1 : Int) ≤ (l.length : Int) ∧ (l.length : Int) ≤ 10
  · rw [if_pos h, l1All_f l _ _ hm k hk, decide_eq_true (show 1 ≤ l.length ∧ l.length ≤ 10 by omega)]
    simp
  · rw [if_neg h, decide_eq_false (show ¬ (1 ≤ l.length ∧ l.length ≤ 10) by omega)]; simp
end FnExactGoodNodeLaw
open FnExactGoodNodeLaw
theorem loops (s : List Int) (l : List S64) (hs : s.length ≤ maxLen) (hm : l.length ≤ maxLen) (d : Nat) : ∀ (k i : Nat), i + d = l.length → s.length + d + 8 < k →
    ∃ v : Bool, spec_GoodNode.l0 k l (l.length : Int) (i : Int) s l = some (v && (areStakesB s && decide (l.length ≤ 60))) ∧ impl_isNode.l0 k l (l.length : Int) (i : Int) s l = some v := by
  induction d with
  | zero =>
    intro k i hi hk
    obtain ⟨k, rfl, hk⟩ := succ_of hk
    simp only [spec_GoodNode.l0, impl_isNode.l0]
    rw [if_neg (by omega), if_neg (by omega), goodStakes_f s hs k (by omega)]
    refine ⟨true, ?_, rfl⟩
    simp only [Option.bind_some, Bool.true_and]
    have e : decide ((l.length : Int) ≤ 60) = decide (l.length ≤ 60) := decide_eq_decide.2 (by omega)
    rw [e]
    cases areStakesB s <;> simp
  | succ d ih =>
    intro k i hi hk
    obtain ⟨k, rfl, hk⟩ := succ_of hk
    have hl : i < l.length := by omega
    obtain ⟨v, e1, e2⟩ := isNews_same s l[i].f0 l[i].f1 l[i].f2 l[i].f3 l[i].f4 l[i].f5
    have up := ih k (i + 1) (by omega) (by omega)
    simp only [spec_GoodNode.l0, impl_isNode.l0]
    rw [rdN l i hl, e1, e2, wrap_succ hl hm]
    simp only [Option.bind_some]
    rw [if_pos (show (i : Int) < (l.length : Int) by omega), if_pos (show (i : Int) < (l.length : Int) by omega), if_pos (show 0 ≤ (i : Int) by omega), if_pos (show 0 ≤ (i : Int) by omega)]
    cases v
    · exact ⟨false, by simp, by simp [hl]⟩
    · simp only [if_true]
      by_cases hz : i = 0
      · subst hz
        obtain ⟨v, u1, u2⟩ := up
        refine ⟨v, ?_, ?_⟩
        · rw [← u1]; simp
        · rw [← u2]; simp [hl]
      · have hw : wrap64 ((i : Int) - 1) = ((i - 1 : Nat) : Int) := by unfold maxLen at hm; unfold wrap64; omega
        have hl2 : i - 1 < l.length := by omega
        obtain ⟨k', rfl⟩ : ∃ k', k = k' + 7 := ⟨k - 7, by omega⟩
        obtain ⟨c, c1, c2⟩ := compareNews_f l[i - 1] l[i] k'
        rw [hw, rdN l (i - 1) hl2, c1, less_f l[i - 1] l[i] k']
        have g1 : (i : Int) > 0 := by omega
        have g2 : (0 : Int) ≤ ((i - 1 : Nat) : Int) := by omega
        have g3 : ((i - 1 : Nat) : Int) < (l.length : Int) := by omega
        have g4 : (i : Int) < (l.length : Int) := by omega
        simp only [Option.bind_some, g1, g2, g3, g4, if_true]
        cases hx : lexF l[i - 1] l[i]
        · rw [if_pos (c2.mpr hx)]
          exact ⟨false, by simp, rfl⟩
        · have hn : ¬ (c ≥ 0) := fun h => by rw [c2.mp h] at hx; cases hx
          rw [if_neg hn]
          simp only [if_true]
          by_cases q1 : l[i].f0 = 1
          · rw [if_pos q1, if_pos q1]
            by_cases q2 : l[i - 1].f1 = l[i].f1
            · rw [if_pos q2, if_pos q2]
              exact ⟨false, by simp, rfl⟩
            · rw [if_neg q2, if_neg q2]; exact up
          · rw [if_neg q1, if_neg q1]; exact up
theorem same (s : List Int) (l : List S64) (hs : s.length ≤ maxLen) (hm : l.length ≤ maxLen) (k : Nat) (hk : s.length + l.length + 9 < k) :
    ∃ v : Bool, spec_GoodNode.f k s l = some v ∧ impl_GoodNode.f k s l = some v := by
  unfold spec_GoodNode.f impl_GoodNode.f impl_isNode.f impl_areStakes.f
  obtain ⟨v, e1, _⟩ := loops s l hs hm l.length k 0 (by omega) (by omega)
  obtain ⟨k, rfl, hk⟩ := succ_of hk
  obtain ⟨v', e1', e2⟩ := loops s l hs hm l.length k 0 (by omega) (by omega)
  have em := spec_GoodNode.mono s l k
  unfold spec_GoodNode.f at em
  have hv : spec_GoodNode.l0 (k + 1) l (l.length : Int) 0 s l = some (v' && (areStakesB s && decide (l.length ≤ 60))) := by
    have := mono_le (spec_GoodNode.mono s l) (show k ≤ k + 1 by omega) (r := v' && (areStakesB s && decide (l.length ≤ 60))) (by unfold spec_GoodNode.f; simpa using e1')
    unfold spec_GoodNode.f at this
    exact this
  rw [hv]
  simp only [Int.natCast_zero] at e2
  simp only [Option.bind_some, impl_isNode.j0, e2]
  refine ⟨_, rfl, ?_⟩
  cases areStakesB s
  · simp
  · by_cases h : l.length ≤ 60
    · have h' : ¬ ((l.length : Int) > 60) := by omega
      simp [h, h']
    · have h' : (l.length : Int) > 60 := by omega
      simp [h, h']
theorem FnExactGoodNode : FnExactGoodNodePure := by
  intro s l hs hl
  refine ⟨s.length + l.length + 12, ?_⟩
  unfold laws_FnExactGoodNode.f
  rw [szNode_f s l 1048576 hs.1 hl.1 (by omega) (by omega)]
  simp only [Option.bind_some]
  by_cases h1 : (1048576 : Int) < (s.length : Int)
  · simp only [if_pos h1]; rw [if_pos (by omega)]
  · simp only [if_neg h1]
    by_cases h2 : (1048576 : Int) - (s.length : Int) < (l.length : Int)
    · simp only [if_pos h2]; rw [if_pos (by omega)]
    · simp only [if_neg h2]
      have hc : (l.map cvNews).length = l.length := List.length_map _
      have hm : (l.map cvNews).length ≤ maxLen := by unfold maxLen; omega
      obtain ⟨v, e1, e2⟩ := same s (l.map cvNews) hs.1 hm (s.length + l.length + 12) (by omega)
      rw [if_neg (by omega), toNode_f s l (by omega) (by omega) _ (by omega) (by omega)]
      simp only [Option.bind_some]
      rw [e1, e2]
      simp only [Option.bind_some, bne_self_eq_false, Bool.false_eq_true, if_false]
      rw [eqNode_f s _ hs.1 hm _ (by omega) (by omega)]
      simp
end Go.Proofs.Ytgnhdomnlaijpaa.Pure
