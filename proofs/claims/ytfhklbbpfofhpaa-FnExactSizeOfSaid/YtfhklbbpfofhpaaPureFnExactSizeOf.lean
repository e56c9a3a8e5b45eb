/- SizeOf of the program and of the reference return the same, for every list of transactions; no condition. -/
import Derived.Test.YtfhklbbpfofhpaaDefFnExactSizeOf
import Derived.Test.YtfhklbbpfofhpaaPx
import Derived.Test.YtfhklbbpfofhpaaOv
namespace Go.Proofs.Ytfhklbbpfofhpaa.Pure
open Go.RowKit Go.Proofs.Ytfhklbbpfofhpaa.PFnExactSizeOf Go.Proofs.YtfhklbbpfofhpaaW.PrintWords Go.Proofs.YtfhklbbpfofhpaaW.PrintLast Go.Proofs.YtfhklbbpfofhpaaW.PrintMore Go.Proofs.Ytfhklbbpfofhpaa.Px Go.Proofs.Ytfhklbbpfofhpaa.Ov
namespace FnExactSizeOfLaw
def cvWish (x : S43) : S45 := ⟨x.f0, x.f1, x.f2, x.f3, x.f4, x.f5, x.f6⟩
theorem toWishS_l (l : List S43) (hm : l.length ≤ maxLen) (d : Nat) : ∀ (k i : Nat), i + d = l.length → d < k →
    laws_toWishS.l0 k l ((l.map cvWish).take i ++ List.replicate ((l.map cvWish).length - i) z45) (i : Int) = some (l.map cvWish) := by
  induction d with
  | zero =>
    intro k i hi hk
    obtain ⟨k, rfl, _⟩ := succ_of hk
    have e : i = (l.map cvWish).length := by rw [List.length_map]; omega
    simp only [laws_toWishS.l0]
    rw [if_neg (by omega), e, List.take_length, Nat.sub_self, List.replicate_zero, List.append_nil]
  | succ d ih =>
    intro k i hi hk
    obtain ⟨k, rfl, hk⟩ := succ_of hk
    have hl : i < l.length := by omega
    have hl2 : i < (l.map cvWish).length := by rw [List.length_map]; omega
    simp only [laws_toWishS.l0, laws_toWish.f, Option.bind_some]
    rw [if_pos (by omega), if_pos (by omega), if_pos (by rw [length_step _ _ _ (by omega)]; omega), Int.toNat_natCast]
    have e : (⟨(rd_T43 l i).f0, (rd_T43 l i).f1, (rd_T43 l i).f2, (rd_T43 l i).f3, (rd_T43 l i).f4, (rd_T43 l i).f5, (rd_T43 l i).f6⟩ : S45) = (l.map cvWish)[i] := by
      rw [List.getElem_map]; unfold rd_T43 cvWish; rw [getD_nat hl]
    rw [e, set_step _ _ i hl2, wrap_succ hl hm]
    exact ih k (i + 1) (by omega) (by omega)
theorem toWishS_f (l : List S43) (hm : l.length ≤ 1048576) (k : Nat) (hk : l.length < k) : laws_toWishS.f k l = some (l.map cvWish) := by
  unfold laws_toWishS.f
  rw [if_pos (by omega), if_pos (by simp; omega), Int.toNat_natCast]
  have := toWishS_l l (by unfold maxLen; omega) l.length k 0 (by omega) hk
  simpa using this
theorem szWishS_f (l : List S43) (a : Int) (h : l.length ≤ maxLen) (h0 : 0 ≤ a) (h1 : a ≤ 1048576) : laws_szWishS.f l a = some (if a < (l.length : Int) then -1 else a - (l.length : Int)) := by
  unfold laws_szWishS.f
  unfold maxLen at h
  rw [wrap_id (by omega) (by omega)]
  by_cases h2 : a < (l.length : Int)
  · rw [if_pos (by omega), if_pos h2]
  · rw [if_neg (by omega), if_neg h2]
theorem eqWishS_l (a : List S45) (hm : a.length ≤ maxLen) (d : Nat) : ∀ (k i : Nat), i + d = a.length → d < k →
    laws_eqWishS.l0 k a a (i : Int) = some true := by
  induction d with
  | zero =>
    intro k i hi hk
    obtain ⟨k, rfl, _⟩ := succ_of hk
    simp only [laws_eqWishS.l0]
    rw [if_neg (by omega)]
  | succ d ih =>
    intro k i hi hk
    obtain ⟨k, rfl, hk⟩ := succ_of hk
    have hl : i < a.length := by omega
    simp only [laws_eqWishS.l0]
    rw [if_pos (by omega), if_pos (by omega), if_pos (by omega)]
    simp only [laws_eqWish.f, if_true, Option.bind_some]
    rw [wrap_succ hl hm]
    exact ih k (i + 1) (by omega) (by omega)
theorem eqWishS_f (a : List S45) (hm : a.length ≤ maxLen) (k : Nat) (hk : a.length < k) : laws_eqWishS.f k a a = some true := by
  unfold laws_eqWishS.f
  rw [if_pos rfl]
  exact eqWishS_l a hm a.length k 0 (by omega) hk
theorem l1In_f (a b c : Int) : spec_l1In.f a b c = some (decide (b ≤ a ∧ a ≤ c)) := by
  unfold spec_l1In.f
  by_cases h : b ≤ a <;> simp [h]
theorem within_f (a b c : Int) : impl_within.f a b c = some (decide (b ≤ a ∧ a ≤ c)) := rfl
end FnExactSizeOfLaw
open FnExactSizeOfLaw
def sizesB (l : List S45) : Bool := l.all fun x => decide (1 ≤ x.f6 ∧ x.f6 ≤ 80)
theorem loops (o l : List S45) (hm : l.length ≤ 1048576) (d : Nat) : ∀ (k i : Nat) (t : Int), i + d = l.length → d < k → 0 ≤ t → t ≤ 80 * (i : Int) →
    ∃ v : Int, spec_SizeOf.l0 k o t l (l.length : Int) (i : Int) = some (if sizesB (l.drop i) = true ∧ o.length ≤ 40 then (v, true) else (0, false)) ∧ impl_SizeOf.l0 k t l (l.length : Int) (i : Int) = some (if sizesB (l.drop i) = true then (v, true) else (0, false)) := by
  induction d with
  | zero =>
    intro k i t hi hk _ _
    obtain ⟨k, rfl, _⟩ := succ_of hk
    simp only [spec_SizeOf.l0, impl_SizeOf.l0]
    rw [List.drop_of_length_le (by omega)]
    refine ⟨t, ?_, ?_⟩
    · rw [if_neg (by omega)]
      by_cases h : (o.length : Int) > 40
      · rw [if_pos h, if_neg (fun hh => by omega)]
      · rw [if_neg h, if_pos ⟨rfl, by omega⟩]
    · rw [if_neg (by omega), if_pos (show sizesB [] = true from rfl)]
  | succ d ih =>
    intro k i t hi hk t0 t1
    obtain ⟨k, rfl, hk⟩ := succ_of hk
    have hl : i < l.length := by omega
    simp only [spec_SizeOf.l0, impl_SizeOf.l0, impl_isUsed.f]
    have e : rd_T45 l (i : Int) = l[i] := by unfold rd_T45; rw [getD_nat hl]
    have es : sizesB (l.drop i) = (decide (1 ≤ l[i].f6 ∧ l[i].f6 ≤ 80) && sizesB (l.drop (i + 1))) := all_drop _ l i hl
    rw [if_pos (by omega), if_pos (by omega), if_pos (by omega), if_pos (by omega), if_pos (by omega), if_pos (by omega), e, l1In_f, within_f, es]
    simp only [Option.bind_some, decide_eq_true_eq]
    by_cases h : 1 ≤ l[i].f6 ∧ l[i].f6 ≤ 80
    · obtain ⟨v, a1, a2⟩ := ih k (i + 1) (t + l[i].f6) (by omega) (by omega) (by omega) (by omega)
      rw [if_pos h, if_pos h, wrap_succ hl (by unfold maxLen; omega), wrap_id (by omega) (by omega), a1, a2, decide_eq_true h]
      exact ⟨v, by simp, by simp⟩
    · rw [if_neg h, if_neg h, decide_eq_false h]
      exact ⟨0, by simp, by simp⟩
theorem same (l : List S45) (hm : l.length ≤ 1048576) (k : Nat) (hk : l.length < k) : ∃ v, spec_SizeOf.f k l = some v ∧ impl_SizeOf.f k l = some v := by
  unfold spec_SizeOf.f impl_SizeOf.f
  obtain ⟨v, a1, a2⟩ := loops l l hm l.length k 0 0 (by omega) hk (by omega) (by omega)
  simp only [Int.natCast_zero, List.drop_zero] at a1 a2
  rw [a1, a2]
  by_cases h : (l.length : Int) > 40
  · rw [if_pos h, if_neg (fun hh => by omega)]; exact ⟨_, rfl, rfl⟩
  · rw [if_neg h]
    by_cases h2 : sizesB l = true
    · rw [if_pos ⟨h2, by omega⟩, if_pos h2]; exact ⟨_, rfl, rfl⟩
    · rw [if_neg (fun hh => h2 hh.1), if_neg h2]; exact ⟨_, rfl, rfl⟩
theorem FnExactSizeOf : FnExactSizeOfPure := by
  intro l hl
  refine ⟨l.length + 4, ?_⟩
  unfold laws_FnExactSizeOf.f
  rw [szWishS_f l 1048576 hl.1 (by omega) (by omega)]
  simp only [Option.bind_some]
  by_cases h1 : (1048576 : Int) < (l.length : Int)
  · simp only [if_pos h1]; rw [if_pos (by omega)]
  · simp only [if_neg h1]
    rw [if_neg (by omega), toWishS_f l (by omega) _ (by omega)]
    simp only [Option.bind_some]
    have hc : (l.map cvWish).length = l.length := List.length_map _
    obtain ⟨v, e1, e2⟩ := same (l.map cvWish) (by omega) (l.length + 4) (by omega)
    rw [e1, e2]
    simp only [Option.bind_some, if_true, laws_FnExactSizeOf.j0]
    rw [toWishS_f l (by omega) _ (by omega)]
    simp only [Option.bind_some]
    rw [eqWishS_f _ (by unfold maxLen; omega) _ (by omega)]
    simp
end Go.Proofs.Ytfhklbbpfofhpaa.Pure
