/- Written by this session's program myprint.py, which runs the kit's print.py beside texts of this session's own. No condition. -/
import Derived.Test.YtiggokojffejeaaPFnExactApplyWishx0
namespace Go.Proofs.Ytiggokojffejeaa.PFnExactApplyWish
open Go.RowKit Go.Proofs.YtiggokojffejeaaW.PrintWords Go.Proofs.YtiggokojffejeaaW.PrintLast Go.Proofs.YtiggokojffejeaaW.PrintMore
attribute [local go_sem] max2_int min2_int max_two min_two max_three min_three max_four min_four   -- for this text's walks alone
set_option linter.unusedVariables false
set_option linter.unusedSimpArgs false

/-! ### spec_l14Own: function 63 -/
def spec_l14Own.f (l0_0 : List Int) (l0_1 : List Int) (a0_2 : Int) : Option (List Int × List Int × Int) := (some (([] : List Int) : List Int)).bind fun y155 => (if y155.length + l0_0.length < 17592186044416 then ((some (([] : List Int) : List Int)).bind fun y161 => (if y161.length + l0_1.length < 17592186044416 then (some ((y155 ++ l0_0), (y161 ++ l0_1), a0_2)) else (none))) else (none))
def spec_l14Own.T1 : Bool × List (List Nat × List Nat) := (true, [([], []), ([], []), ([1], [1]), ([0, 2], [0, 2]), ([], []), ([], []), ([5], [5]), ([4, 6, 3], [4, 6]), ([], []), ([8], [8]), ([3, 7, 9], [3, 7, 9]), ([10, 7, 0, 1, 2, 3, 4, 5, 6, 7, 8, 9, 10], [10])])
def spec_l14Own.B1 : List Nat := [0, 0, 2, 7, 0, 0, 32, 127, 0, 256, 1023, 2047]
theorem spec_l14Own.tab1 : rtab .any (opsOf Try.f63 1) = spec_l14Own.T1 := by kernel_rfl
theorem spec_l14Own.bits1 : waitsOk spec_l14Own.T1.2 spec_l14Own.B1 = true := by kernel_rfl
set_option maxHeartbeats 8000000 in
set_option maxRecDepth 100000 in
theorem spec_l14Own.calls (A0_0 : Option Addr) (c0_0 : Nat) (l0_0 : List Int) (A0_1 : Option Addr) (c0_1 : Nat) (l0_1 : List Int) (a0_2 : Int) (r1 : List Int) (r2 : List Int) (r3 : Int) (w : World) (hr0_0 : Kd.C (Kd.int .i64) w A0_0 l0_0.length l0_0) (hc0_0 : l0_0.length ≤ c0_0) (hr0_1 : Kd.C (Kd.int .i64) w A0_1 l0_1.length l0_1) (hc0_1 : l0_1.length ≤ c0_1) (h : spec_l14Own.f l0_0 l0_1 a0_2 = some (r1, r2, r3)) :
  Calls Try.prog 63 #[.agg #[.slice A0_0 l0_0.length c0_0, .slice A0_1 l0_1.length c0_1, .int .i64 a0_2]] w fun e w' => ∃ v0_ v1_ : Value, e = .returned (.agg #[v0_, v1_, .int .i64 r3]) ∧ Kd.R (Kd.int .i64) 3 w' w.heap.size (fun k_ => some k_ ≠ (v1_ : Value).ownBlock) v0_ r1 ∧ Kd.R (Kd.int .i64) 3 w' w.heap.size (fun k_ => some k_ ≠ (v0_ : Value).ownBlock) v1_ r2 ∧ Below w.heap.size w w' := by
 have hu28 := Try.underlying28
 have HR0_0 := Aside0.mk hr0_0
 have HC0_0 := Aside0.mk hc0_0
 clear hr0_0 hc0_0
 have HR0_1 := Aside0.mk hr0_1
 have HC0_1 := Aside0.mk hc0_1
 clear hr0_1 hc0_1
 have HB := Aside0.mk (Below.refl w.heap.size w)
 have H : ((some (([] : List Int) : List Int)).bind fun y155 => (if y155.length + l0_0.length < 17592186044416 then ((some (([] : List Int) : List Int)).bind fun y161 => (if y161.length + l0_1.length < 17592186044416 then (some ((y155 ++ l0_0), (y161 ++ l0_1), a0_2)) else (none))) else (none))) = some (r1, r2, r3) := h
 clear h
 obtain ⟨y155, hy155⟩ : ∃ y_ : List Int, y_ = (([] : List Int)) := ⟨_, rfl⟩
 replace H : (if y155.length + l0_0.length < 17592186044416 then ((some (([] : List Int) : List Int)).bind fun y161 => (if y161.length + l0_1.length < 17592186044416 then (some ((y155 ++ l0_0), (y161 ++ l0_1), a0_2)) else (none))) else (none)) = some (r1, r2, r3) := by first | (rw [hy155]; with_reducible exact H) | (have H2_ := (Option.bind_some _ _).symm.trans H; rw [hy155]; with_reducible exact H2_) | (have H2_ := (Option.bind_some _ _).symm.trans H; with_reducible exact H2_) | with_reducible exact H | (rw [hy155]; exact H) | exact H
 have Ny155 := Aside0.mk hy155
 clear hy155
 by_cases c2 : y155.length + l0_0.length < 17592186044416
 ·rw [if_pos c2] at H
  have LMc2 := Aside0.mk c2
  clear c2
  obtain ⟨y158, hy158⟩ : ∃ y_ : List Int, y_ = (y155 ++ l0_0) := ⟨_, rfl⟩
  replace H : ((some (([] : List Int) : List Int)).bind fun y161 => (if y161.length + l0_1.length < 17592186044416 then (some (y158, (y161 ++ l0_1), a0_2)) else (none))) = some (r1, r2, r3) := by first | (rw [hy158]; with_reducible exact H) | (have H2_ := (Option.bind_some _ _).symm.trans H; rw [hy158]; with_reducible exact H2_) | (have H2_ := (Option.bind_some _ _).symm.trans H; with_reducible exact H2_) | with_reducible exact H | (rw [hy158]; exact H) | exact H
  have Ny158 := Aside0.mk hy158
  clear hy158
  obtain ⟨y161, hy161⟩ : ∃ y_ : List Int, y_ = (([] : List Int)) := ⟨_, rfl⟩
  replace H : (if y161.length + l0_1.length < 17592186044416 then (some (y158, (y161 ++ l0_1), a0_2)) else (none)) = some (r1, r2, r3) := by first | (rw [hy161]; with_reducible exact H) | (have H2_ := (Option.bind_some _ _).symm.trans H; rw [hy161]; with_reducible exact H2_) | (have H2_ := (Option.bind_some _ _).symm.trans H; with_reducible exact H2_) | with_reducible exact H | (rw [hy161]; exact H) | exact H
  have Ny161 := Aside0.mk hy161
  clear hy161
  by_cases c3 : y161.length + l0_1.length < 17592186044416
  ·rw [if_pos c3] at H
   have LMc3 := Aside0.mk c3
   clear c3
   obtain ⟨y164, hy164⟩ : ∃ y_ : List Int, y_ = (y161 ++ l0_1) := ⟨_, rfl⟩
   replace H : (some (y158, y164, a0_2)) = some (r1, r2, r3) := by first | (rw [hy164]; with_reducible exact H) | (have H2_ := (Option.bind_some _ _).symm.trans H; rw [hy164]; with_reducible exact H2_) | (have H2_ := (Option.bind_some _ _).symm.trans H; with_reducible exact H2_) | with_reducible exact H | (rw [hy164]; exact H) | exact H
   have Ny164 := Aside0.mk hy164
   clear hy164
   simp only [Option.some.injEq, Prod.mk.injEq] at H
   obtain ⟨rfl, rfl, rfl⟩ := H
   go_enter Try.func63, Try.ntmps63
   try go_wp2_with (first | ((with_reducible refine gate_dst (N := 1) rfl ?_); refine box_event ?hg (N := 1) ?hd (cs := #[.slice A0_0 l0_0.length c0_0, .slice A0_1 l0_1.length c0_1, .int .i64 a0_2]) (t := 28) ?hr ?_; (case hd => rfl); (case hg => rfl); (case hr => first | (go_simp; done) | (go_simp; rfl)); intro gb153 hg w4 hbox hb; have n_ := And.intro (Aside0.mk (below_step (bw0 HB.out) hb)) (And.intro (Aside0.mk (hbox)) (Aside0.mk ((by rw [hg]; exact (below_size (bw0 HB.out)) : w.heap.size ≤ gb153)))); clear HB; obtain ⟨HB, BK153, GW153⟩ := n_; have GE153 := GW153; clear hb hbox hg) | ((with_reducible refine gate_dst (N := 2) rfl ?_); refine box_event ?hg (N := 2) ?hd (cs := #[.slice none 0 0, .slice none 0 0, .int .i64 0]) (t := 28) ?hr ?_; (case hd => rfl); (case hg => rfl); (case hr => first | (go_simp; done) | (go_simp; rfl)); intro gb154 hg w5 hbox hb; have n_ := And.intro (Aside0.mk (bbq BK153.out hb)) (And.intro (Aside0.mk (below_step (bw1 HB.out GE153.out) hb)) (And.intro (Aside0.mk (hbox)) (And.intro (Aside0.mk ((by rw [hg]; exact (below_size (bw1 HB.out GE153.out)) : w.heap.size ≤ gb154))) (And.intro (Aside0.mk ((nlq BK153.out hg))) (Aside0.mk ((ngq BK153.out hg))))))); clear BK153 HB; obtain ⟨BK153, HB, BK154, GW154, NB153_154, NB154_153⟩ := n_; have GE154 := GW154; clear hb hbox hg))
   have n_ := And.intro (Aside0.mk (blk_drew BK153.out)) (And.intro (Aside0.mk (blk_drew BK154.out)) (Aside0.mk (below_drew1 HB.out)))
   clear BK153 BK154 HB
   obtain ⟨BK153, BK154, HB⟩ := n_
   refine start_ (n := 12) (S := fun w' => w'.cell? ⟨gb153, 0, none⟩ = some (.slice A0_0 l0_0.length c0_0) ∧ w'.cell? ⟨gb153, 1, none⟩ = some (.slice A0_1 l0_1.length c0_1) ∧ w'.cell? ⟨gb153, 2, none⟩ = some (.int .i64 a0_2)) (ds := []) #[false, false, false, false, false, false, false, false, false, false, false, false] (by kernel_rfl) rfl rfl (cl3 BK153.out) (fun hHeld => ?_); refine with_tabW spec_l14Own.tab1 spec_l14Own.bits1 (fun HT_ HW_ => ?_)
   generalize w5.drew = w6 at BK153 BK154 HB hHeld ⊢
   refine pure_ (i := 1) (N := some 4) (v := ?_) (a' := ?_) #[false, true, false, false, false, false, false, false, false, false, false, false] rfl rfl (any_of HT_.out (by kernel_rfl)) (fun _ _ _ h => h) (Or.inl ⟨by rfl, ?_⟩) ?_ ?_
   rotate_left
   ·intro w'
    go_simp
    with_reducible rfl
   rotate_left
   ·simp only [apn]
    rfl
   refine pure_ (i := 5) (N := some 8) (v := ?_) (a' := ?_) #[false, true, false, false, false, true, false, false, false, false, false, false] rfl rfl (any_of HT_.out (by kernel_rfl)) (fun _ _ _ h => h) (Or.inl ⟨by rfl, ?_⟩) ?_ ?_
   rotate_left
   ·intro w'
    go_simp
    with_reducible rfl
   rotate_left
   ·simp only [apn]
    rfl
   refine pure_ (i := 8) (N := some 11) (v := ?_) (a' := ?_) #[false, true, false, false, false, true, false, false, true, false, false, false] rfl rfl (any_of HT_.out (by kernel_rfl)) (fun _ _ _ h => h) (Or.inl ⟨by rfl, ?_⟩) ?_ ?_
   rotate_left
   ·intro w'
    go_simp
    with_reducible rfl
   rotate_left
   ·simp only [apn]
    rfl
   refine take_ (i := 2) (N := some 5) (v := ?_) (a' := ?_) #[false, true, true, false, false, true, false, false, true, false, false, false] rfl rfl (take_ofW HT_.out HW_.out (by kernel_rfl)) (fun _ _ _ h => h) (Or.inl ⟨by rfl, ?_⟩) hHeld ?_ ?_
   rotate_left
   ·rintro w' ⟨s0, s1, s2⟩
    go_simp
    with_reducible rfl
   rotate_left
   ·simp only [apn]
    rfl
   refine take_ (i := 6) (N := some 9) (v := ?_) (a' := ?_) #[false, true, true, false, false, true, true, false, true, false, false, false] rfl rfl (take_ofW HT_.out HW_.out (by kernel_rfl)) (fun _ _ _ h => h) (Or.inl ⟨by rfl, ?_⟩) hHeld ?_ ?_
   rotate_left
   ·rintro w' ⟨s0, s1, s2⟩
    go_simp
    with_reducible rfl
   rotate_left
   ·simp only [apn]
    rfl
   refine take_ (i := 9) (N := some 12) (v := ?_) (a' := ?_) #[false, true, true, false, false, true, true, false, true, true, false, false] rfl rfl (take_ofW HT_.out HW_.out (by kernel_rfl)) (fun _ _ _ h => h) (Or.inl ⟨by rfl, ?_⟩) hHeld ?_ ?_
   rotate_left
   ·rintro w' ⟨s0, s1, s2⟩
    go_simp
    with_reducible rfl
   rotate_left
   ·simp only [apn]
    rfl
   refine join_ (σ := Value × Value × Value) 3 #[true, true, true, true, true, true, true, false, true, true, false, false] (fun s_ => [(3, s_.1), (6, s_.2.1), (7, s_.2.2)]) (fun s_ w' => (w'.cell? ⟨gb153, 0, none⟩ = some (.slice A0_0 l0_0.length c0_0) ∧ w'.cell? ⟨gb153, 1, none⟩ = some (.slice A0_1 l0_1.length c0_1) ∧ w'.cell? ⟨gb153, 2, none⟩ = some (.int .i64 a0_2)) ∧ (Kd.R (Kd.int .i64) 3 w' w.heap.size (fun k_ => some k_ ≠ (s_.2.2 : Value).ownBlock) s_.2.1 y158) ∧ (Kd.R (Kd.int .i64) 3 w' w.heap.size (fun k_ => some k_ ≠ (s_.2.1 : Value).ownBlock) s_.2.2 y161) ∧ (w'.heap[gb153]? = some (.cells #[.slice A0_0 l0_0.length c0_0, .slice A0_1 l0_1.length c0_1, .int .i64 a0_2] 28 (0, 0))) ∧ (w'.heap[gb154]? = some (.cells #[.slice none 0 0, .slice none 0 0, .int .i64 0] 28 (0, 0))) ∧ (Below w.heap.size w w')) ?_ ?_
   rotate_left
   ·intro hCont
    refine two_ (i := 0) (j := 4) (Ni := some 3) (Nj := some 7) #[true, true, true, false, false, true, true, false, true, true, false, false] #[false, true, true, false, true, true, true, false, true, true, false, false] rfl rfl rfl rfl (two_of HT_.out (by kernel_rfl)) (by decide) (by decide) (fun K hK => ?_) (fun K hK => ?_)
    ·skip
     refine Kd.R_lit_step (Kd.int .i64) _ 3 ?hg (N := 3) ?hd (xs := ([] : List Int)) (inner := []) (ok := fun _ => True) (okp := fun _ => True) ?hr ?hp (fun _ hk => hk) trivial (Below.refl _ _) (Nat.le_refl _) (by simp) ?_; (case hd => rfl); (case hg => rfl); (case hr => first | (go_simp; done) | (go_simp; rfl)); (case hp => exact (Reps.none _ _))
     intro v156 w7 ho8 hb hg_ hnew_
     clear hg_ hnew_
     (first | rw [← Ny155.out] at ho8 | (simp only [Int.reduceToNat] at ho8; rw [← Ny155.out] at ho8))
     have n_ := And.intro (Aside0.mk (Kd.R_lower ho8 (below_size (bw2 HB.out GE153.out GE154.out)))) (And.intro (Aside0.mk (bbq BK153.out hb)) (And.intro (Aside0.mk (bbq BK154.out hb)) (Aside0.mk (below_step (bw2 HB.out GE153.out GE154.out) hb))))
     clear BK153 BK154 HB
     obtain ⟨HO157, BK153, BK154, HB⟩ := n_
     clear hb ho8
     refine hK.out _ _ (cl3 BK153.out) (fun hHeld => ?_)
     clear hK K
     refine norm_ (a' := ?_) ?_ ?_
     rotate_left
     ·show Act.put _ (some 3) _ = _
      simp only [apn]
      rfl
     refine two_ (i := 3) (j := 4) (Ni := some 6) (Nj := some 7) #[true, true, true, true, false, true, true, false, true, true, false, false] #[true, true, true, false, true, true, true, false, true, true, false, false] rfl rfl rfl rfl (two_of HT_.out (by kernel_rfl)) (by decide) (by decide) (fun K hK => ?_) (fun K hK => ?_)
     ·skip
      refine Kd.R_append_rows_step (Kd.int .i64) (w0 := w) w.heap.size (by rfl) (.tmp 3) (.tmp 5) 22 3 (.int .i64 0) 8 rfl Try.underlying22 info3 rfl (by decide) (by omega) v156 y155 l0_0 _ _ _ (fun _ => True) (fun _ => False) rfl rfl ?aO ?aR (fun _ _ h => h) (fun _ h => h.elim) ?aF ?aB ?aS ?aL ?_
      (case aR => exact caq (Kd.C_below HR0_0.out HB.out))
      (case aB => exact (bw2 HB.out GE153.out GE154.out))
      (case aF => exact (fun _ _ => trivial))
      (case aO => exact (rq HO157.out))
      (case aS => exact (below_size (bw2 HB.out GE153.out GE154.out)))
      (case aL => have := LMc2.out; omega)
      intro v159 w9 ho hb hg hat
      rw [← Ny158.out] at ho
      have n_ := And.intro (Aside0.mk (blk_grown (g := gb153) (o := .cells #[.slice A0_0 l0_0.length c0_0, .slice A0_1 l0_1.length c0_1, .int .i64 a0_2] 28 (0, 0)) (bq BK153.out) hg (Kd.R_ne HO157.out BK153.out (by decide)))) (And.intro (Aside0.mk (blk_grown (g := gb154) (o := .cells #[.slice none 0 0, .slice none 0 0, .int .i64 0] 28 (0, 0)) (bq BK154.out) hg (Kd.R_ne HO157.out BK154.out (by decide)))) (And.intro (Aside0.mk (hb)) (Aside0.mk (ho))))
      clear BK153 BK154 HB HO157
      obtain ⟨BK153, BK154, HB, HO160⟩ := n_
      clear ho hb hg hat
      refine hK.out _ _ (cl3 BK153.out) (fun hHeld => ?_)
      clear hK K
      refine norm_ (a' := ?_) ?_ ?_
      rotate_left
      ·show Act.put _ (some 6) _ = _
       simp only [apn]
       rfl
      refine one_ (i := 4) (N := some 7) #[true, true, true, true, true, true, true, false, true, true, false, false] rfl rfl (one_of HT_.out (by kernel_rfl)) (by decide) (fun K hK => ?_)
      refine Kd.R_lit_step (Kd.int .i64) _ 3 ?hg (N := 7) ?hd (xs := ([] : List Int)) (inner := []) (ok := fun _ => True) (okp := fun _ => True) ?hr ?hp (fun _ hk => hk) trivial (Below.refl _ _) (Nat.le_refl _) (by simp) ?_; (case hd => rfl); (case hg => rfl); (case hr => first | (go_simp; done) | (go_simp; rfl)); (case hp => exact (Reps.none _ _))
      intro v162 w10 ho11 hb hg_ hnew_
      clear hg_ hnew_
      (first | rw [← Ny161.out] at ho11 | (simp only [Int.reduceToNat] at ho11; rw [← Ny161.out] at ho11))
      have n_ := And.intro (Aside0.mk (Kd.R_elder' (rq HO160.out) (Kd.R_base ho11) hb)) (And.intro (Aside0.mk (Kd.R_lower (Kd.R_new' ho11 (Kd.R_lt (rq HO160.out))) (below_size (bw2 HB.out GE153.out GE154.out)))) (And.intro (Aside0.mk (bbq BK153.out hb)) (And.intro (Aside0.mk (bbq BK154.out hb)) (Aside0.mk (below_step (bw2 HB.out GE153.out GE154.out) hb)))))
      clear HO160 BK153 BK154 HB
      obtain ⟨HO160, HO163, BK153, BK154, HB⟩ := n_
      clear hb ho11
      refine hK.out _ _ (cl3 BK153.out) (fun hHeld => ?_)
      clear hK K
      refine norm_ (a' := ?_) ?_ ?_
      rotate_left
      ·show Act.put _ (some 7) _ = _
       simp only [apn]
       rfl
      exact norm_ (by simp only [putAll, Act.put, List.setIfInBounds_toArray, List.set_cons_zero, List.set_cons_succ]) (hCont (v156, v159, v162) _ ⟨hHeld, (rmq HO160.out (fun _ hk => hk.2)), (rmq HO163.out (fun _ hk => hk.2)), (bq BK153.out), (bq BK154.out), (bw2 HB.out GE153.out GE154.out)⟩)
     ·skip
      refine Kd.R_lit_step (Kd.int .i64) _ 3 ?hg (N := 7) ?hd (xs := ([] : List Int)) (inner := []) (ok := fun _ => True) (okp := fun _ => True) ?hr ?hp (fun _ hk => hk) trivial (Below.refl _ _) (Nat.le_refl _) (by simp) ?_; (case hd => rfl); (case hg => rfl); (case hr => first | (go_simp; done) | (go_simp; rfl)); (case hp => exact (Reps.none _ _))
      intro v162 w9 ho10 hb hg_ hnew_
      clear hg_ hnew_
      (first | rw [← Ny161.out] at ho10 | (simp only [Int.reduceToNat] at ho10; rw [← Ny161.out] at ho10))
      have n_ := And.intro (Aside0.mk (Kd.R_elder' (rq HO157.out) (Kd.R_base ho10) hb)) (And.intro (Aside0.mk (Kd.R_lower (Kd.R_new' ho10 (Kd.R_lt (rq HO157.out))) (below_size (bw2 HB.out GE153.out GE154.out)))) (And.intro (Aside0.mk (bbq BK153.out hb)) (And.intro (Aside0.mk (bbq BK154.out hb)) (Aside0.mk (below_step (bw2 HB.out GE153.out GE154.out) hb)))))
      clear HO157 BK153 BK154 HB
      obtain ⟨HO157, HO163, BK153, BK154, HB⟩ := n_
      clear hb ho10
      refine hK.out _ _ (cl3 BK153.out) (fun hHeld => ?_)
      clear hK K
      refine norm_ (a' := ?_) ?_ ?_
      rotate_left
      ·show Act.put _ (some 7) _ = _
       simp only [apn]
       rfl
      refine one_ (i := 3) (N := some 6) #[true, true, true, true, true, true, true, false, true, true, false, false] rfl rfl (one_of HT_.out (by kernel_rfl)) (by decide) (fun K hK => ?_)
      refine Kd.R_append_rows_step (Kd.int .i64) (w0 := w) w.heap.size (by rfl) (.tmp 3) (.tmp 5) 22 3 (.int .i64 0) 8 rfl Try.underlying22 info3 rfl (by decide) (by omega) v156 y155 l0_0 _ _ _ (fun k_ => some k_ ≠ (v162 : Value).ownBlock) (fun _ => False) rfl rfl ?aO ?aR (fun _ _ h => h) (fun _ h => h.elim) ?aF ?aB ?aS ?aL ?_
      (case aR => exact caq (Kd.C_below HR0_0.out HB.out))
      (case aB => exact (bw2 HB.out GE153.out GE154.out))
      (case aF => exact (fun k_ hk => Kd.fresh' (Kd.R_lt (rq HO163.out)) k_ hk))
      (case aO => exact (by (with_reducible repeat (first | apply Kd.R_alloc | apply Kd.R_drewN | apply Kd.R_drew)); exact Kd.R_mono HO157.out (fun _ hk => hk.2)))
      (case aS => exact (below_size (bw2 HB.out GE153.out GE154.out)))
      (case aL => have := LMc2.out; omega)
      intro v159 w11 ho hb hg hat
      rw [← Ny158.out] at ho
      have n_ := And.intro (Aside0.mk (blk_grown (g := gb153) (o := .cells #[.slice A0_0 l0_0.length c0_0, .slice A0_1 l0_1.length c0_1, .int .i64 a0_2] 28 (0, 0)) (bq BK153.out) hg (Kd.R_ne HO157.out BK153.out (by decide)))) (And.intro (Aside0.mk (blk_grown (g := gb154) (o := .cells #[.slice none 0 0, .slice none 0 0, .int .i64 0] 28 (0, 0)) (bq BK154.out) hg (Kd.R_ne HO157.out BK154.out (by decide)))) (And.intro (Aside0.mk (Kd.R_after (ok := (fun _ => True)) (rq HO163.out) hg hat)) (And.intro (Aside0.mk (hb)) (Aside0.mk (ho)))))
      clear BK153 BK154 HO163 HB HO157
      obtain ⟨BK153, BK154, HO163, HB, HO160⟩ := n_
      clear ho hb hg hat
      refine hK.out _ _ (cl3 BK153.out) (fun hHeld => ?_)
      clear hK K
      refine norm_ (a' := ?_) ?_ ?_
      rotate_left
      ·show Act.put _ (some 6) _ = _
       simp only [apn]
       rfl
      exact norm_ (by simp only [putAll, Act.put, List.setIfInBounds_toArray, List.set_cons_zero, List.set_cons_succ]) (hCont (v156, v159, v162) _ ⟨hHeld, (rq HO160.out), (rmq HO163.out (fun _ hk => hk.2)), (bq BK153.out), (bq BK154.out), (bw2 HB.out GE153.out GE154.out)⟩)
    ·skip
     refine Kd.R_lit_step (Kd.int .i64) _ 3 ?hg (N := 7) ?hd (xs := ([] : List Int)) (inner := []) (ok := fun _ => True) (okp := fun _ => True) ?hr ?hp (fun _ hk => hk) trivial (Below.refl _ _) (Nat.le_refl _) (by simp) ?_; (case hd => rfl); (case hg => rfl); (case hr => first | (go_simp; done) | (go_simp; rfl)); (case hp => exact (Reps.none _ _))
     intro v162 w7 ho8 hb hg_ hnew_
     clear hg_ hnew_
     (first | rw [← Ny161.out] at ho8 | (simp only [Int.reduceToNat] at ho8; rw [← Ny161.out] at ho8))
     have n_ := And.intro (Aside0.mk (Kd.R_lower ho8 (below_size (bw2 HB.out GE153.out GE154.out)))) (And.intro (Aside0.mk (bbq BK153.out hb)) (And.intro (Aside0.mk (bbq BK154.out hb)) (Aside0.mk (below_step (bw2 HB.out GE153.out GE154.out) hb))))
     clear BK153 BK154 HB
     obtain ⟨HO163, BK153, BK154, HB⟩ := n_
     clear hb ho8
     refine hK.out _ _ (cl3 BK153.out) (fun hHeld => ?_)
     clear hK K
     refine norm_ (a' := ?_) ?_ ?_
     rotate_left
     ·show Act.put _ (some 7) _ = _
      simp only [apn]
      rfl
     refine one_ (i := 0) (N := some 3) #[true, true, true, false, true, true, true, false, true, true, false, false] rfl rfl (one_of HT_.out (by kernel_rfl)) (by decide) (fun K hK => ?_)
     refine Kd.R_lit_step (Kd.int .i64) _ 3 ?hg (N := 3) ?hd (xs := ([] : List Int)) (inner := []) (ok := fun _ => True) (okp := fun _ => True) ?hr ?hp (fun _ hk => hk) trivial (Below.refl _ _) (Nat.le_refl _) (by simp) ?_; (case hd => rfl); (case hg => rfl); (case hr => first | (go_simp; done) | (go_simp; rfl)); (case hp => exact (Reps.none _ _))
     intro v156 w9 ho10 hb hg_ hnew_
     clear hg_ hnew_
     (first | rw [← Ny155.out] at ho10 | (simp only [Int.reduceToNat] at ho10; rw [← Ny155.out] at ho10))
     have n_ := And.intro (Aside0.mk (Kd.R_elder' (rq HO163.out) (Kd.R_base ho10) hb)) (And.intro (Aside0.mk (Kd.R_lower (Kd.R_new' ho10 (Kd.R_lt (rq HO163.out))) (below_size (bw2 HB.out GE153.out GE154.out)))) (And.intro (Aside0.mk (bbq BK153.out hb)) (And.intro (Aside0.mk (bbq BK154.out hb)) (Aside0.mk (below_step (bw2 HB.out GE153.out GE154.out) hb)))))
     clear HO163 BK153 BK154 HB
     obtain ⟨HO163, HO157, BK153, BK154, HB⟩ := n_
     clear hb ho10
     refine hK.out _ _ (cl3 BK153.out) (fun hHeld => ?_)
     clear hK K
     refine norm_ (a' := ?_) ?_ ?_
     rotate_left
     ·show Act.put _ (some 3) _ = _
      simp only [apn]
      rfl
     refine one_ (i := 3) (N := some 6) #[true, true, true, true, true, true, true, false, true, true, false, false] rfl rfl (one_of HT_.out (by kernel_rfl)) (by decide) (fun K hK => ?_)
     refine Kd.R_append_rows_step (Kd.int .i64) (w0 := w) w.heap.size (by rfl) (.tmp 3) (.tmp 5) 22 3 (.int .i64 0) 8 rfl Try.underlying22 info3 rfl (by decide) (by omega) v156 y155 l0_0 _ _ _ (fun k_ => some k_ ≠ (v162 : Value).ownBlock) (fun _ => False) rfl rfl ?aO ?aR (fun _ _ h => h) (fun _ h => h.elim) ?aF ?aB ?aS ?aL ?_
     (case aR => exact caq (Kd.C_below HR0_0.out HB.out))
     (case aB => exact (bw2 HB.out GE153.out GE154.out))
     (case aF => exact (fun k_ hk => Kd.fresh' (Kd.R_lt (rq HO163.out)) k_ hk))
     (case aO => exact (by (with_reducible repeat (first | apply Kd.R_alloc | apply Kd.R_drewN | apply Kd.R_drew)); exact Kd.R_mono HO157.out (fun _ hk => hk.2)))
     (case aS => exact (below_size (bw2 HB.out GE153.out GE154.out)))
     (case aL => have := LMc2.out; omega)
     intro v159 w11 ho hb hg hat
     rw [← Ny158.out] at ho
     have n_ := And.intro (Aside0.mk (blk_grown (g := gb153) (o := .cells #[.slice A0_0 l0_0.length c0_0, .slice A0_1 l0_1.length c0_1, .int .i64 a0_2] 28 (0, 0)) (bq BK153.out) hg (Kd.R_ne HO157.out BK153.out (by decide)))) (And.intro (Aside0.mk (blk_grown (g := gb154) (o := .cells #[.slice none 0 0, .slice none 0 0, .int .i64 0] 28 (0, 0)) (bq BK154.out) hg (Kd.R_ne HO157.out BK154.out (by decide)))) (And.intro (Aside0.mk (Kd.R_after (ok := (fun _ => True)) (rq HO163.out) hg hat)) (And.intro (Aside0.mk (hb)) (Aside0.mk (ho)))))
     clear BK153 BK154 HO163 HB HO157
     obtain ⟨BK153, BK154, HO163, HB, HO160⟩ := n_
     clear ho hb hg hat
     refine hK.out _ _ (cl3 BK153.out) (fun hHeld => ?_)
     clear hK K
     refine norm_ (a' := ?_) ?_ ?_
     rotate_left
     ·show Act.put _ (some 6) _ = _
      simp only [apn]
      rfl
     exact norm_ (by simp only [putAll, Act.put, List.setIfInBounds_toArray, List.set_cons_zero, List.set_cons_succ]) (hCont (v156, v159, v162) _ ⟨hHeld, (rq HO160.out), (rmq HO163.out (fun _ hk => hk.2)), (bq BK153.out), (bq BK154.out), (bw2 HB.out GE153.out GE154.out)⟩)
   rintro ⟨v156, v159, v162⟩ w12 ⟨hS_, h0_, h1_, h2_, h3_, h4_⟩
   have n0_ : Aside0 (Kd.R (Kd.int .i64) 3 w12 w.heap.size (fun k_ => some k_ ≠ (v162 : Value).ownBlock) v159 y158) := ⟨h0_⟩
   have n1_ : Aside0 (Kd.R (Kd.int .i64) 3 w12 w.heap.size (fun k_ => some k_ ≠ (v159 : Value).ownBlock) v162 y161) := ⟨h1_⟩
   have n2_ : Aside0 (w12.heap[gb153]? = some (.cells #[.slice A0_0 l0_0.length c0_0, .slice A0_1 l0_1.length c0_1, .int .i64 a0_2] 28 (0, 0))) := ⟨h2_⟩
   have n3_ : Aside0 (w12.heap[gb154]? = some (.cells #[.slice none 0 0, .slice none 0 0, .int .i64 0] 28 (0, 0))) := ⟨h3_⟩
   have n4_ : Aside0 (Below w.heap.size w w12) := ⟨h4_⟩
   clear BK153
   clear BK154
   clear HB
   clear h0_ h1_ h2_ h3_ h4_
   have HO160 := n0_
   have HO163 := n1_
   have BK153 := n2_
   have BK154 := n3_
   have HB := n4_
   clear n0_ n1_ n2_ n3_ n4_
   have hHeld : w12.cell? ⟨gb153, 0, none⟩ = some (.slice A0_0 l0_0.length c0_0) ∧ w12.cell? ⟨gb153, 1, none⟩ = some (.slice A0_1 l0_1.length c0_1) ∧ w12.cell? ⟨gb153, 2, none⟩ = some (.int .i64 a0_2) := hS_
   refine norm_ (a' := ?_) ?_ ?_
   rotate_left
   ·simp only [putAll, Act.put, List.setIfInBounds_toArray, List.set_cons_zero, List.set_cons_succ]
    rfl
   refine one_ (i := 7) (N := some 10) #[true, true, true, true, true, true, true, true, true, true, false, false] rfl rfl (one_of HT_.out (by kernel_rfl)) (by decide) (fun K hK => ?_)
   refine Kd.R_append_rows_step (Kd.int .i64) (w0 := w) w.heap.size (by rfl) (.tmp 7) (.tmp 9) 22 3 (.int .i64 0) 8 rfl Try.underlying22 info3 rfl (by decide) (by omega) v162 y161 l0_1 _ _ _ (fun k_ => some k_ ≠ (v159 : Value).ownBlock) (fun _ => False) rfl rfl ?aO ?aR (fun _ _ h => h) (fun _ h => h.elim) ?aF ?aB ?aS ?aL ?_
   (case aR => exact caq (Kd.C_below HR0_1.out HB.out))
   (case aB => exact (bw2 HB.out GE153.out GE154.out))
   (case aF => exact (fun k_ hk => Kd.fresh' (Kd.R_lt (rq HO160.out)) k_ hk))
   (case aO => exact (rq HO163.out))
   (case aS => exact (below_size (bw2 HB.out GE153.out GE154.out)))
   (case aL => have := LMc3.out; omega)
   intro v165 w13 ho hb hg hat
   rw [← Ny164.out] at ho
   have n_ := And.intro (Aside0.mk (blk_grown (g := gb153) (o := .cells #[.slice A0_0 l0_0.length c0_0, .slice A0_1 l0_1.length c0_1, .int .i64 a0_2] 28 (0, 0)) (bq BK153.out) hg (Kd.R_ne HO163.out BK153.out (by decide)))) (And.intro (Aside0.mk (blk_grown (g := gb154) (o := .cells #[.slice none 0 0, .slice none 0 0, .int .i64 0] 28 (0, 0)) (bq BK154.out) hg (Kd.R_ne HO163.out BK154.out (by decide)))) (And.intro (Aside0.mk (Kd.R_after (ok := (fun _ => True)) (rmq HO160.out (fun _ hk => ⟨trivial, hk⟩)) hg hat)) (And.intro (Aside0.mk (hb)) (Aside0.mk (ho)))))
   clear BK153 BK154 HO160 HB HO163
   obtain ⟨BK153, BK154, HO160, HB, HO166⟩ := n_
   clear ho hb hg hat
   obtain ⟨Ao14, co14, eo14⟩ := Kd.R_slice HO166.out
   (first | subst eo14 | (injection eo14 with f1_ f2_ f3_; have f4_ := f1_.symm; have f5_ := f3_.symm; clear f1_ f2_ f3_; subst f4_; subst f5_))
   obtain ⟨Ao15, co15, eo15⟩ := Kd.R_slice HO160.out
   (first | subst eo15 | (injection eo15 with f1_ f2_ f3_; have f4_ := f1_.symm; have f5_ := f3_.symm; clear f1_ f2_ f3_; subst f4_; subst f5_))
   refine hK.out _ _ (cl3 BK153.out) (fun hHeld => ?_)
   clear hK K
   refine norm_ (a' := ?_) ?_ ?_
   rotate_left
   ·show Act.put _ (some 10) _ = _
    simp only [apn]
    rfl
   refine pure_ (i := 10) (N := some 13) (v := ?_) (a' := ?_) #[true, true, true, true, true, true, true, true, true, true, true, false] rfl rfl (any_of HT_.out (by kernel_rfl)) (fun _ _ _ h => h) (Or.inl ⟨by rfl, ?_⟩) ?_ ?_
   rotate_left
   ·intro w'
    go_simp
    with_reducible rfl
   rotate_left
   ·simp only [apn]
    rfl
   refine one_ (i := 11) (N := none) #[true, true, true, true, true, true, true, true, true, true, true, true] rfl rfl (one_of HT_.out (by kernel_rfl)) (by decide) (fun K hK => ?_)
   have hs16 : w13.cell? ⟨gb154, 0, none⟩ = some (.slice none 0 0) := (blk_cell BK154.out 0).trans rfl
   have hfs16 := blk_frozen BK154.out 0
   have hns16_0 := NB153_154.out
   have hms16_0 := NB154_153.out
   have hs17 : w13.cell? ⟨gb154, 1, none⟩ = some (.slice none 0 0) := (blk_cell BK154.out 1).trans rfl
   have hfs17 := blk_frozen BK154.out 1
   have hns17_0 := NB153_154.out
   have hms17_0 := NB154_153.out
   have hs18 : w13.cell? ⟨gb154, 2, none⟩ = some (.int .i64 0) := (blk_cell BK154.out 2).trans rfl
   have hfs18 := blk_frozen BK154.out 2
   have hns18_0 := NB153_154.out
   have hms18_0 := NB154_153.out
   refine skip_ (w1 := ?_) (by rfl) rfl ?_ ?_
   rotate_left
   ·go_simp
    rfl
   refine hK.out _ _ ⟨((cell_far (p := ⟨gb154, _, none⟩) NB153_154.out _).trans (((cell_far (p := ⟨gb154, _, none⟩) NB153_154.out _).trans (((cell_far (p := ⟨gb154, _, none⟩) NB153_154.out _).trans (hHeld.1)))))), ((cell_far (p := ⟨gb154, _, none⟩) NB153_154.out _).trans (((cell_far (p := ⟨gb154, _, none⟩) NB153_154.out _).trans (((cell_far (p := ⟨gb154, _, none⟩) NB153_154.out _).trans (hHeld.2.1)))))), ((cell_far (p := ⟨gb154, _, none⟩) NB153_154.out _).trans (((cell_far (p := ⟨gb154, _, none⟩) NB153_154.out _).trans (((cell_far (p := ⟨gb154, _, none⟩) NB153_154.out _).trans (hHeld.2.2))))))⟩ (fun hHeld => ?_)
   clear hK K
   refine done_ (done_of HT_.out (by kernel_rfl)) ?_
   try go_wp2
   refine bodyPost_ret (results_cell_row rfl _ _ gb154 28 #[.slice Ao15 y158.length co15, .slice Ao14 y164.length co14, .int .i64 a0_2] (0, 0) _ rfl (bp3 BK154.out) Try.underlying28 rfl (by kernel_rfl)) rfl ?_
   exact ⟨_, _, by first | rfl | (simp [errW_none, errW_some] <;> rfl) | (simp [*, errW_none, errW_some] <;> rfl), by (with_reducible repeat (first | apply Kd.R_alloc | apply Kd.R_drewN | apply Kd.R_drew)); exact Kd.R_mono (Kd.R_far (p := ⟨gb154, 2, none⟩) (Kd.R_far (p := ⟨gb154, 1, none⟩) (Kd.R_far (p := ⟨gb154, 0, none⟩) (Kd.R_types HO160.out BK154.out (by decide)) (fun _ hk => hk.2) (.slice Ao15 y158.length co15)) (fun _ hk => hk.2) (.slice Ao14 y164.length co14)) (fun _ hk => hk.2) (.int .i64 a0_2)) (fun _ hk => hk.1.2), by (with_reducible repeat (first | apply Kd.R_alloc | apply Kd.R_drewN | apply Kd.R_drew)); exact Kd.R_mono (Kd.R_far (p := ⟨gb154, 2, none⟩) (Kd.R_far (p := ⟨gb154, 1, none⟩) (Kd.R_far (p := ⟨gb154, 0, none⟩) (Kd.R_types HO166.out BK154.out (by decide)) (fun _ hk => hk.2) (.slice Ao15 y158.length co15)) (fun _ hk => hk.2) (.slice Ao14 y164.length co14)) (fun _ hk => hk.2) (.int .i64 a0_2)) (fun _ hk => hk.1), by repeat (first | (with_reducible first | exact HB.out | apply below_alloc | apply pw_below_drewN | apply below_drew1 | refine below_set ?_ GE153.out | refine below_set ?_ GE154.out) | exact HB.out)⟩
  ·rw [if_neg c3] at H
   exact absurd H (by simp)
 ·rw [if_neg c2] at H
  exact absurd H (by simp)

end Go.Proofs.Ytiggokojffejeaa.PFnExactApplyWish
