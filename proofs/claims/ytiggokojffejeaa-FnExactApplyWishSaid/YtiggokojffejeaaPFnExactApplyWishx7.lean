/- Written by this session's program myprint.py, which runs the kit's print.py beside texts of this session's own. No condition. -/
import Derived.Test.YtiggokojffejeaaPFnExactApplyWishx0
import Derived.Test.YtiggokojffejeaaPFnExactApplyWishx6
namespace Go.Proofs.Ytiggokojffejeaa.PFnExactApplyWish
open Go.RowKit Go.Proofs.YtiggokojffejeaaW.PrintWords Go.Proofs.YtiggokojffejeaaW.PrintLast Go.Proofs.YtiggokojffejeaaW.PrintMore
attribute [local go_sem] max2_int min2_int max_two min_two max_three min_three max_four min_four   -- for this text's walks alone
set_option linter.unusedVariables false
set_option linter.unusedSimpArgs false

/-! ### impl_State_apply: function 69 -/
def impl_State_apply.f (l0_0 : List Int) (l0_1 : List Int) (a0_2 : Int) (a1_0 : Int) (a1_1 : Int) (a1_2 : Int) (a1_3 : Int) (a1_4 : Int) (a1_5 : Int) (a1_6 : Int) (a2 : Int) (a3 : Int) : Option (Int × Int × List Int × List Int) := (impl_mayApply.f l0_0 l0_1 a0_2 a1_0 a1_1 a1_2 a1_3 a1_4 a1_5 a1_6 a2).bind fun t257 => (if t257 = 0 then ((impl_costOf.f a2 a1_4 a1_5 a1_6).bind fun bt258 => (if 0 ≤ a1_0 then (if a1_0 < (l0_0.length : Int) then ((some (l0_0.set (a1_0 : Int).toNat (wrap64 ((rd l0_0 a1_0) - (wrap64 ((wrap64 (a1_2 + bt258.1)) + bt258.2)))) : List Int)).bind fun y261 => (if 0 ≤ a1_1 then (if a1_1 < (l0_0.length : Int) then ((some (y261.set (a1_1 : Int).toNat (wrap64 ((rd y261 a1_1) + a1_2)) : List Int)).bind fun y263 => (if 0 ≤ a3 then (if a3 < (l0_0.length : Int) then (if a1_0 < (l0_1.length : Int) then (some (0, wrap64 (a0_2 + bt258.1), (y263.set (a3 : Int).toNat (wrap64 ((rd y263 a3) + bt258.2))), (l0_1.set (a1_0 : Int).toNat (wrap64 ((rd l0_1 a1_0) + 1))))) else (none)) else (none)) else (none))) else (none)) else (none))) else (none)) else (none))) else (some (t257, a0_2, l0_0, l0_1)))
def impl_State_apply.T5 : Bool × List (List Nat × List Nat) := (true, [([], []), ([0], [0]), ([1], [1]), ([2], [2]), ([], []), ([4], [4]), ([3, 5], [3, 5]), ([6], [6]), ([], []), ([8], [8]), ([], []), ([9, 10], [9, 10]), ([], []), ([11, 12], [11, 12]), ([7, 13], [7, 13]), ([3, 5, 0, 1, 2, 3, 4, 5, 6, 7, 8, 9, 10, 11, 12, 13, 14], [3, 5]), ([15, 14, 0, 1, 2, 3, 4, 5, 6, 7, 8, 9, 10, 11, 12, 13, 14], [14, 15])])
def impl_State_apply.B5 : List Nat := [0, 1, 3, 7, 0, 16, 63, 127, 0, 256, 0, 1792, 0, 7936, 16383, 32767, 65535]
theorem impl_State_apply.tab5 : rtab .any (opsOf Try.f69 5) = impl_State_apply.T5 := by kernel_rfl
theorem impl_State_apply.bits5 : waitsOk impl_State_apply.T5.2 impl_State_apply.B5 = true := by kernel_rfl
def impl_State_apply.T6 : Bool × List (List Nat × List Nat) := (true, [([], []), ([0], [0]), ([1], [1]), ([2], [2]), ([], []), ([4], [4]), ([3, 5], [3, 5]), ([6], [6]), ([], []), ([8], [8]), ([7, 9], [7, 9]), ([3, 5, 0, 1, 2, 3, 4, 5, 6, 7, 8, 9, 10], [3, 5]), ([11, 10, 0, 1, 2, 3, 4, 5, 6, 7, 8, 9, 10], [10, 11])])
def impl_State_apply.B6 : List Nat := [0, 1, 3, 7, 0, 16, 63, 127, 0, 256, 1023, 2047, 4095]
theorem impl_State_apply.tab6 : rtab .any (opsOf Try.f69 6) = impl_State_apply.T6 := by kernel_rfl
theorem impl_State_apply.bits6 : waitsOk impl_State_apply.T6.2 impl_State_apply.B6 = true := by kernel_rfl
def impl_State_apply.T9 : Bool × List (List Nat × List Nat) := (true, [([], []), ([0], [0]), ([1], [1]), ([2], [2]), ([], []), ([4], [4]), ([3, 5], [3, 5]), ([6], [6]), ([7], [7]), ([3, 5, 0, 1, 2, 3, 4, 5, 6, 7, 8], [3, 5]), ([9, 8, 0, 1, 2, 3, 4, 5, 6, 7, 8], [8, 9])])
def impl_State_apply.B9 : List Nat := [0, 1, 3, 7, 0, 16, 63, 127, 255, 511, 1023]
theorem impl_State_apply.tab9 : rtab .any (opsOf Try.f69 9) = impl_State_apply.T9 := by kernel_rfl
theorem impl_State_apply.bits9 : waitsOk impl_State_apply.T9.2 impl_State_apply.B9 = true := by kernel_rfl
set_option maxHeartbeats 8000000 in
set_option maxRecDepth 100000 in
theorem impl_State_apply.calls (g : Nat) (P0_0_ : Nat → Prop) (u9000_ : Value) (l0_0 : List Int) (P0_1_ : Nat → Prop) (u9001_ : Value) (l0_1 : List Int) (a0_2 : Int) (a1_0 : Int) (a1_1 : Int) (a1_2 : Int) (a1_3 : Int) (a1_4 : Int) (a1_5 : Int) (a1_6 : Int) (a2 : Int) (a3 : Int) (r1 : Int) (r2 : Int) (r3 : List Int) (r4 : List Int) (w0 w : World) (hX : w.heap[g]? = some (.cells #[u9000_, u9001_, .int .i64 a0_2] 28 (0, 0))) (hG : w0.heap.size ≤ g) (hB : Below w0.heap.size w0 w) (ho0_0 : Kd.R (Kd.int .i64) 3 w w0.heap.size P0_0_ u9000_ l0_0) (hp0_0_0_1 : ∀ k_, P0_0_ k_ → ¬ P0_1_ k_) (ho0_1 : Kd.R (Kd.int .i64) 3 w w0.heap.size P0_1_ u9001_ l0_1) (hp0_1_0_0 : ∀ k_, P0_1_ k_ → ¬ P0_0_ k_) (h : impl_State_apply.f l0_0 l0_1 a0_2 a1_0 a1_1 a1_2 a1_3 a1_4 a1_5 a1_6 a2 a3 = some (r1, r2, r3, r4)) :
  Calls Try.prog 69 #[.pointer (some ⟨g, 0, none⟩), .agg #[.int .i64 a1_0, .int .i64 a1_1, .int .i64 a1_2, .int .i64 a1_3, .int .i64 a1_4, .int .i64 a1_5, .int .i64 a1_6], .int .i64 a2, .int .i64 a3] w fun e w' => e = .returned (.int .i64 r1) ∧ w'.heap[g]? = some (.cells #[u9000_, u9001_, .int .i64 r2] 28 (0, 0)) ∧ Kd.R (Kd.int .i64) 3 w' w0.heap.size (fun k_ => ((P0_0_ k_ ∨ P0_1_ k_) ∨ w.heap.size ≤ k_)) u9000_ r3 ∧ Kd.R (Kd.int .i64) 3 w' w0.heap.size (fun k_ => ((P0_0_ k_ ∨ P0_1_ k_) ∨ w.heap.size ≤ k_)) u9001_ r4 ∧ Below w0.heap.size w0 w' ∧ Kept w w' (fun k_ => (P0_0_ k_ ∨ P0_1_ k_) ∨ k_ = g) := by
 have hu32 := Try.underlying32
 have hu28 := Try.underlying28
 have HO0_0 := Aside0.mk (show Kd.R (Kd.int .i64) 3 w w0.heap.size (fun k_ => ((P0_0_ k_ ∨ P0_1_ k_) ∨ w.heap.size ≤ k_) ∧ some k_ ≠ (u9001_ : Value).ownBlock) u9000_ l0_0 from Kd.R_mono ho0_0 (fun k_ hk => ⟨(.inl (.inl hk)), fun e_ => hp0_0_0_1 k_ hk (ho0_1.1 k_ e_.symm)⟩))
 have HO0_1 := Aside0.mk (show Kd.R (Kd.int .i64) 3 w w0.heap.size (fun k_ => ((P0_0_ k_ ∨ P0_1_ k_) ∨ w.heap.size ≤ k_) ∧ some k_ ≠ (u9000_ : Value).ownBlock) u9001_ l0_1 from Kd.R_mono ho0_1 (fun k_ hk => ⟨(.inl (.inr hk)), fun e_ => hp0_1_0_0 k_ hk (ho0_0.1 k_ e_.symm)⟩))
 have BK0 := Aside0.mk hX
 have GE0 := Aside0.mk hG
 clear hX hG
 have HK := Aside0.mk (Kept.refl w (fun k_ => (P0_0_ k_ ∨ P0_1_ k_) ∨ k_ = g))
 have HW0 := Aside0.mk hB.size
 have HB := Aside0.mk hB
 clear hB
 have H : ((impl_mayApply.f l0_0 l0_1 a0_2 a1_0 a1_1 a1_2 a1_3 a1_4 a1_5 a1_6 a2).bind fun t257 => (if t257 = 0 then ((impl_costOf.f a2 a1_4 a1_5 a1_6).bind fun bt258 => (if 0 ≤ a1_0 then (if a1_0 < (l0_0.length : Int) then ((some (l0_0.set (a1_0 : Int).toNat (wrap64 ((rd l0_0 a1_0) - (wrap64 ((wrap64 (a1_2 + bt258.1)) + bt258.2)))) : List Int)).bind fun y261 => (if 0 ≤ a1_1 then (if a1_1 < (l0_0.length : Int) then ((some (y261.set (a1_1 : Int).toNat (wrap64 ((rd y261 a1_1) + a1_2)) : List Int)).bind fun y263 => (if 0 ≤ a3 then (if a3 < (l0_0.length : Int) then (if a1_0 < (l0_1.length : Int) then (some (0, wrap64 (a0_2 + bt258.1), (y263.set (a3 : Int).toNat (wrap64 ((rd y263 a3) + bt258.2))), (l0_1.set (a1_0 : Int).toNat (wrap64 ((rd l0_1 a1_0) + 1))))) else (none)) else (none)) else (none))) else (none)) else (none))) else (none)) else (none))) else (some (t257, a0_2, l0_0, l0_1)))) = some (r1, r2, r3, r4) := h
 clear h
 replace H := Option.bind_eq_some_iff.mp H
 obtain ⟨t257, A50, H⟩ := H
 have A5 := Aside0.mk A50
 clear A50
 by_cases c6 : t257 = 0
 ·rw [if_pos c6] at H
  have c6b0 : (t257 == 0) = true := beq_iff_eq.mpr c6
  have c6b1 : (t257 != 0) = false := bne_eq_false_iff_eq.mpr c6
  clear c6
  replace H := Option.bind_eq_some_iff.mp H
  obtain ⟨⟨t258, t259⟩, A70, H⟩ := H
  have A7 := Aside0.mk A70
  clear A70
  by_cases c8 : 0 ≤ a1_0
  ·rw [if_pos c8] at H
   have c8b0 : decide (0 ≤ a1_0) = true := decide_eq_true c8
   clear c8
   by_cases c9 : a1_0 < (l0_0.length : Int)
   ·rw [if_pos c9] at H
    have c9b0 : decide (a1_0 < (l0_0.length : Int)) = true := decide_eq_true c9
    clear c9
    obtain ⟨y261, hy261⟩ : ∃ y_ : List Int, y_ = (l0_0.set (a1_0 : Int).toNat (wrap64 ((rd l0_0 a1_0) - (wrap64 ((wrap64 (a1_2 + t258)) + t259))))) := ⟨_, rfl⟩
    replace H : (if 0 ≤ a1_1 then (if a1_1 < (l0_0.length : Int) then ((some (y261.set (a1_1 : Int).toNat (wrap64 ((rd y261 a1_1) + a1_2)) : List Int)).bind fun y263 => (if 0 ≤ a3 then (if a3 < (l0_0.length : Int) then (if a1_0 < (l0_1.length : Int) then (some (0, wrap64 (a0_2 + t258), (y263.set (a3 : Int).toNat (wrap64 ((rd y263 a3) + t259))), (l0_1.set (a1_0 : Int).toNat (wrap64 ((rd l0_1 a1_0) + 1))))) else (none)) else (none)) else (none))) else (none)) else (none)) = some (r1, r2, r3, r4) := by first | (rw [hy261]; with_reducible exact H) | (have H2_ := (Option.bind_some _ _).symm.trans H; rw [hy261]; with_reducible exact H2_) | (have H2_ := (Option.bind_some _ _).symm.trans H; with_reducible exact H2_) | with_reducible exact H | (rw [hy261]; exact H) | exact H
    have Ny261 := Aside0.mk hy261
    clear hy261
    by_cases c11 : 0 ≤ a1_1
    ·rw [if_pos c11] at H
     have c11b0 : decide (0 ≤ a1_1) = true := decide_eq_true c11
     clear c11
     by_cases c12 : a1_1 < (l0_0.length : Int)
     ·rw [if_pos c12] at H
      have c12b0 : decide (a1_1 < (l0_0.length : Int)) = true := decide_eq_true c12
      clear c12
      obtain ⟨y263, hy263⟩ : ∃ y_ : List Int, y_ = (y261.set (a1_1 : Int).toNat (wrap64 ((rd y261 a1_1) + a1_2))) := ⟨_, rfl⟩
      replace H : (if 0 ≤ a3 then (if a3 < (l0_0.length : Int) then (if a1_0 < (l0_1.length : Int) then (some (0, wrap64 (a0_2 + t258), (y263.set (a3 : Int).toNat (wrap64 ((rd y263 a3) + t259))), (l0_1.set (a1_0 : Int).toNat (wrap64 ((rd l0_1 a1_0) + 1))))) else (none)) else (none)) else (none)) = some (r1, r2, r3, r4) := by first | (rw [hy263]; with_reducible exact H) | (have H2_ := (Option.bind_some _ _).symm.trans H; rw [hy263]; with_reducible exact H2_) | (have H2_ := (Option.bind_some _ _).symm.trans H; with_reducible exact H2_) | with_reducible exact H | (rw [hy263]; exact H) | exact H
      have Ny263 := Aside0.mk hy263
      clear hy263
      by_cases c14 : 0 ≤ a3
      ·rw [if_pos c14] at H
       have c14b0 : decide (0 ≤ a3) = true := decide_eq_true c14
       clear c14
       by_cases c15 : a3 < (l0_0.length : Int)
       ·rw [if_pos c15] at H
        have c15b0 : decide (a3 < (l0_0.length : Int)) = true := decide_eq_true c15
        clear c15
        obtain ⟨y265, hy265⟩ : ∃ y_ : List Int, y_ = (y263.set (a3 : Int).toNat (wrap64 ((rd y263 a3) + t259))) := ⟨_, rfl⟩
        replace H : (if a1_0 < (l0_1.length : Int) then (some (0, wrap64 (a0_2 + t258), y265, (l0_1.set (a1_0 : Int).toNat (wrap64 ((rd l0_1 a1_0) + 1))))) else (none)) = some (r1, r2, r3, r4) := by first | (rw [hy265]; with_reducible exact H) | (have H2_ := (Option.bind_some _ _).symm.trans H; rw [hy265]; with_reducible exact H2_) | (have H2_ := (Option.bind_some _ _).symm.trans H; with_reducible exact H2_) | with_reducible exact H | (rw [hy265]; exact H) | exact H
        have Ny265 := Aside0.mk hy265
        clear hy265
        by_cases c17 : a1_0 < (l0_1.length : Int)
        ·rw [if_pos c17] at H
         have c17b0 : decide (a1_0 < (l0_1.length : Int)) = true := decide_eq_true c17
         clear c17
         obtain ⟨y267, hy267⟩ : ∃ y_ : List Int, y_ = (l0_1.set (a1_0 : Int).toNat (wrap64 ((rd l0_1 a1_0) + 1))) := ⟨_, rfl⟩
         replace H : (some (0, wrap64 (a0_2 + t258), y265, y267)) = some (r1, r2, r3, r4) := by first | (rw [hy267]; with_reducible exact H) | (have H2_ := (Option.bind_some _ _).symm.trans H; rw [hy267]; with_reducible exact H2_) | (have H2_ := (Option.bind_some _ _).symm.trans H; with_reducible exact H2_) | with_reducible exact H | (rw [hy267]; exact H) | exact H
         have Ny267 := Aside0.mk hy267
         clear hy267
         simp only [Option.some.injEq, Prod.mk.injEq] at H
         obtain ⟨rfl, rfl, rfl, rfl⟩ := H
         go_enter Try.func69, Try.ntmps69
         try go_wp2_with (first | ((with_reducible refine gate_dst (N := 5) rfl ?_); refine box_event ?hg (N := 5) ?hd (cs := #[.int .i64 a1_0, .int .i64 a1_1, .int .i64 a1_2, .int .i64 a1_3, .int .i64 a1_4, .int .i64 a1_5, .int .i64 a1_6]) (t := 32) ?hr ?_; (case hd => rfl); (case hg => rfl); (case hr => first | (go_simp; done) | (go_simp; rfl)); intro gb256 hg w19 hbox hb; have n_ := And.intro (Aside0.mk (Kd.R_below (rq HO0_0.out) hb)) (And.intro (Aside0.mk (Kd.R_below (rq HO0_1.out) hb)) (And.intro (Aside0.mk (bbq BK0.out hb)) (And.intro (Aside0.mk (Kept.below (S := (fun k_ => (P0_0_ k_ ∨ P0_1_ k_) ∨ k_ = g)) (by repeat (first | (with_reducible first | exact HK.out | apply Kept.alloc | apply Kept.drewN | apply Kept.drew | refine Kept.setCell ?_ (.inl (.inr rfl)) _) | exact HK.out)) hb)) (And.intro (Aside0.mk (below_step (bw1 HB.out GE0.out) hb)) (And.intro (Aside0.mk (hbox)) (And.intro (Aside0.mk ((by rw [hg]; exact (by first | exact HK.out.1 | exact (show Kept w _ (fun k_ => (P0_0_ k_ ∨ P0_1_ k_) ∨ k_ = g) from by repeat (first | (with_reducible first | exact HK.out | apply Kept.alloc | apply Kept.drewN | apply Kept.drew | refine Kept.setCell ?_ (.inl (.inr rfl)) _) | exact HK.out)).1) : w.heap.size ≤ gb256))) (And.intro (Aside0.mk ((by rw [hg]; exact (below_size (bw1 HB.out GE0.out)) : w0.heap.size ≤ gb256))) (And.intro (Aside0.mk ((nlq BK0.out hg))) (Aside0.mk ((ngq BK0.out hg))))))))))); clear HO0_0 HO0_1 BK0 HK HB; obtain ⟨HO0_0, HO0_1, BK0, HK, HB, BK256, GW256, GE256, NB0_256, NB256_0⟩ := n_; clear hb hbox hg))
         have n_ := And.intro (Aside0.mk (Kd.R_drew HO0_0.out)) (And.intro (Aside0.mk (Kd.R_drew HO0_1.out)) (And.intro (Aside0.mk (blk_drew BK0.out)) (And.intro (Aside0.mk (blk_drew BK256.out)) (And.intro (Aside0.mk (Kept.drew HK.out)) (Aside0.mk (below_drew1 HB.out))))))
         clear HO0_0 HO0_1 BK0 BK256 HK HB
         obtain ⟨HO0_0, HO0_1, BK0, BK256, HK, HB⟩ := n_
         obtain ⟨Ao21, co21, eo21⟩ := Kd.R_slice HO0_0.out
         (first | subst eo21 | (injection eo21 with f1_ f2_ f3_; have f4_ := f1_.symm; have f5_ := f3_.symm; clear f1_ f2_ f3_; subst f4_; subst f5_))
         obtain ⟨Ao22, co22, eo22⟩ := Kd.R_slice HO0_1.out
         (first | subst eo22 | (injection eo22 with f1_ f2_ f3_; have f4_ := f1_.symm; have f5_ := f3_.symm; clear f1_ f2_ f3_; subst f4_; subst f5_))
         refine start_ (n := 7) (S := fun w' => w'.cell? ⟨g, 0, none⟩ = some (.slice Ao21 l0_0.length co21) ∧ w'.cell? ⟨g, 1, none⟩ = some (.slice Ao22 l0_1.length co22) ∧ w'.cell? ⟨g, 2, none⟩ = some (.int .i64 a0_2) ∧ w'.cell? ⟨gb256, 0, none⟩ = some (.int .i64 a1_0) ∧ w'.cell? ⟨gb256, 1, none⟩ = some (.int .i64 a1_1) ∧ w'.cell? ⟨gb256, 2, none⟩ = some (.int .i64 a1_2) ∧ w'.cell? ⟨gb256, 3, none⟩ = some (.int .i64 a1_3) ∧ w'.cell? ⟨gb256, 4, none⟩ = some (.int .i64 a1_4) ∧ w'.cell? ⟨gb256, 5, none⟩ = some (.int .i64 a1_5) ∧ w'.cell? ⟨gb256, 6, none⟩ = some (.int .i64 a1_6)) (ds := []) #[false, false, false, false, false, false, false] (by kernel_rfl) rfl rfl (cr3 BK0.out (cl7 BK256.out)) (fun hHeld => ?_)
         generalize w19.drew = w20 at HO0_0 HO0_1 BK0 BK256 HK HB hHeld ⊢
         refine pure_ (i := 0) (N := some 12) (v := ?_) (a' := ?_) #[true, false, false, false, false, false, false] rfl rfl (by kernel_rfl) (fun _ _ _ h => h) (Or.inl ⟨by rfl, ?_⟩) ?_ ?_
         rotate_left
         ·intro w'
          go_simp
          with_reducible rfl
         rotate_left
         ·simp only [apn]
          rfl
         refine pure_ (i := 1) (N := some 13) (v := ?_) (a' := ?_) #[true, true, false, false, false, false, false] rfl rfl (by kernel_rfl) (fun _ _ _ h => h) (Or.inl ⟨by rfl, ?_⟩) ?_ ?_
         rotate_left
         ·intro w'
          go_simp
          with_reducible rfl
         rotate_left
         ·simp only [apn]
          rfl
         refine pure_ (i := 4) (N := some 16) (v := ?_) (a' := ?_) #[true, true, false, false, true, false, false] rfl rfl (by kernel_rfl) (fun _ _ _ h => h) (Or.inl ⟨by rfl, ?_⟩) ?_ ?_
         rotate_left
         ·intro w'
          go_simp
          with_reducible rfl
         rotate_left
         ·simp only [apn]
          rfl
         refine take_ (i := 2) (N := some 14) (v := ?_) (a' := ?_) #[true, true, true, false, true, false, false] rfl rfl (by kernel_rfl) (fun _ _ _ h => h) (Or.inl ⟨by rfl, ?_⟩) hHeld ?_ ?_
         rotate_left
         ·rintro w' ⟨s0, s1, s2, s3, s4, s5, s6, s7, s8, s9⟩
          go_simp
          with_reducible rfl
         rotate_left
         ·simp only [apn]
          rfl
         refine take_ (i := 3) (N := some 15) (v := ?_) (a' := ?_) #[true, true, true, true, true, false, false] rfl rfl (by kernel_rfl) (fun _ _ _ h => h) (Or.inl ⟨by rfl, ?_⟩) hHeld ?_ ?_
         rotate_left
         ·rintro w' ⟨s0, s1, s2, s3, s4, s5, s6, s7, s8, s9⟩
          go_simp
          with_reducible rfl
         rotate_left
         ·simp only [apn]
          rfl
         refine one_ (i := 5) (N := some 17) #[true, true, true, true, true, true, false] rfl rfl (by kernel_rfl) (by decide) (fun K hK => ?_)
         refine goes_ Try.func99 (by kernel_rfl) rfl #[.agg #[.slice Ao21 l0_0.length co21, .slice Ao22 l0_1.length co22, .int .i64 a0_2], .agg #[.int .i64 a1_0, .int .i64 a1_1, .int .i64 a1_2, .int .i64 a1_3, .int .i64 a1_4, .int .i64 a1_5, .int .i64 a1_6], .int .i64 a2] (by rfl) rfl rfl aq ?_
         with_reducible refine (impl_mayApply.calls _ _ l0_0 _ _ l0_1 a0_2 a1_0 a1_1 a1_2 a1_3 a1_4 a1_5 a1_6 a2 t257 _ ?side1 ?side2 ?side3 ?side4 A5.out).mono ?_
         (case side1 => exact caq (Kd.R_reads' HO0_0.out).2.2)
         (case side2 => exact (Kd.R_reads' HO0_0.out).2.1)
         (case side3 => exact caq (Kd.R_reads' HO0_1.out).2.2)
         (case side4 => exact (Kd.R_reads' HO0_1.out).2.1)
         rintro e w23 ⟨rfl, hb⟩
         refine ⟨_, rfl, ?_⟩
         have n_ := And.intro (Aside0.mk (Kd.R_below (rq HO0_0.out) hb)) (And.intro (Aside0.mk (Kd.R_below (rq HO0_1.out) hb)) (And.intro (Aside0.mk (bbq BK0.out hb)) (And.intro (Aside0.mk (bbq BK256.out hb)) (And.intro (Aside0.mk (Kept.below (S := (fun k_ => (P0_0_ k_ ∨ P0_1_ k_) ∨ k_ = g)) (by repeat (first | (with_reducible first | exact HK.out | apply Kept.alloc | apply Kept.drewN | apply Kept.drew | refine Kept.setCell ?_ (.inl (.inr rfl)) _ | refine Kept.setCell ?_ (.inr GW256.out) _) | exact HK.out)) hb)) (Aside0.mk (below_step (bw2 HB.out GE0.out GE256.out) hb))))))
         clear HO0_0 HO0_1 BK0 BK256 HK HB
         obtain ⟨HO0_0, HO0_1, BK0, BK256, HK, HB⟩ := n_
         (try clear hb)
         (try clear hb2)
         (try clear hk)
         (try clear hi)
         refine hK.out _ _ (cr3 BK0.out (cl7 BK256.out)) (fun hHeld => ?_)
         clear hK K
         refine norm_ (a' := ?_) ?_ ?_
         rotate_left
         ·show Act.put _ (some 17) _ = _
          simp only [apn]
          rfl
         refine pure_ (i := 6) (N := some 9) (v := ?_) (a' := ?_) #[true, true, true, true, true, true, true] rfl rfl (by kernel_rfl) (fun _ _ _ h => h) (Or.inl ⟨by rfl, ?_⟩) ?_ ?_
         rotate_left
         ·intro w'
          go_simp
          with_reducible rfl
         rotate_left
         ·simp only [apn]
          rfl
         refine done_ (by kernel_rfl) ?_
         have hnb24 := NB256_0.out
         have hnc24 := NB0_256.out
         obtain ⟨hcz25_0, hcz25_1, hcz25_2, hcz25_3, hcz25_4, hcz25_5, hcz25_6, hfz25_0, hfz25_1, hfz25_2, hfz25_3, hfz25_4, hfz25_5, hfz25_6⟩ := cq7 BK256.out
         try go_wp2_with (first | ((with_reducible refine gate_callee (f := 100) rfl ?_); refine goesL_ (some 29) rfl rfl Try.func100 (by kernel_rfl) rfl #[.int .i64 a2, .int .i64 a1_4, .int .i64 a1_5, .int .i64 a1_6] rfl aq ?_; (with_reducible refine (impl_costOf.calls a2 a1_4 a1_5 a1_6 t258 t259 _ A7.out).mono ?_); rintro e w26 ⟨rfl, hb⟩; refine ⟨_, rfl, ?_⟩; have n_ := And.intro (Aside0.mk (Kd.R_below (rq HO0_0.out) hb)) (And.intro (Aside0.mk (Kd.R_below (rq HO0_1.out) hb)) (And.intro (Aside0.mk (bbq BK0.out hb)) (And.intro (Aside0.mk (bbq BK256.out hb)) (And.intro (Aside0.mk (Kept.below (S := (fun k_ => (P0_0_ k_ ∨ P0_1_ k_) ∨ k_ = g)) (by repeat (first | (with_reducible first | exact HK.out | apply Kept.alloc | apply Kept.drewN | apply Kept.drew | refine Kept.setCell ?_ (.inl (.inr rfl)) _ | refine Kept.setCell ?_ (.inr GW256.out) _) | exact HK.out)) hb)) (Aside0.mk (below_step (bw2 HB.out GE0.out GE256.out) hb)))))); clear HO0_0 HO0_1 BK0 BK256 HK HB; obtain ⟨HO0_0, HO0_1, BK0, BK256, HK, HB⟩ := n_; (try clear hb); (try clear hb2); (try clear hk); (try clear hi)))
         have n_ := And.intro (Aside0.mk (Kd.R_drew HO0_0.out)) (And.intro (Aside0.mk (Kd.R_drew HO0_1.out)) (And.intro (Aside0.mk (blk_drew BK0.out)) (And.intro (Aside0.mk (blk_drew BK256.out)) (And.intro (Aside0.mk (Kept.drew HK.out)) (Aside0.mk (below_drew1 HB.out))))))
         clear HO0_0 HO0_1 BK0 BK256 HK HB
         obtain ⟨HO0_0, HO0_1, BK0, BK256, HK, HB⟩ := n_
         have p260 : 0 ≤ (a1_0 : Int) := of_decide_eq_true sq
         have q260 : a1_0 < (l0_0.length : Int) := of_decide_eq_true sq
         obtain ⟨ad260, e260, hx260_0⟩ := Kd.at_int (Kd.R_reads' HO0_0.out).2.2 a1_0 p260 q260
         cases e260
         replace p260 := eq_true p260
         replace q260 := eq_true q260
         have p10 : 0 ≤ (a1_0 : Int) := of_decide_eq_true sq
         have q10 : (a1_0 : Int) < ((l0_0.length : Int) : Int) := of_decide_eq_true sq
         obtain ⟨go10, co10, eo10, gb10, gl10, cl10, HG10⟩ := Kd.R_form HO0_0.out (by omega)
         (first | cases eo10 | (injection eo10 with ea_ en_ ec_; (first | subst ea_ | (injection ea_ with ea_; subst ea_)); subst ec_; clear en_))
         have GB10 := Aside0.mk gb10
         have GG10 := Aside0.mk HG10
         clear gb10 gl10 HG10
         have HMgo10 := Aside0.mk (show ((P0_0_ go10 ∨ P0_1_ go10) ∨ w.heap.size ≤ go10) from (HO0_0.out.1 _ rfl).1)
         (first | simp only [add_plain] at hx260_0 | skip)
         obtain ⟨hx10_0, hf10_0⟩ := Kd.R_celln 0 HO0_0.out (a1_0 : Int) p10 q10
         replace p10 := eq_true p10
         replace q10 := eq_true q10
         have HP28 := Kd.R_putn HO0_0.out (a1_0 : Int) (wrap64 ((rd l0_0 a1_0) - (wrap64 ((wrap64 (a1_2 + t258)) + t259))))
         rw [← Ny261.out] at HP28
         have HQ28 := Aside0.mk HP28
         clear HP28
         refine start_ (n := 17) (S := fun w' => w'.cell? ⟨g, 0, none⟩ = some (.slice (some ⟨go10, 0, none⟩) l0_0.length co21) ∧ w'.cell? ⟨g, 1, none⟩ = some (.slice Ao22 l0_1.length co22) ∧ w'.cell? ⟨g, 2, none⟩ = some (.int .i64 a0_2) ∧ w'.cell? ⟨gb256, 0, none⟩ = some (.int .i64 a1_0) ∧ w'.cell? ⟨gb256, 1, none⟩ = some (.int .i64 a1_1) ∧ w'.cell? ⟨gb256, 2, none⟩ = some (.int .i64 a1_2) ∧ w'.cell? ⟨gb256, 3, none⟩ = some (.int .i64 a1_3) ∧ w'.cell? ⟨gb256, 4, none⟩ = some (.int .i64 a1_4) ∧ w'.cell? ⟨gb256, 5, none⟩ = some (.int .i64 a1_5) ∧ w'.cell? ⟨gb256, 6, none⟩ = some (.int .i64 a1_6) ∧ w'.cell? ⟨go10, (a1_0).toNat, none⟩ = some (.int .i64 (rd l0_0 a1_0))) (ds := [16]) #[false, false, false, false, false, false, false, false, false, false, false, false, false, false, false, false, false] (by kernel_rfl) rfl rfl ⟨(blk_cell BK0.out 0).trans rfl, (blk_cell BK0.out 1).trans rfl, (blk_cell BK0.out 2).trans rfl, (blk_cell BK256.out 0).trans rfl, (blk_cell BK256.out 1).trans rfl, (blk_cell BK256.out 2).trans rfl, (blk_cell BK256.out 3).trans rfl, (blk_cell BK256.out 4).trans rfl, (blk_cell BK256.out 5).trans rfl, (blk_cell BK256.out 6).trans rfl, hx260_0⟩ (fun hHeld => ?_); refine with_tabW impl_State_apply.tab5 impl_State_apply.bits5 (fun HT_ HW_ => ?_)
         generalize w26.drew = w27 at HO0_0 HO0_1 BK0 BK256 HK HB GG10 HQ28 hf10_0 hx10_0 hx260_0 hHeld ⊢
         refine pure_ (i := 0) (N := some 32) (v := ?_) (a' := ?_) #[true, false, false, false, false, false, false, false, false, false, false, false, false, false, false, false, false] rfl rfl (any_of HT_.out (by kernel_rfl)) (fun _ _ _ h => h) (Or.inl ⟨by rfl, ?_⟩) ?_ ?_
         rotate_left
         ·intro w'
          go_simp
          with_reducible rfl
         rotate_left
         ·simp only [apn]
          rfl
         refine pure_ (i := 1) (N := some 33) (v := ?_) (a' := ?_) #[true, true, false, false, false, false, false, false, false, false, false, false, false, false, false, false, false] rfl rfl (any_of HT_.out (by kernel_rfl)) (fun _ _ _ h => h) (Or.inl ⟨by rfl, ?_⟩) ?_ ?_
         rotate_left
         ·intro w'
          go_simp
          with_reducible rfl
         rotate_left
         ·simp only [apn]
          rfl
         refine pure_ (i := 2) (N := some 34) (v := ?_) (a' := ?_) #[true, true, true, false, false, false, false, false, false, false, false, false, false, false, false, false, false] rfl rfl (any_of HT_.out (by kernel_rfl)) (fun _ _ _ h => h) (Or.inl ⟨by rfl, ?_⟩) ?_ ?_
         rotate_left
         ·intro w'
          go_simp
          with_reducible rfl
         rotate_left
         ·simp only [apn]
          rfl
         refine pure_ (i := 4) (N := some 36) (v := ?_) (a' := ?_) #[true, true, true, false, true, false, false, false, false, false, false, false, false, false, false, false, false] rfl rfl (any_of HT_.out (by kernel_rfl)) (fun _ _ _ h => h) (Or.inl ⟨by rfl, ?_⟩) ?_ ?_
         rotate_left
         ·intro w'
          go_simp
          with_reducible rfl
         rotate_left
         ·simp only [apn]
          rfl
         refine pure_ (i := 8) (N := some 40) (v := ?_) (a' := ?_) #[true, true, true, false, true, false, false, false, true, false, false, false, false, false, false, false, false] rfl rfl (any_of HT_.out (by kernel_rfl)) (fun _ _ _ h => h) (Or.inl ⟨by rfl, ?_⟩) ?_ ?_
         rotate_left
         ·intro w'
          go_simp
          with_reducible rfl
         rotate_left
         ·simp only [apn]
          rfl
         refine pure_ (i := 10) (N := some 42) (v := ?_) (a' := ?_) #[true, true, true, false, true, false, false, false, true, false, true, false, false, false, false, false, false] rfl rfl (any_of HT_.out (by kernel_rfl)) (fun _ _ _ h => h) (Or.inl ⟨by rfl, ?_⟩) ?_ ?_
         rotate_left
         ·intro w'
          go_simp
          with_reducible rfl
         rotate_left
         ·simp only [apn]
          rfl
         refine pure_ (i := 12) (N := some 44) (v := ?_) (a' := ?_) #[true, true, true, false, true, false, false, false, true, false, true, false, true, false, false, false, false] rfl rfl (any_of HT_.out (by kernel_rfl)) (fun _ _ _ h => h) (Or.inl ⟨by rfl, ?_⟩) ?_ ?_
         rotate_left
         ·intro w'
          go_simp
          with_reducible rfl
         rotate_left
         ·simp only [apn]
          rfl
         refine take_ (i := 3) (N := some 35) (v := ?_) (a' := ?_) #[true, true, true, true, true, false, false, false, true, false, true, false, true, false, false, false, false] rfl rfl (take_ofW HT_.out HW_.out (by kernel_rfl)) (fun _ _ _ h => h) (Or.inl ⟨by rfl, ?_⟩) hHeld ?_ ?_
         rotate_left
         ·rintro w' ⟨s0, s1, s2, s3, s4, s5, s6, s7, s8, s9, s10⟩
          go_simp
          with_reducible rfl
         rotate_left
         ·simp only [apn]
          rfl
         refine take_ (i := 5) (N := some 37) (v := ?_) (a' := ?_) #[true, true, true, true, true, true, false, false, true, false, true, false, true, false, false, false, false] rfl rfl (take_ofW HT_.out HW_.out (by kernel_rfl)) (fun _ _ _ h => h) (Or.inl ⟨by rfl, ?_⟩) hHeld ?_ ?_
         rotate_left
         ·rintro w' ⟨s0, s1, s2, s3, s4, s5, s6, s7, s8, s9, s10⟩
          go_simp
          with_reducible rfl
         rotate_left
         ·simp only [apn]
          rfl
         refine pure_ (i := 6) (N := some 38) (v := ?_) (a' := ?_) #[true, true, true, true, true, true, true, false, true, false, true, false, true, false, false, false, false] rfl rfl (any_of HT_.out (by kernel_rfl)) (fun _ _ _ h => h) (Or.inl ⟨by rfl, ?_⟩) ?_ ?_
         rotate_left
         ·intro w'
          go_simp
          with_reducible rfl
         rotate_left
         ·simp only [apn]
          rfl
         refine take_ (i := 7) (N := some 39) (v := ?_) (a' := ?_) #[true, true, true, true, true, true, true, true, true, false, true, false, true, false, false, false, false] rfl rfl (take_ofW HT_.out HW_.out (by kernel_rfl)) (fun _ _ _ h => h) (Or.inl ⟨by rfl, ?_⟩) hHeld ?_ ?_
         rotate_left
         ·rintro w' ⟨s0, s1, s2, s3, s4, s5, s6, s7, s8, s9, s10⟩
          go_simp
          with_reducible rfl
         rotate_left
         ·simp only [apn]
          rfl
         refine take_ (i := 9) (N := some 41) (v := ?_) (a' := ?_) #[true, true, true, true, true, true, true, true, true, true, true, false, true, false, false, false, false] rfl rfl (take_ofW HT_.out HW_.out (by kernel_rfl)) (fun _ _ _ h => h) (Or.inl ⟨by rfl, ?_⟩) hHeld ?_ ?_
         rotate_left
         ·rintro w' ⟨s0, s1, s2, s3, s4, s5, s6, s7, s8, s9, s10⟩
          go_simp
          with_reducible rfl
         rotate_left
         ·simp only [apn]
          rfl
         refine pure_ (i := 11) (N := some 43) (v := ?_) (a' := ?_) #[true, true, true, true, true, true, true, true, true, true, true, true, true, false, false, false, false] rfl rfl (any_of HT_.out (by kernel_rfl)) (fun _ _ _ h => h) (Or.inl ⟨by rfl, ?_⟩) ?_ ?_
         rotate_left
         ·intro w'
          go_simp
          with_reducible rfl
         rotate_left
         ·simp only [apn]
          rfl
         refine pure_ (i := 13) (N := some 45) (v := ?_) (a' := ?_) #[true, true, true, true, true, true, true, true, true, true, true, true, true, true, false, false, false] rfl rfl (any_of HT_.out (by kernel_rfl)) (fun _ _ _ h => h) (Or.inl ⟨by rfl, ?_⟩) ?_ ?_
         rotate_left
         ·intro w'
          go_simp
          with_reducible rfl
         rotate_left
         ·simp only [apn]
          rfl
         refine pure_ (i := 14) (N := some 46) (v := ?_) (a' := ?_) #[true, true, true, true, true, true, true, true, true, true, true, true, true, true, true, false, false] rfl rfl (any_of HT_.out (by kernel_rfl)) (fun _ _ _ h => h) (Or.inl ⟨by rfl, ?_⟩) ?_ ?_
         rotate_left
         ·intro w'
          go_simp
          with_reducible rfl
         rotate_left
         ·simp only [apn]
          rfl
         refine pure_ (i := 15) (N := some 47) (v := ?_) (a' := ?_) #[true, true, true, true, true, true, true, true, true, true, true, true, true, true, true, true, false] rfl rfl (any_of HT_.out (by kernel_rfl)) (fun _ _ _ h => h) (Or.inl ⟨by rfl, ?_⟩) ?_ ?_
         rotate_left
         ·intro w'
          go_simp
          with_reducible rfl
         rotate_left
         ·simp only [apn]
          rfl
         refine last_ (i := 16) (N := none) #[true, true, true, true, true, true, true, true, true, true, true, true, true, true, true, true, true] rfl rfl (one_of HT_.out (by kernel_rfl)) (by decide) (fun K hK => ?_)
         refine skip_ (w1 := ?_) (by rfl) rfl ?_ ?_
         rotate_left
         ·go_simp
          rfl
         refine hK.out _ _ ?_
         clear hK K
         refine done_ (done_of HT_.out (by kernel_rfl)) ?_
         have n0_ : Aside0 (Kd.R (Kd.int .i64) 3 (w27.setCell ⟨go10, (a1_0 : Int).toNat, none⟩ (.int .i64 (wrap64 ((rd l0_0 a1_0) - (wrap64 ((wrap64 (a1_2 + t258)) + t259)))))) w0.heap.size (fun k_ => ((P0_0_ k_ ∨ P0_1_ k_) ∨ w.heap.size ≤ k_) ∧ some k_ ≠ (.slice Ao22 l0_1.length co22 : Value).ownBlock) (.slice (some ⟨go10, 0, none⟩) l0_0.length co21) y261) := ⟨by (with_reducible repeat (first | apply Kd.R_alloc | apply Kd.R_drewN | apply Kd.R_drew)); exact HQ28.out⟩
         have n1_ : Aside0 (Kd.R (Kd.int .i64) 3 (w27.setCell ⟨go10, (a1_0 : Int).toNat, none⟩ (.int .i64 (wrap64 ((rd l0_0 a1_0) - (wrap64 ((wrap64 (a1_2 + t258)) + t259)))))) w0.heap.size (fun k_ => ((P0_0_ k_ ∨ P0_1_ k_) ∨ w.heap.size ≤ k_) ∧ some k_ ≠ (.slice (some ⟨go10, 0, none⟩) l0_0.length co21 : Value).ownBlock) (.slice Ao22 l0_1.length co22) l0_1) := ⟨by (with_reducible repeat (first | apply Kd.R_alloc | apply Kd.R_drewN | apply Kd.R_drew)); exact Kd.R_mono (Kd.R_far (p := ⟨go10, (a1_0 : Int).toNat, none⟩) (Kd.R_mono HO0_1.out (fun k_ hk => (⟨hk, fun e_ => hk.2 (by rw [e_]; rfl)⟩ : _ ∧ k_ ≠ go10))) (fun _ hk => hk.2) (.int .i64 (wrap64 ((rd l0_0 a1_0) - (wrap64 ((wrap64 (a1_2 + t258)) + t259)))))) (fun _ hk => ⟨hk.1.1, hk.1.2⟩)⟩
         have n2_ : Aside0 ((w27.setCell ⟨go10, (a1_0 : Int).toNat, none⟩ (.int .i64 (wrap64 ((rd l0_0 a1_0) - (wrap64 ((wrap64 (a1_2 + t258)) + t259)))))).heap[g]? = some (.cells #[.slice (some ⟨go10, 0, none⟩) l0_0.length co21, .slice Ao22 l0_1.length co22, .int .i64 a0_2] 28 (0, 0))) := ⟨by (with_reducible repeat (first | refine blk_drewN ?_ _ | refine blk_drew ?_ | refine blk_alloc ?_ _)); refine blk_far ?_ (by have h_ := Kd.R_ne HO0_0.out BK0.out (by decide); intro e_; exact h_ (by rw [e_]; rfl)) _; (with_reducible repeat (first | refine blk_drewN ?_ _ | refine blk_drew ?_ | refine blk_alloc ?_ _)); exact BK0.out⟩
         have n3_ : Aside0 ((w27.setCell ⟨go10, (a1_0 : Int).toNat, none⟩ (.int .i64 (wrap64 ((rd l0_0 a1_0) - (wrap64 ((wrap64 (a1_2 + t258)) + t259)))))).heap[gb256]? = some (.cells #[.int .i64 a1_0, .int .i64 a1_1, .int .i64 a1_2, .int .i64 a1_3, .int .i64 a1_4, .int .i64 a1_5, .int .i64 a1_6] 32 (0, 0))) := ⟨by (with_reducible repeat (first | refine blk_drewN ?_ _ | refine blk_drew ?_ | refine blk_alloc ?_ _)); refine blk_far ?_ (by have h_ := Kd.R_ne HO0_0.out BK256.out (by decide); intro e_; exact h_ (by rw [e_]; rfl)) _; (with_reducible repeat (first | refine blk_drewN ?_ _ | refine blk_drew ?_ | refine blk_alloc ?_ _)); exact BK256.out⟩
         have n4_ : Aside0 (Kept w (w27.setCell ⟨go10, (a1_0 : Int).toNat, none⟩ (.int .i64 (wrap64 ((rd l0_0 a1_0) - (wrap64 ((wrap64 (a1_2 + t258)) + t259)))))) (fun k_ => (P0_0_ k_ ∨ P0_1_ k_) ∨ k_ = g)) := ⟨by repeat (first | (with_reducible first | exact HK.out | apply Kept.alloc | apply Kept.drewN | apply Kept.drew | refine Kept.setCell ?_ (Or.imp_left Or.inl HMgo10.out) _ | refine Kept.setCell ?_ (.inl (.inr rfl)) _ | refine Kept.setCell ?_ (.inr GW256.out) _) | exact HK.out)⟩
         have n5_ : Aside0 (Below w0.heap.size w0 (w27.setCell ⟨go10, (a1_0 : Int).toNat, none⟩ (.int .i64 (wrap64 ((rd l0_0 a1_0) - (wrap64 ((wrap64 (a1_2 + t258)) + t259))))))) := ⟨by repeat (first | (with_reducible first | exact HB.out | apply below_alloc | apply pw_below_drewN | apply below_drew1 | refine below_set ?_ GB10.out | refine below_set ?_ GE0.out | refine below_set ?_ GE256.out) | exact HB.out)⟩
         (try clear HO0_0)
         (try clear HO0_1)
         (try clear BK0)
         (try clear BK256)
         (try clear HK)
         (try clear HB)
         generalize (w27.setCell ⟨go10, (a1_0 : Int).toNat, none⟩ (.int .i64 (wrap64 ((rd l0_0 a1_0) - (wrap64 ((wrap64 (a1_2 + t258)) + t259)))))) = w29 at n0_ n1_ n2_ n3_ n4_ n5_ ⊢
         have HO0_0 := n0_
         have HO0_1 := n1_
         have BK0 := n2_
         have BK256 := n3_
         have HK := n4_
         have HB := n5_
         clear n0_ n1_ n2_ n3_ n4_ n5_
         try go_wp2
         have n_ := And.intro (Aside0.mk (Kd.R_drew HO0_0.out)) (And.intro (Aside0.mk (Kd.R_drew HO0_1.out)) (And.intro (Aside0.mk (blk_drew BK0.out)) (And.intro (Aside0.mk (blk_drew BK256.out)) (And.intro (Aside0.mk (Kept.drew HK.out)) (Aside0.mk (below_drew1 HB.out))))))
         clear HO0_0 HO0_1 BK0 BK256 HK HB
         obtain ⟨HO0_0, HO0_1, BK0, BK256, HK, HB⟩ := n_
         have p262 : 0 ≤ (a1_1 : Int) := of_decide_eq_true sq
         have q262 : a1_1 < (y261.length : Int) := (by have h_ : (a1_1 : Int) < ((l0_0.length : Int) : Int) := of_decide_eq_true sq; first | (have e_ := (Kd.R_reads' HO0_0.out).1; omega) | simpa only [Ny261.out, List.length_set] using h_)
         have ql262 : ((a1_1 : Int) < ((l0_0.length : Int) : Int)) = True := eq_true (of_decide_eq_true sq)
         obtain ⟨ad262, e262, hx262_0⟩ := Kd.at_int (Kd.R_reads' HO0_0.out).2.2 a1_1 p262 q262
         obtain rfl : (⟨go10, 0, none⟩ : Addr) = ad262 := (by injection e262)
         (first | simp only [add_plain] at hx262_0 | simp only [add_at] at hx262_0 | simp only [Addr.add, Nat.zero_add] at hx262_0 | skip)
         replace p262 := eq_true p262
         replace q262 := eq_true q262
         have p13 : 0 ≤ (a1_1 : Int) := of_decide_eq_true sq
         have q13 : (a1_1 : Int) < ((l0_0.length : Int) : Int) := of_decide_eq_true sq
         obtain ⟨hx13_0, hf13_0⟩ := Kd.R_celln 0 HO0_0.out (a1_1 : Int) p13 q13
         replace p13 := eq_true p13
         replace q13 := eq_true q13
         have HP31 := Kd.R_putn HO0_0.out (a1_1 : Int) (wrap64 ((rd y261 a1_1) + a1_2))
         rw [← Ny263.out] at HP31
         have HQ31 := Aside0.mk HP31
         clear HP31
         refine start_ (n := 13) (S := fun w' => w'.cell? ⟨g, 0, none⟩ = some (.slice (some ⟨go10, 0, none⟩) l0_0.length co21) ∧ w'.cell? ⟨g, 1, none⟩ = some (.slice Ao22 l0_1.length co22) ∧ w'.cell? ⟨g, 2, none⟩ = some (.int .i64 a0_2) ∧ w'.cell? ⟨gb256, 0, none⟩ = some (.int .i64 a1_0) ∧ w'.cell? ⟨gb256, 1, none⟩ = some (.int .i64 a1_1) ∧ w'.cell? ⟨gb256, 2, none⟩ = some (.int .i64 a1_2) ∧ w'.cell? ⟨gb256, 3, none⟩ = some (.int .i64 a1_3) ∧ w'.cell? ⟨gb256, 4, none⟩ = some (.int .i64 a1_4) ∧ w'.cell? ⟨gb256, 5, none⟩ = some (.int .i64 a1_5) ∧ w'.cell? ⟨gb256, 6, none⟩ = some (.int .i64 a1_6) ∧ w'.cell? ⟨go10, (a1_1).toNat, none⟩ = some (.int .i64 (rd y261 a1_1))) (ds := [12]) #[false, false, false, false, false, false, false, false, false, false, false, false, false] (by kernel_rfl) rfl rfl ⟨(blk_cell BK0.out 0).trans rfl, (blk_cell BK0.out 1).trans rfl, (blk_cell BK0.out 2).trans rfl, (blk_cell BK256.out 0).trans rfl, (blk_cell BK256.out 1).trans rfl, (blk_cell BK256.out 2).trans rfl, (blk_cell BK256.out 3).trans rfl, (blk_cell BK256.out 4).trans rfl, (blk_cell BK256.out 5).trans rfl, (blk_cell BK256.out 6).trans rfl, hx262_0⟩ (fun hHeld => ?_); refine with_tabW impl_State_apply.tab6 impl_State_apply.bits6 (fun HT_ HW_ => ?_)
         generalize w29.drew = w30 at HO0_0 HO0_1 BK0 BK256 HK HB HQ31 hf13_0 hx13_0 hx262_0 hHeld ⊢
         refine pure_ (i := 0) (N := some 48) (v := ?_) (a' := ?_) #[true, false, false, false, false, false, false, false, false, false, false, false, false] rfl rfl (any_of HT_.out (by kernel_rfl)) (fun _ _ _ h => h) (Or.inl ⟨by rfl, ?_⟩) ?_ ?_
         rotate_left
         ·intro w'
          go_simp
          with_reducible rfl
         rotate_left
         ·simp only [apn]
          rfl
         refine pure_ (i := 1) (N := some 49) (v := ?_) (a' := ?_) #[true, true, false, false, false, false, false, false, false, false, false, false, false] rfl rfl (any_of HT_.out (by kernel_rfl)) (fun _ _ _ h => h) (Or.inl ⟨by rfl, ?_⟩) ?_ ?_
         rotate_left
         ·intro w'
          go_simp
          with_reducible rfl
         rotate_left
         ·simp only [apn]
          rfl
         refine pure_ (i := 2) (N := some 50) (v := ?_) (a' := ?_) #[true, true, true, false, false, false, false, false, false, false, false, false, false] rfl rfl (any_of HT_.out (by kernel_rfl)) (fun _ _ _ h => h) (Or.inl ⟨by rfl, ?_⟩) ?_ ?_
         rotate_left
         ·intro w'
          go_simp
          with_reducible rfl
         rotate_left
         ·simp only [apn]
          rfl
         refine pure_ (i := 4) (N := some 52) (v := ?_) (a' := ?_) #[true, true, true, false, true, false, false, false, false, false, false, false, false] rfl rfl (any_of HT_.out (by kernel_rfl)) (fun _ _ _ h => h) (Or.inl ⟨by rfl, ?_⟩) ?_ ?_
         rotate_left
         ·intro w'
          go_simp
          with_reducible rfl
         rotate_left
         ·simp only [apn]
          rfl
         refine pure_ (i := 8) (N := some 56) (v := ?_) (a' := ?_) #[true, true, true, false, true, false, false, false, true, false, false, false, false] rfl rfl (any_of HT_.out (by kernel_rfl)) (fun _ _ _ h => h) (Or.inl ⟨by rfl, ?_⟩) ?_ ?_
         rotate_left
         ·intro w'
          go_simp
          with_reducible rfl
         rotate_left
         ·simp only [apn]
          rfl
         refine take_ (i := 3) (N := some 51) (v := ?_) (a' := ?_) #[true, true, true, true, true, false, false, false, true, false, false, false, false] rfl rfl (take_ofW HT_.out HW_.out (by kernel_rfl)) (fun _ _ _ h => h) (Or.inl ⟨by rfl, ?_⟩) hHeld ?_ ?_
         rotate_left
         ·rintro w' ⟨s0, s1, s2, s3, s4, s5, s6, s7, s8, s9, s10⟩
          go_simp
          with_reducible rfl
         rotate_left
         ·simp only [apn]
          rfl
         refine take_ (i := 5) (N := some 53) (v := ?_) (a' := ?_) #[true, true, true, true, true, true, false, false, true, false, false, false, false] rfl rfl (take_ofW HT_.out HW_.out (by kernel_rfl)) (fun _ _ _ h => h) (Or.inl ⟨by rfl, ?_⟩) hHeld ?_ ?_
         rotate_left
         ·rintro w' ⟨s0, s1, s2, s3, s4, s5, s6, s7, s8, s9, s10⟩
          go_simp
          with_reducible rfl
         rotate_left
         ·simp only [apn]
          rfl
         refine pure_ (i := 6) (N := some 54) (v := ?_) (a' := ?_) #[true, true, true, true, true, true, true, false, true, false, false, false, false] rfl rfl (any_of HT_.out (by kernel_rfl)) (fun _ _ _ h => h) (Or.inl ⟨by rfl, ?_⟩) ?_ ?_
         rotate_left
         ·intro w'
          go_simp
          with_reducible rfl
         rotate_left
         ·simp only [apn]
          rfl
         refine take_ (i := 7) (N := some 55) (v := ?_) (a' := ?_) #[true, true, true, true, true, true, true, true, true, false, false, false, false] rfl rfl (take_ofW HT_.out HW_.out (by kernel_rfl)) (fun _ _ _ h => h) (Or.inl ⟨by rfl, ?_⟩) hHeld ?_ ?_
         rotate_left
         ·rintro w' ⟨s0, s1, s2, s3, s4, s5, s6, s7, s8, s9, s10⟩
          go_simp
          with_reducible rfl
         rotate_left
         ·simp only [apn]
          rfl
         refine take_ (i := 9) (N := some 57) (v := ?_) (a' := ?_) #[true, true, true, true, true, true, true, true, true, true, false, false, false] rfl rfl (take_ofW HT_.out HW_.out (by kernel_rfl)) (fun _ _ _ h => h) (Or.inl ⟨by rfl, ?_⟩) hHeld ?_ ?_
         rotate_left
         ·rintro w' ⟨s0, s1, s2, s3, s4, s5, s6, s7, s8, s9, s10⟩
          go_simp
          with_reducible rfl
         rotate_left
         ·simp only [apn]
          rfl
         refine pure_ (i := 10) (N := some 58) (v := ?_) (a' := ?_) #[true, true, true, true, true, true, true, true, true, true, true, false, false] rfl rfl (any_of HT_.out (by kernel_rfl)) (fun _ _ _ h => h) (Or.inl ⟨by rfl, ?_⟩) ?_ ?_
         rotate_left
         ·intro w'
          go_simp
          with_reducible rfl
         rotate_left
         ·simp only [apn]
          rfl
         refine pure_ (i := 11) (N := some 59) (v := ?_) (a' := ?_) #[true, true, true, true, true, true, true, true, true, true, true, true, false] rfl rfl (any_of HT_.out (by kernel_rfl)) (fun _ _ _ h => h) (Or.inl ⟨by rfl, ?_⟩) ?_ ?_
         rotate_left
         ·intro w'
          go_simp
          with_reducible rfl
         rotate_left
         ·simp only [apn]
          rfl
         refine last_ (i := 12) (N := none) #[true, true, true, true, true, true, true, true, true, true, true, true, true] rfl rfl (one_of HT_.out (by kernel_rfl)) (by decide) (fun K hK => ?_)
         refine skip_ (w1 := ?_) (by rfl) rfl ?_ ?_
         rotate_left
         ·go_simp
          rfl
         refine hK.out _ _ ?_
         clear hK K
         refine done_ (done_of HT_.out (by kernel_rfl)) ?_
         have n0_ : Aside0 (Kd.R (Kd.int .i64) 3 (w30.setCell ⟨go10, (a1_1 : Int).toNat, none⟩ (.int .i64 (wrap64 ((rd y261 a1_1) + a1_2)))) w0.heap.size (fun k_ => ((P0_0_ k_ ∨ P0_1_ k_) ∨ w.heap.size ≤ k_) ∧ some k_ ≠ (.slice Ao22 l0_1.length co22 : Value).ownBlock) (.slice (some ⟨go10, 0, none⟩) l0_0.length co21) y263) := ⟨by (with_reducible repeat (first | apply Kd.R_alloc | apply Kd.R_drewN | apply Kd.R_drew)); exact HQ31.out⟩
         have n1_ : Aside0 (Kd.R (Kd.int .i64) 3 (w30.setCell ⟨go10, (a1_1 : Int).toNat, none⟩ (.int .i64 (wrap64 ((rd y261 a1_1) + a1_2)))) w0.heap.size (fun k_ => ((P0_0_ k_ ∨ P0_1_ k_) ∨ w.heap.size ≤ k_) ∧ some k_ ≠ (.slice (some ⟨go10, 0, none⟩) l0_0.length co21 : Value).ownBlock) (.slice Ao22 l0_1.length co22) l0_1) := ⟨by (with_reducible repeat (first | apply Kd.R_alloc | apply Kd.R_drewN | apply Kd.R_drew)); exact Kd.R_mono (Kd.R_far (p := ⟨go10, (a1_1 : Int).toNat, none⟩) (Kd.R_mono HO0_1.out (fun k_ hk => (⟨hk, fun e_ => hk.2 (by rw [e_]; rfl)⟩ : _ ∧ k_ ≠ go10))) (fun _ hk => hk.2) (.int .i64 (wrap64 ((rd y261 a1_1) + a1_2)))) (fun _ hk => ⟨hk.1.1, hk.1.2⟩)⟩
         have n2_ : Aside0 ((w30.setCell ⟨go10, (a1_1 : Int).toNat, none⟩ (.int .i64 (wrap64 ((rd y261 a1_1) + a1_2)))).heap[g]? = some (.cells #[.slice (some ⟨go10, 0, none⟩) l0_0.length co21, .slice Ao22 l0_1.length co22, .int .i64 a0_2] 28 (0, 0))) := ⟨by (with_reducible repeat (first | refine blk_drewN ?_ _ | refine blk_drew ?_ | refine blk_alloc ?_ _)); refine blk_far ?_ (by have h_ := Kd.R_ne HO0_0.out BK0.out (by decide); intro e_; exact h_ (by rw [e_]; rfl)) _; (with_reducible repeat (first | refine blk_drewN ?_ _ | refine blk_drew ?_ | refine blk_alloc ?_ _)); exact BK0.out⟩
         have n3_ : Aside0 ((w30.setCell ⟨go10, (a1_1 : Int).toNat, none⟩ (.int .i64 (wrap64 ((rd y261 a1_1) + a1_2)))).heap[gb256]? = some (.cells #[.int .i64 a1_0, .int .i64 a1_1, .int .i64 a1_2, .int .i64 a1_3, .int .i64 a1_4, .int .i64 a1_5, .int .i64 a1_6] 32 (0, 0))) := ⟨by (with_reducible repeat (first | refine blk_drewN ?_ _ | refine blk_drew ?_ | refine blk_alloc ?_ _)); refine blk_far ?_ (by have h_ := Kd.R_ne HO0_0.out BK256.out (by decide); intro e_; exact h_ (by rw [e_]; rfl)) _; (with_reducible repeat (first | refine blk_drewN ?_ _ | refine blk_drew ?_ | refine blk_alloc ?_ _)); exact BK256.out⟩
         have n4_ : Aside0 (Kept w (w30.setCell ⟨go10, (a1_1 : Int).toNat, none⟩ (.int .i64 (wrap64 ((rd y261 a1_1) + a1_2)))) (fun k_ => (P0_0_ k_ ∨ P0_1_ k_) ∨ k_ = g)) := ⟨by repeat (first | (with_reducible first | exact HK.out | apply Kept.alloc | apply Kept.drewN | apply Kept.drew | refine Kept.setCell ?_ (Or.imp_left Or.inl HMgo10.out) _ | refine Kept.setCell ?_ (.inl (.inr rfl)) _ | refine Kept.setCell ?_ (.inr GW256.out) _) | exact HK.out)⟩
         have n5_ : Aside0 (Below w0.heap.size w0 (w30.setCell ⟨go10, (a1_1 : Int).toNat, none⟩ (.int .i64 (wrap64 ((rd y261 a1_1) + a1_2))))) := ⟨by repeat (first | (with_reducible first | exact HB.out | apply below_alloc | apply pw_below_drewN | apply below_drew1 | refine below_set ?_ GB10.out | refine below_set ?_ GE0.out | refine below_set ?_ GE256.out) | exact HB.out)⟩
         (try clear HO0_0)
         (try clear HO0_1)
         (try clear BK0)
         (try clear BK256)
         (try clear HK)
         (try clear HB)
         generalize (w30.setCell ⟨go10, (a1_1 : Int).toNat, none⟩ (.int .i64 (wrap64 ((rd y261 a1_1) + a1_2)))) = w32 at n0_ n1_ n2_ n3_ n4_ n5_ ⊢
         have HO0_0 := n0_
         have HO0_1 := n1_
         have BK0 := n2_
         have BK256 := n3_
         have HK := n4_
         have HB := n5_
         clear n0_ n1_ n2_ n3_ n4_ n5_
         obtain ⟨hcz33_0, hcz33_1, hcz33_2, hfz33_0, hfz33_1, hfz33_2⟩ := cq3 BK0.out
         have p264 : 0 ≤ (a3 : Int) := of_decide_eq_true sq
         have q264 : a3 < (y263.length : Int) := (by have h_ : (a3 : Int) < ((l0_0.length : Int) : Int) := of_decide_eq_true sq; first | (have e_ := (Kd.R_reads' HO0_0.out).1; omega) | simpa only [Ny261.out, Ny263.out, List.length_set] using h_)
         have ql264 : ((a3 : Int) < ((l0_0.length : Int) : Int)) = True := eq_true (of_decide_eq_true sq)
         obtain ⟨ad264, e264, hx264_0⟩ := Kd.at_int (Kd.R_reads' HO0_0.out).2.2 a3 p264 q264
         obtain rfl : (⟨go10, 0, none⟩ : Addr) = ad264 := (by injection e264)
         (first | simp only [add_plain] at hx264_0 | simp only [add_at] at hx264_0 | simp only [Addr.add, Nat.zero_add] at hx264_0 | skip)
         replace p264 := eq_true p264
         replace q264 := eq_true q264
         have p16 : 0 ≤ (a3 : Int) := of_decide_eq_true sq
         have q16 : (a3 : Int) < ((l0_0.length : Int) : Int) := of_decide_eq_true sq
         obtain ⟨hx16_0, hf16_0⟩ := Kd.R_celln 0 HO0_0.out (a3 : Int) p16 q16
         replace p16 := eq_true p16
         replace q16 := eq_true q16
         obtain ⟨hy34_, hz34_⟩ := Kd.R_celln 0 HO0_0.out (a3 : Int) (of_decide_eq_true sq) (of_decide_eq_true sq)
         have HP34 := Kd.R_putg HO0_0.out (a3 : Int) (wrap64 ((rd y263 a3) + t259))
         try go_wp2_with (first | ((with_reducible refine gate_store (t := 3) (p := 69) rfl ?_); refine store_event (t := 3) (p := 69) (v := ?vo_w35) (w1 := (w32.setCell ⟨go10, (a3 : Int).toNat, none⟩ (.int .i64 (wrap64 ((rd y263 a3) + t259))))) ?hg ?ho ?hn ?hr ?_; (case ho => rfl); (case hg => rfl); (case hn => rfl); (case hr => first | (go_simp; done) | (go_simp; rfl)); intro w35 hw; have hg : w32.grownBy w35 (some go10) := (by rw [hw]; exact HP34.2); have hp_ : Kd.R (Kd.int .i64) 3 w35 w0.heap.size (fun k_ => ((P0_0_ k_ ∨ P0_1_ k_) ∨ w.heap.size ≤ k_) ∧ some k_ ≠ (.slice Ao22 l0_1.length co22 : Value).ownBlock) (.slice (some ⟨go10, 0, none⟩) l0_0.length co21) y265 := (by rw [hw, Ny265.out]; exact HP34.1); clear HP34; have n_ := And.intro (Aside0.mk (hp_)) (And.intro (Aside0.mk (Kd.R_after (v := (.slice (some ⟨go10, 0, none⟩) l0_0.length co21)) (v1 := (.slice (some ⟨go10, 0, none⟩) l0_0.length co21)) (ok := (fun k_ => ((P0_0_ k_ ∨ P0_1_ k_) ∨ w.heap.size ≤ k_))) (rq HO0_1.out) hg (.inl rfl))) (And.intro (Aside0.mk (blk_grown (g := g) (o := .cells #[.slice (some ⟨go10, 0, none⟩) l0_0.length co21, .slice Ao22 l0_1.length co22, .int .i64 a0_2] 28 (0, 0)) (bq BK0.out) hg (Kd.R_ne HO0_0.out BK0.out (by decide)))) (And.intro (Aside0.mk (blk_grown (g := gb256) (o := .cells #[.int .i64 a1_0, .int .i64 a1_1, .int .i64 a1_2, .int .i64 a1_3, .int .i64 a1_4, .int .i64 a1_5, .int .i64 a1_6] 32 (0, 0)) (bq BK256.out) hg (Kd.R_ne HO0_0.out BK256.out (by decide)))) (And.intro (Aside0.mk ((by rw [hw]; exact below_set (HB.out) GB10.out : Below w0.heap.size w0 w35))) (Aside0.mk (Kept.of_grown (S := (fun k_ => (P0_0_ k_ ∨ P0_1_ k_) ∨ k_ = g)) hg (by repeat (first | (with_reducible first | exact HK.out | apply Kept.alloc | apply Kept.drewN | apply Kept.drew | refine Kept.setCell ?_ (.inl (.inr rfl)) _ | refine Kept.setCell ?_ (.inr GW256.out) _) | exact HK.out)) (fun k_ e_ => Or.imp_left Or.inl ((HO0_0.out.1 k_ e_).1)))))))); clear HO0_0 HO0_1 BK0 BK256 HB HK; obtain ⟨HO0_0, HO0_1, BK0, BK256, HB, HK⟩ := n_; clear hg hw hp_; obtain ⟨hcz36_0, hcz36_1, hcz36_2, hfz36_0, hfz36_1, hfz36_2⟩ := cq3 BK0.out))
         have n0_ : Aside0 (Kd.R (Kd.int .i64) 3 (w35.setCell ⟨g, 2, none⟩ (.int .i64 (wrap64 (a0_2 + t258)))) w0.heap.size (fun k_ => ((P0_0_ k_ ∨ P0_1_ k_) ∨ w.heap.size ≤ k_) ∧ some k_ ≠ (.slice Ao22 l0_1.length co22 : Value).ownBlock) (.slice (some ⟨go10, 0, none⟩) l0_0.length co21) y265) := ⟨by (with_reducible repeat (first | apply Kd.R_alloc | apply Kd.R_drewN | apply Kd.R_drew)); exact Kd.R_mono (Kd.R_far (p := ⟨g, 2, none⟩) (Kd.R_types HO0_0.out BK0.out (by decide)) (fun _ hk => hk.2) (.int .i64 (wrap64 (a0_2 + t258)))) (fun _ hk => ⟨hk.1.1, hk.1.2⟩)⟩
         have n1_ : Aside0 (Kd.R (Kd.int .i64) 3 (w35.setCell ⟨g, 2, none⟩ (.int .i64 (wrap64 (a0_2 + t258)))) w0.heap.size (fun k_ => ((P0_0_ k_ ∨ P0_1_ k_) ∨ w.heap.size ≤ k_) ∧ some k_ ≠ (.slice (some ⟨go10, 0, none⟩) l0_0.length co21 : Value).ownBlock) (.slice Ao22 l0_1.length co22) l0_1) := ⟨by (with_reducible repeat (first | apply Kd.R_alloc | apply Kd.R_drewN | apply Kd.R_drew)); exact Kd.R_mono (Kd.R_far (p := ⟨g, 2, none⟩) (Kd.R_types HO0_1.out BK0.out (by decide)) (fun _ hk => hk.2) (.int .i64 (wrap64 (a0_2 + t258)))) (fun _ hk => ⟨hk.1.1, hk.1.2⟩)⟩
         have n2_ : Aside0 ((w35.setCell ⟨g, 2, none⟩ (.int .i64 (wrap64 (a0_2 + t258)))).heap[g]? = some (.cells #[.slice (some ⟨go10, 0, none⟩) l0_0.length co21, .slice Ao22 l0_1.length co22, .int .i64 (wrap64 (a0_2 + t258))] 28 (0, 0))) := ⟨by (with_reducible repeat (first | refine blk_drewN ?_ _ | refine blk_drew ?_ | refine blk_alloc ?_ _)); refine blk_put (cs := #[.slice (some ⟨go10, 0, none⟩) l0_0.length co21, .slice Ao22 l0_1.length co22, .int .i64 a0_2]) ?_ 2 _ rfl; (with_reducible repeat (first | refine blk_drewN ?_ _ | refine blk_drew ?_ | refine blk_alloc ?_ _)); exact BK0.out⟩
         have n3_ : Aside0 ((w35.setCell ⟨g, 2, none⟩ (.int .i64 (wrap64 (a0_2 + t258)))).heap[gb256]? = some (.cells #[.int .i64 a1_0, .int .i64 a1_1, .int .i64 a1_2, .int .i64 a1_3, .int .i64 a1_4, .int .i64 a1_5, .int .i64 a1_6] 32 (0, 0))) := ⟨by (with_reducible repeat (first | refine blk_drewN ?_ _ | refine blk_drew ?_ | refine blk_alloc ?_ _)); refine blk_far ?_ NB256_0.out _; (with_reducible repeat (first | refine blk_drewN ?_ _ | refine blk_drew ?_ | refine blk_alloc ?_ _)); exact BK256.out⟩
         have n4_ : Aside0 (Kept w (w35.setCell ⟨g, 2, none⟩ (.int .i64 (wrap64 (a0_2 + t258)))) (fun k_ => (P0_0_ k_ ∨ P0_1_ k_) ∨ k_ = g)) := ⟨by repeat (first | (with_reducible first | exact HK.out | apply Kept.alloc | apply Kept.drewN | apply Kept.drew | refine Kept.setCell ?_ (.inl (.inr rfl)) _ | refine Kept.setCell ?_ (.inr GW256.out) _) | exact HK.out)⟩
         have n5_ : Aside0 (Below w0.heap.size w0 (w35.setCell ⟨g, 2, none⟩ (.int .i64 (wrap64 (a0_2 + t258))))) := ⟨by repeat (first | (with_reducible first | exact HB.out | apply below_alloc | apply pw_below_drewN | apply below_drew1 | refine below_set ?_ GE0.out | refine below_set ?_ GE256.out) | exact HB.out)⟩
         (try clear HO0_0)
         (try clear HO0_1)
         (try clear BK0)
         (try clear BK256)
         (try clear HK)
         (try clear HB)
         generalize (w35.setCell ⟨g, 2, none⟩ (.int .i64 (wrap64 (a0_2 + t258)))) = w37 at n0_ n1_ n2_ n3_ n4_ n5_ ⊢
         have HO0_0 := n0_
         have HO0_1 := n1_
         have BK0 := n2_
         have BK256 := n3_
         have HK := n4_
         have HB := n5_
         clear n0_ n1_ n2_ n3_ n4_ n5_
         have n_ := And.intro (Aside0.mk (Kd.R_drew HO0_0.out)) (And.intro (Aside0.mk (Kd.R_drew HO0_1.out)) (And.intro (Aside0.mk (blk_drew BK0.out)) (And.intro (Aside0.mk (blk_drew BK256.out)) (And.intro (Aside0.mk (Kept.drew HK.out)) (Aside0.mk (below_drew1 HB.out))))))
         clear HO0_0 HO0_1 BK0 BK256 HK HB
         obtain ⟨HO0_0, HO0_1, BK0, BK256, HK, HB⟩ := n_
         have p266 : 0 ≤ (a1_0 : Int) := of_decide_eq_true sq
         have q266 : a1_0 < (l0_1.length : Int) := of_decide_eq_true sq
         obtain ⟨ad266, e266, hx266_0⟩ := Kd.at_int (Kd.R_reads' HO0_1.out).2.2 a1_0 p266 q266
         cases e266
         replace p266 := eq_true p266
         replace q266 := eq_true q266
         have p18 : 0 ≤ (a1_0 : Int) := of_decide_eq_true sq
         have q18 : (a1_0 : Int) < ((l0_1.length : Int) : Int) := of_decide_eq_true sq
         obtain ⟨go18, co18, eo18, gb18, gl18, cl18, HG18⟩ := Kd.R_form HO0_1.out (by omega)
         (first | cases eo18 | (injection eo18 with ea_ en_ ec_; (first | subst ea_ | (injection ea_ with ea_; subst ea_)); subst ec_; clear en_))
         have GB18 := Aside0.mk gb18
         have GG18 := Aside0.mk HG18
         clear gb18 gl18 HG18
         have HMgo18 := Aside0.mk (show ((P0_0_ go18 ∨ P0_1_ go18) ∨ w.heap.size ≤ go18) from (HO0_1.out.1 _ rfl).1)
         (first | simp only [add_plain] at hx266_0 | skip)
         obtain ⟨hx18_0, hf18_0⟩ := Kd.R_celln 0 HO0_1.out (a1_0 : Int) p18 q18
         replace p18 := eq_true p18
         replace q18 := eq_true q18
         have HP39 := Kd.R_putn HO0_1.out (a1_0 : Int) (wrap64 ((rd l0_1 a1_0) + 1))
         rw [← Ny267.out] at HP39
         have HQ39 := Aside0.mk HP39
         clear HP39
         refine start_ (n := 11) (S := fun w' => w'.cell? ⟨g, 0, none⟩ = some (.slice (some ⟨go10, 0, none⟩) l0_0.length co21) ∧ w'.cell? ⟨g, 1, none⟩ = some (.slice (some ⟨go18, 0, none⟩) l0_1.length co22) ∧ w'.cell? ⟨g, 2, none⟩ = some (.int .i64 (wrap64 (a0_2 + t258))) ∧ w'.cell? ⟨gb256, 0, none⟩ = some (.int .i64 a1_0) ∧ w'.cell? ⟨gb256, 1, none⟩ = some (.int .i64 a1_1) ∧ w'.cell? ⟨gb256, 2, none⟩ = some (.int .i64 a1_2) ∧ w'.cell? ⟨gb256, 3, none⟩ = some (.int .i64 a1_3) ∧ w'.cell? ⟨gb256, 4, none⟩ = some (.int .i64 a1_4) ∧ w'.cell? ⟨gb256, 5, none⟩ = some (.int .i64 a1_5) ∧ w'.cell? ⟨gb256, 6, none⟩ = some (.int .i64 a1_6) ∧ w'.cell? ⟨go18, (a1_0).toNat, none⟩ = some (.int .i64 (rd l0_1 a1_0))) (ds := [10]) #[false, false, false, false, false, false, false, false, false, false, false] (by kernel_rfl) rfl rfl ⟨(blk_cell BK0.out 0).trans rfl, (blk_cell BK0.out 1).trans rfl, (blk_cell BK0.out 2).trans rfl, (blk_cell BK256.out 0).trans rfl, (blk_cell BK256.out 1).trans rfl, (blk_cell BK256.out 2).trans rfl, (blk_cell BK256.out 3).trans rfl, (blk_cell BK256.out 4).trans rfl, (blk_cell BK256.out 5).trans rfl, (blk_cell BK256.out 6).trans rfl, hx266_0⟩ (fun hHeld => ?_); refine with_tabW impl_State_apply.tab9 impl_State_apply.bits9 (fun HT_ HW_ => ?_)
         generalize w37.drew = w38 at HO0_0 HO0_1 BK0 BK256 HK HB GG18 HQ39 hf18_0 hx18_0 hx266_0 hHeld ⊢
         refine pure_ (i := 0) (N := some 78) (v := ?_) (a' := ?_) #[true, false, false, false, false, false, false, false, false, false, false] rfl rfl (any_of HT_.out (by kernel_rfl)) (fun _ _ _ h => h) (Or.inl ⟨by rfl, ?_⟩) ?_ ?_
         rotate_left
         ·intro w'
          go_simp
          with_reducible rfl
         rotate_left
         ·simp only [apn]
          rfl
         refine pure_ (i := 1) (N := some 79) (v := ?_) (a' := ?_) #[true, true, false, false, false, false, false, false, false, false, false] rfl rfl (any_of HT_.out (by kernel_rfl)) (fun _ _ _ h => h) (Or.inl ⟨by rfl, ?_⟩) ?_ ?_
         rotate_left
         ·intro w'
          go_simp
          with_reducible rfl
         rotate_left
         ·simp only [apn]
          rfl
         refine pure_ (i := 2) (N := some 80) (v := ?_) (a' := ?_) #[true, true, true, false, false, false, false, false, false, false, false] rfl rfl (any_of HT_.out (by kernel_rfl)) (fun _ _ _ h => h) (Or.inl ⟨by rfl, ?_⟩) ?_ ?_
         rotate_left
         ·intro w'
          go_simp
          with_reducible rfl
         rotate_left
         ·simp only [apn]
          rfl
         refine pure_ (i := 4) (N := some 82) (v := ?_) (a' := ?_) #[true, true, true, false, true, false, false, false, false, false, false] rfl rfl (any_of HT_.out (by kernel_rfl)) (fun _ _ _ h => h) (Or.inl ⟨by rfl, ?_⟩) ?_ ?_
         rotate_left
         ·intro w'
          go_simp
          with_reducible rfl
         rotate_left
         ·simp only [apn]
          rfl
         refine take_ (i := 3) (N := some 81) (v := ?_) (a' := ?_) #[true, true, true, true, true, false, false, false, false, false, false] rfl rfl (take_ofW HT_.out HW_.out (by kernel_rfl)) (fun _ _ _ h => h) (Or.inl ⟨by rfl, ?_⟩) hHeld ?_ ?_
         rotate_left
         ·rintro w' ⟨s0, s1, s2, s3, s4, s5, s6, s7, s8, s9, s10⟩
          go_simp
          with_reducible rfl
         rotate_left
         ·simp only [apn]
          rfl
         refine take_ (i := 5) (N := some 83) (v := ?_) (a' := ?_) #[true, true, true, true, true, true, false, false, false, false, false] rfl rfl (take_ofW HT_.out HW_.out (by kernel_rfl)) (fun _ _ _ h => h) (Or.inl ⟨by rfl, ?_⟩) hHeld ?_ ?_
         rotate_left
         ·rintro w' ⟨s0, s1, s2, s3, s4, s5, s6, s7, s8, s9, s10⟩
          go_simp
          with_reducible rfl
         rotate_left
         ·simp only [apn]
          rfl
         refine pure_ (i := 6) (N := some 84) (v := ?_) (a' := ?_) #[true, true, true, true, true, true, true, false, false, false, false] rfl rfl (any_of HT_.out (by kernel_rfl)) (fun _ _ _ h => h) (Or.inl ⟨by rfl, ?_⟩) ?_ ?_
         rotate_left
         ·intro w'
          go_simp
          with_reducible rfl
         rotate_left
         ·simp only [apn]
          rfl
         refine take_ (i := 7) (N := some 85) (v := ?_) (a' := ?_) #[true, true, true, true, true, true, true, true, false, false, false] rfl rfl (take_ofW HT_.out HW_.out (by kernel_rfl)) (fun _ _ _ h => h) (Or.inl ⟨by rfl, ?_⟩) hHeld ?_ ?_
         rotate_left
         ·rintro w' ⟨s0, s1, s2, s3, s4, s5, s6, s7, s8, s9, s10⟩
          go_simp
          with_reducible rfl
         rotate_left
         ·simp only [apn]
          rfl
         refine pure_ (i := 8) (N := some 86) (v := ?_) (a' := ?_) #[true, true, true, true, true, true, true, true, true, false, false] rfl rfl (any_of HT_.out (by kernel_rfl)) (fun _ _ _ h => h) (Or.inl ⟨by rfl, ?_⟩) ?_ ?_
         rotate_left
         ·intro w'
          go_simp
          with_reducible rfl
         rotate_left
         ·simp only [apn]
          rfl
         refine pure_ (i := 9) (N := some 87) (v := ?_) (a' := ?_) #[true, true, true, true, true, true, true, true, true, true, false] rfl rfl (any_of HT_.out (by kernel_rfl)) (fun _ _ _ h => h) (Or.inl ⟨by rfl, ?_⟩) ?_ ?_
         rotate_left
         ·intro w'
          go_simp
          with_reducible rfl
         rotate_left
         ·simp only [apn]
          rfl
         refine last_ (i := 10) (N := none) #[true, true, true, true, true, true, true, true, true, true, true] rfl rfl (one_of HT_.out (by kernel_rfl)) (by decide) (fun K hK => ?_)
         refine skip_ (w1 := ?_) (by rfl) rfl ?_ ?_
         rotate_left
         ·go_simp
          rfl
         refine hK.out _ _ ?_
         clear hK K
         refine done_ (done_of HT_.out (by kernel_rfl)) ?_
         try go_wp2
         go_ret
         exact ⟨by first | rfl | (simp [errW_none, errW_some] <;> rfl) | (simp [*, errW_none, errW_some] <;> rfl), (by (with_reducible repeat (first | refine blk_drewN ?_ _ | refine blk_drew ?_ | refine blk_alloc ?_ _)); refine blk_far ?_ (by have h_ := Kd.R_ne HO0_1.out BK0.out (by decide); intro e_; exact h_ (by rw [e_]; rfl)) _; (with_reducible repeat (first | refine blk_drewN ?_ _ | refine blk_drew ?_ | refine blk_alloc ?_ _)); exact BK0.out), by (with_reducible repeat (first | apply Kd.R_alloc | apply Kd.R_drewN | apply Kd.R_drew)); exact Kd.R_mono (Kd.R_far (p := ⟨go18, (a1_0 : Int).toNat, none⟩) (Kd.R_mono HO0_0.out (fun k_ hk => (⟨hk, fun e_ => hk.2 (by rw [e_]; rfl)⟩ : _ ∧ k_ ≠ go18))) (fun _ hk => hk.2) (.int .i64 (wrap64 ((rd l0_1 a1_0) + 1)))) (fun _ hk => hk.1.1), by (with_reducible repeat (first | apply Kd.R_alloc | apply Kd.R_drewN | apply Kd.R_drew)); exact Kd.R_mono HQ39.out (fun _ hk => hk.1), by repeat (first | (with_reducible first | exact HB.out | apply below_alloc | apply pw_below_drewN | apply below_drew1 | refine below_set ?_ GB18.out | refine below_set ?_ GE0.out | refine below_set ?_ GE256.out) | exact HB.out), by repeat (first | (with_reducible first | exact HK.out | apply Kept.alloc | apply Kept.drewN | apply Kept.drew | refine Kept.setCell ?_ (Or.imp_left Or.inl HMgo18.out) _ | refine Kept.setCell ?_ (.inl (.inr rfl)) _ | refine Kept.setCell ?_ (.inr GW256.out) _) | exact HK.out)⟩
        ·rw [if_neg c17] at H
         exact absurd H (by simp)
       ·rw [if_neg c15] at H
        exact absurd H (by simp)
      ·rw [if_neg c14] at H
       exact absurd H (by simp)
     ·rw [if_neg c12] at H
      exact absurd H (by simp)
    ·rw [if_neg c11] at H
     exact absurd H (by simp)
   ·rw [if_neg c9] at H
    exact absurd H (by simp)
  ·rw [if_neg c8] at H
   exact absurd H (by simp)
 ·rw [if_neg c6] at H
  have c6b0 : (t257 == 0) = false := beq_eq_false_iff_ne.mpr c6
  have c6b1 : (t257 != 0) = true := bne_iff_ne.mpr c6
  simp only [Option.some.injEq, Prod.mk.injEq] at H
  obtain ⟨rfl, rfl, rfl, rfl⟩ := H
  go_enter Try.func69, Try.ntmps69
  try go_wp2_with (first | ((with_reducible refine gate_dst (N := 5) rfl ?_); refine box_event ?hg (N := 5) ?hd (cs := #[.int .i64 a1_0, .int .i64 a1_1, .int .i64 a1_2, .int .i64 a1_3, .int .i64 a1_4, .int .i64 a1_5, .int .i64 a1_6]) (t := 32) ?hr ?_; (case hd => rfl); (case hg => rfl); (case hr => first | (go_simp; done) | (go_simp; rfl)); intro gb256 hg w40 hbox hb; have n_ := And.intro (Aside0.mk (Kd.R_below (rq HO0_0.out) hb)) (And.intro (Aside0.mk (Kd.R_below (rq HO0_1.out) hb)) (And.intro (Aside0.mk (bbq BK0.out hb)) (And.intro (Aside0.mk (Kept.below (S := (fun k_ => (P0_0_ k_ ∨ P0_1_ k_) ∨ k_ = g)) (by repeat (first | (with_reducible first | exact HK.out | apply Kept.alloc | apply Kept.drewN | apply Kept.drew | refine Kept.setCell ?_ (.inl (.inr rfl)) _) | exact HK.out)) hb)) (And.intro (Aside0.mk (below_step (bw1 HB.out GE0.out) hb)) (And.intro (Aside0.mk (hbox)) (And.intro (Aside0.mk ((by rw [hg]; exact (by first | exact HK.out.1 | exact (show Kept w _ (fun k_ => (P0_0_ k_ ∨ P0_1_ k_) ∨ k_ = g) from by repeat (first | (with_reducible first | exact HK.out | apply Kept.alloc | apply Kept.drewN | apply Kept.drew | refine Kept.setCell ?_ (.inl (.inr rfl)) _) | exact HK.out)).1) : w.heap.size ≤ gb256))) (And.intro (Aside0.mk ((by rw [hg]; exact (below_size (bw1 HB.out GE0.out)) : w0.heap.size ≤ gb256))) (And.intro (Aside0.mk ((nlq BK0.out hg))) (Aside0.mk ((ngq BK0.out hg))))))))))); clear HO0_0 HO0_1 BK0 HK HB; obtain ⟨HO0_0, HO0_1, BK0, HK, HB, BK256, GW256, GE256, NB0_256, NB256_0⟩ := n_; clear hb hbox hg))
  have n_ := And.intro (Aside0.mk (Kd.R_drew HO0_0.out)) (And.intro (Aside0.mk (Kd.R_drew HO0_1.out)) (And.intro (Aside0.mk (blk_drew BK0.out)) (And.intro (Aside0.mk (blk_drew BK256.out)) (And.intro (Aside0.mk (Kept.drew HK.out)) (Aside0.mk (below_drew1 HB.out))))))
  clear HO0_0 HO0_1 BK0 BK256 HK HB
  obtain ⟨HO0_0, HO0_1, BK0, BK256, HK, HB⟩ := n_
  obtain ⟨Ao42, co42, eo42⟩ := Kd.R_slice HO0_0.out
  (first | subst eo42 | (injection eo42 with f1_ f2_ f3_; have f4_ := f1_.symm; have f5_ := f3_.symm; clear f1_ f2_ f3_; subst f4_; subst f5_))
  obtain ⟨Ao43, co43, eo43⟩ := Kd.R_slice HO0_1.out
  (first | subst eo43 | (injection eo43 with f1_ f2_ f3_; have f4_ := f1_.symm; have f5_ := f3_.symm; clear f1_ f2_ f3_; subst f4_; subst f5_))
  refine start_ (n := 7) (S := fun w' => w'.cell? ⟨g, 0, none⟩ = some (.slice Ao42 l0_0.length co42) ∧ w'.cell? ⟨g, 1, none⟩ = some (.slice Ao43 l0_1.length co43) ∧ w'.cell? ⟨g, 2, none⟩ = some (.int .i64 a0_2) ∧ w'.cell? ⟨gb256, 0, none⟩ = some (.int .i64 a1_0) ∧ w'.cell? ⟨gb256, 1, none⟩ = some (.int .i64 a1_1) ∧ w'.cell? ⟨gb256, 2, none⟩ = some (.int .i64 a1_2) ∧ w'.cell? ⟨gb256, 3, none⟩ = some (.int .i64 a1_3) ∧ w'.cell? ⟨gb256, 4, none⟩ = some (.int .i64 a1_4) ∧ w'.cell? ⟨gb256, 5, none⟩ = some (.int .i64 a1_5) ∧ w'.cell? ⟨gb256, 6, none⟩ = some (.int .i64 a1_6)) (ds := []) #[false, false, false, false, false, false, false] (by kernel_rfl) rfl rfl (cr3 BK0.out (cl7 BK256.out)) (fun hHeld => ?_)
  generalize w40.drew = w41 at HO0_0 HO0_1 BK0 BK256 HK HB hHeld ⊢
  refine pure_ (i := 0) (N := some 12) (v := ?_) (a' := ?_) #[true, false, false, false, false, false, false] rfl rfl (by kernel_rfl) (fun _ _ _ h => h) (Or.inl ⟨by rfl, ?_⟩) ?_ ?_
  rotate_left
  ·intro w'
   go_simp
   with_reducible rfl
  rotate_left
  ·simp only [apn]
   rfl
  refine pure_ (i := 1) (N := some 13) (v := ?_) (a' := ?_) #[true, true, false, false, false, false, false] rfl rfl (by kernel_rfl) (fun _ _ _ h => h) (Or.inl ⟨by rfl, ?_⟩) ?_ ?_
  rotate_left
  ·intro w'
   go_simp
   with_reducible rfl
  rotate_left
  ·simp only [apn]
   rfl
  refine pure_ (i := 4) (N := some 16) (v := ?_) (a' := ?_) #[true, true, false, false, true, false, false] rfl rfl (by kernel_rfl) (fun _ _ _ h => h) (Or.inl ⟨by rfl, ?_⟩) ?_ ?_
  rotate_left
  ·intro w'
   go_simp
   with_reducible rfl
  rotate_left
  ·simp only [apn]
   rfl
  refine take_ (i := 2) (N := some 14) (v := ?_) (a' := ?_) #[true, true, true, false, true, false, false] rfl rfl (by kernel_rfl) (fun _ _ _ h => h) (Or.inl ⟨by rfl, ?_⟩) hHeld ?_ ?_
  rotate_left
  ·rintro w' ⟨s0, s1, s2, s3, s4, s5, s6, s7, s8, s9⟩
   go_simp
   with_reducible rfl
  rotate_left
  ·simp only [apn]
   rfl
  refine take_ (i := 3) (N := some 15) (v := ?_) (a' := ?_) #[true, true, true, true, true, false, false] rfl rfl (by kernel_rfl) (fun _ _ _ h => h) (Or.inl ⟨by rfl, ?_⟩) hHeld ?_ ?_
  rotate_left
  ·rintro w' ⟨s0, s1, s2, s3, s4, s5, s6, s7, s8, s9⟩
   go_simp
   with_reducible rfl
  rotate_left
  ·simp only [apn]
   rfl
  refine one_ (i := 5) (N := some 17) #[true, true, true, true, true, true, false] rfl rfl (by kernel_rfl) (by decide) (fun K hK => ?_)
  refine goes_ Try.func99 (by kernel_rfl) rfl #[.agg #[.slice Ao42 l0_0.length co42, .slice Ao43 l0_1.length co43, .int .i64 a0_2], .agg #[.int .i64 a1_0, .int .i64 a1_1, .int .i64 a1_2, .int .i64 a1_3, .int .i64 a1_4, .int .i64 a1_5, .int .i64 a1_6], .int .i64 a2] (by rfl) rfl rfl aq ?_
  with_reducible refine (impl_mayApply.calls _ _ l0_0 _ _ l0_1 a0_2 a1_0 a1_1 a1_2 a1_3 a1_4 a1_5 a1_6 a2 t257 _ ?side1 ?side2 ?side3 ?side4 A5.out).mono ?_
  (case side1 => exact caq (Kd.R_reads' HO0_0.out).2.2)
  (case side2 => exact (Kd.R_reads' HO0_0.out).2.1)
  (case side3 => exact caq (Kd.R_reads' HO0_1.out).2.2)
  (case side4 => exact (Kd.R_reads' HO0_1.out).2.1)
  rintro e w44 ⟨rfl, hb⟩
  refine ⟨_, rfl, ?_⟩
  have n_ := And.intro (Aside0.mk (Kd.R_below (rq HO0_0.out) hb)) (And.intro (Aside0.mk (Kd.R_below (rq HO0_1.out) hb)) (And.intro (Aside0.mk (bbq BK0.out hb)) (And.intro (Aside0.mk (bbq BK256.out hb)) (And.intro (Aside0.mk (Kept.below (S := (fun k_ => (P0_0_ k_ ∨ P0_1_ k_) ∨ k_ = g)) (by repeat (first | (with_reducible first | exact HK.out | apply Kept.alloc | apply Kept.drewN | apply Kept.drew | refine Kept.setCell ?_ (.inl (.inr rfl)) _ | refine Kept.setCell ?_ (.inr GW256.out) _) | exact HK.out)) hb)) (Aside0.mk (below_step (bw2 HB.out GE0.out GE256.out) hb))))))
  clear HO0_0 HO0_1 BK0 BK256 HK HB
  obtain ⟨HO0_0, HO0_1, BK0, BK256, HK, HB⟩ := n_
  (try clear hb)
  (try clear hb2)
  (try clear hk)
  (try clear hi)
  refine hK.out _ _ (cr3 BK0.out (cl7 BK256.out)) (fun hHeld => ?_)
  clear hK K
  refine norm_ (a' := ?_) ?_ ?_
  rotate_left
  ·show Act.put _ (some 17) _ = _
   simp only [apn]
   rfl
  refine pure_ (i := 6) (N := some 9) (v := ?_) (a' := ?_) #[true, true, true, true, true, true, true] rfl rfl (by kernel_rfl) (fun _ _ _ h => h) (Or.inl ⟨by rfl, ?_⟩) ?_ ?_
  rotate_left
  ·intro w'
   go_simp
   with_reducible rfl
  rotate_left
  ·simp only [apn]
   rfl
  refine done_ (by kernel_rfl) ?_
  try go_wp2
  go_ret
  exact ⟨by first | rfl | (simp [errW_none, errW_some] <;> rfl) | (simp [*, errW_none, errW_some] <;> rfl), (bq BK0.out), by (with_reducible repeat (first | apply Kd.R_alloc | apply Kd.R_drewN | apply Kd.R_drew)); exact Kd.R_mono HO0_0.out (fun _ hk => hk.1), by (with_reducible repeat (first | apply Kd.R_alloc | apply Kd.R_drewN | apply Kd.R_drew)); exact Kd.R_mono HO0_1.out (fun _ hk => hk.1), by repeat (first | (with_reducible first | exact HB.out | apply below_alloc | apply pw_below_drewN | apply below_drew1 | refine below_set ?_ GE0.out | refine below_set ?_ GE256.out) | exact HB.out), by repeat (first | (with_reducible first | exact HK.out | apply Kept.alloc | apply Kept.drewN | apply Kept.drew | refine Kept.setCell ?_ (.inl (.inr rfl)) _ | refine Kept.setCell ?_ (.inr GW256.out) _) | exact HK.out)⟩

end Go.Proofs.Ytiggokojffejeaa.PFnExactApplyWish
